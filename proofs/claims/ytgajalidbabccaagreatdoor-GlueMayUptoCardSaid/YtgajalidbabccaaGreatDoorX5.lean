/- Part 5 of a proof: the sources, with their names and remarks, lie in wip/. -/
import Derived.Test.YtgajalidbabccaaGreatDoorX4
import Derived.KernelRfl
open Bool renaming and_eq_true→af,not_eq_true'→jd,not_false→ef,not_true→dL
open ByteArray renaming empty→aw
open Eq renaming trans→aq
open Go.IntKind renaming wrap→aj
open Int renaming add_zero→eb,le_refl→f_,toNat_natCast→gQ
open List renaming all_cons→fq,all_eq_true→dU,append_nil→eN,length_cons→er,map_cons→iG,mem_append→eu,mem_cons→eh,mem_map→dA,nil_append→eF
open Nat renaming le_refl→ee,le_trans→fC
open Option renaming bind→ag,bind_some→bD
set_option linter.unusedVariables false
set_option linter.unusedSimpArgs false
namespace Go.Proofs.YtgajalidbabccaaGreatDoor
open Go PI
set_option maxRecDepth 20000
variable {S:Type} {k:Nat}
theorem jm {t:Tm} (h:dl t=0):ap t<=200/\aG t<=20000/\aE false (-1) 24 t=true:=by
 grind [dl]
theorem pX {t:Tm} (h1:ap t<=200) (h2:aG t<=20000) (h3:aE false (-1) 24 t=true):dl t=0:=by
 grind [dl]
theorem Ej (t:Tm):0<=dl t/\dl t<=1000:=by
 grind [dl]
def Fm (t:Tm):Prop:=OkT t/\dl t=0
theorem Fm.ok {t:Tm} (h:Fm t):OkT t:=h.1
theorem Fm.rows {t:Tm} (h:Fm t):RowsT t:=Uy t h.1 (jm h.2).2.2
theorem Fm.dep {t:Tm} (h:Fm t):ap t<=200:=(jm h.2).1
theorem Fm.siz {t:Tm} (h:Fm t):aG t<=20000:=(jm h.2).2.1
theorem nD {vb db v d:Int} (hvb:0<=vb/\vb<=1000000000) {t t':Tm} (h:Fm t) (hl:dP vb db v d t= .ok t'):Fm t':=by
 obtain ⟨h1,h2,h3,h4⟩:=EX hvb.1 hvb.2 t v d t' hl
 obtain ⟨a,b,c⟩:=jm h.2
 have:=h4 h.1
 exact ⟨this.1,pX (by omega) (by omega) (this.2.2 24 24 (by omega) (by omega) c)⟩
abbrev F3 (k:Nat):Prop:=4294968296<=k
theorem F3.fu (h:F3 k):Fu k:=by omega
theorem F3.fd (h:F3 k) {n:Nat} (hn:n<=1000):Fd k n:=by omega
theorem Fm.fd {t:Tm} (h:Fm t) (hk:F3 k):Fd k (ap t):=hk.fd (by have:=h.dep;omega)
theorem Fm.vp {t:Tm} (h:Fm t) {v d:Int} (hv:0<=v/\v<=4611686018427380000) (hd:0<=d/\d<=4611686018427380000):VP v d (ap t):=by have:=h.dep;unfold VP;omega
theorem kA (x:Except Int Tm) (J:Tm×Int->OS S):J (tE x)=eE x (fun t=>J (t,0)) fun e=>J (noT,e):=by cases x<;>rfl
theorem aaA (hk:Fu k) (J:Tm×Int->OS S) {c0 c2:Int} {c1:Tm} {ns:List Int} (hl:ns.length<1000) (hn: ∀x∈ns,0<=x):
  ∀ (r p:List Int) (m:Nat),ns=p++r->r.length<m->qh k J c0 c1 c2 ns m (p.length:Int)=zC k c0 c1 c2 fun r4=>Pan.elim r4 (fun r4=>J (r4,0)) fun e5=>J (noT,e5):=by
 intro r
 induction r with
 |nil=>
  intro p m h hm
  obtain ⟨m,rfl,hm'⟩:=ax hm
  simp only [qh,ye,eL h,ak,ao hk,aM];rfl
 |cons x r ih=>
  intro p m h hm
  obtain ⟨m,rfl,hm'⟩:=ax hm
  obtain ⟨e1,e2,e3,e4⟩:=bL h (by omega)
  have hx:=hn x (by grind)
  grind [qh,ye,eC]
theorem aeV (hk:F3 k) {t:Tm} (ht:Fm t) {f b:Int} (hf:0<=f/\f<=24) (hb:0<=b/\b<9223372036854775808) (J:Tm×Int->OS S):zB k t f b J=J (tE (dP 0 b 0 f t)):=by
 have hl:=aaA hk.fu J (c0:=b) (c2:=f) (c1:=t) (ns:=[f,b]) (by simp) (by grind) [f,b] [] k rfl (by grind)
 have hl:qh k J b t f [f,b] k 0=_:=hl
 simp only [zB,ao hk.fu,aM,DP,Hr,lY ht.ok (ht.fd hk) (show ap t<1099511627776 by have:=ht.dep;omega),ht.2,hl,zC]
 rw [show ((0:Int)==0)=true from rfl,dL,ak,if_neg (by omega),GG (by omega) (by unfold aI;omega) t ht.ok ht.rows _ (ht.fd hk) (ht.vp (by omega) (by omega)),pV,kA _ J]
 rfl
def cG (vb db:Int) (t:Tm):Except Int Tm:=bE (dP vb 0 0 0 t) (dP 0 db 0 0)
theorem lh {vb db:Int} (hvb:0<=vb/\vb<=1000000000) {t t':Tm} (h:Fm t) (hl:cG vb db t= .ok t'):Fm t':=by
 obtain ⟨a,h1,h2⟩:=am hl
 exact nD (by omega) (nD hvb h h1) h2
theorem g6 {vb db:Int} {t:Tm} {e:Int} (h:cG vb db t= .error e):0<e/\e<=1000:=by
 rcases dj h with h|⟨a,_,h⟩
 ·exact AF t h
 ·exact AF a h
theorem aaB (hk:Fu k) (J:Tm×Int->OS S) {c0 c1:Int} {c2:Tm} {ns:List Int} (hl:ns.length<1000) (hn: ∀x∈ns,0<=x):
  ∀ (r p:List Int) (m:Nat),ns=p++r->r.length<m->qi k J c0 c1 c2 ns m (p.length:Int)=zA k c0 c1 c2 fun r4=>Pan.elim r4 (fun r4=>J (r4,0)) fun e5=>J (noT,e5):=by
 intro r
 induction r with
 |nil=>
  intro p m h hm
  obtain ⟨m,rfl,hm'⟩:=ax hm
  simp only [qi,yf,eL h,ak,ao hk,aM];rfl
 |cons x r ih=>
  intro p m h hm
  obtain ⟨m,rfl,hm'⟩:=ax hm
  obtain ⟨e1,e2,e3,e4⟩:=bL h (by omega)
  have hx:=hn x (by grind)
  grind [qi,yf,eC]
theorem Pf (hk:F3 k) {t:Tm} (ht:Fm t) {vb db:Int} (hvb:0<=vb/\vb<=1000000) (hdb:0<=db/\db<9223372036854775808) (J:Tm×Int->OS S):pQ k t vb db J=J (tE (cG vb db t)):=by
 have hl:=aaB hk.fu J (c0:=db) (c1:=vb) (c2:=t) (ns:=[vb,db,1000000-vb]) (by simp) (by grind) [vb,db,1000000-vb] [] k rfl (by grind)
 have hl:qi k J db vb t [vb,db,1000000-vb] k 0=_:=hl
 simp only [pQ,ao hk.fu,aM,dY (n:=1000000-vb) (by omega) (by omega),zD,B2,lY ht.ok (ht.fd hk) (show ap t<1099511627776 by have:=ht.dep;omega),ht.2,hl,zA]
 rw [show ((0:Int)==0)=true from rfl,dL,ak,GG (show 0<=vb/\vb<=1000000000 by omega) (show aI 0 by unfold aI;omega) t ht.ok ht.rows _ (ht.fd hk) (ht.vp (by omega) (by omega)),pV,kA _ J]
 unfold cG
 rw [dk]
 refine gI (fun y hy=> ?_) fun _ _=>rfl
 have hy':=nD (show 0<=vb/\vb<=1000000000 by omega) ht hy
 rw [GG (show (0:Int)<=0/\(0:Int)<=1000000000 by omega) (show aI db by unfold aI;omega) y hy'.ok hy'.rows _ (hy'.fd hk) (hy'.vp (by omega) (by omega)),pV]
 rfl
def b7 (i:Int) (r:LC) (fa:Bool):fZ:=fun d f=>if ie (ml f) (i+d) then bE (fj (du r 0 d)) fun s=>fj (if fa then kY f (i+d) s else kZ f (i+d) s) else .ok f
theorem IU (f:LC):U32 (ml f):=by
 have:=IV f
 exact ⟨Int.natCast_nonneg _,by show ((mm f:Nat):Int)<_;omega⟩
theorem Ms {f r:LC} {i:Int} (hr:av r) (h:(kZ f i r).2=0):RF (kZ f i r).1:=by
 grind [kZ,JD,Mp,lX,jq]
theorem Fl (f g:LC):EN (iV f g).2:=tg _
theorem Av (f g:LC):EN (iO f g).2:=tg _
theorem abG (f g:LC):EN (nE f g).2:=tg _
theorem L0 (f:LC):EN (gL f).2:=Am fun h c=>Fl _ _
theorem acK (i:Int) (r:LC) (c:Cl):EN (jO i r c).2:=by
 grind [jO,Fl,vw]
theorem acM (i:Int) (r:LC) (c:Cl) (g:LC):EN (lR i r c g).2:=by
 grind [lR,Fl,L0,vw]
theorem acJ (i:Int) (r h:LC) (c:Cl):EN (mD i r h c).2:=by
 grind [mD,Av,acM,acK]
theorem acR (f:LC) (i:Int) (r:LC):EN (kZ f i r).2:=by
 grind [kZ,Am,acJ,nf]
theorem abW (f:LC):EN (lQ f).2:=by
 unfold lQ
 split
 ·exact tg _
 ·exact nf
theorem abX (f:LC):EN (mA f).2:=by
 unfold mA
 split
 ·split
  ·exact tg _
  ·exact L0 _
 ·exact nf
theorem acP {i:Int} {c:Cl} {h:LC} {q:LC×Int} (hq:EN q.2):EN (kw i c h q).2:=by
 grind [kw,Av,abG]
theorem acQ (f:LC) (i:Int) (r:LC):EN (kY f i r).2:=by
 grind [kY,Am,iW,acP,abW,abX,Av,nf]
theorem wM {i:Int} {r:LC} {fa:Bool} {d:Int} {f g:LC} (hf:RF f) (h:b7 i r fa d f= .ok g):RF g:=by
 unfold b7 at h
 split at h
 ·obtain ⟨s,h1,h⟩:=am h
  obtain ⟨h0,rfl⟩:=ju h1
  have hs:=km h0
  obtain ⟨h2,rfl⟩:=ju h
  cases fa with
  |true=>exact (Mr hf.2 hs.2 h2).1
  |false=>exact Ms hs.2 h2
 grind
theorem OF {i:Int} {r:LC} {fa:Bool} {d:Int} {f:LC} {e:Int} (h:b7 i r fa d f= .error e):0<e/\e<=1000:=by
 grind [b7,dj,B5,vQ,EN,acQ,acR]
theorem OG {i:Int} {r:LC} {fa:Bool} {d:Int}:b7 i r fa d []= .ok []:=by
 grind [b7,ie,ml,gQ,zQ,pi]
def oX (i:Int) (r:LC) (fa:Bool) (d:Int) (f:LC):LC×Int:=if ie (ml f) (i+d) then if (du r 0 d).2=0 then if fa then kY f (i+d) (du r 0 d).1 else kZ f (i+d) (du r 0 d).1 else ([],(du r 0 d).2) else (f,0)
theorem HM (i:Int) (r:LC) (fa:Bool) (d:Int) (f:LC):fj (oX i r fa d f)=b7 i r fa d f:=by
 grind [oX,b7,qW,bO,tZ,rf]
section
variable {i d:Int} {r f:LC}
theorem Pl (hk:Fu k) (hf:RF f) (hr:RF r) (hi:0<=i/\i<24) (hd:0<=d/\d<4611686018427387000) (J:LC×Int->OS S):uT k f d i r J=J (oX i r true d f):=by
 have l1:=hf.len;have l2:=hr.len
 simp only [uT,ao hk,dY (n:=i+d) (by omega) (by omega),GE hk hf.2 (show f.length<4294967296 by omega),qO hk (IU f),uS,dm (show 0+f.length<=1099511627776 by omega),wR hk hr.2 (show r.length<1073741824 by omega) (show aI 0 by unfold aI;omega) (show aI d by unfold aI;omega)]
 unfold oX
 cases ie (ml f) (i+d) with
 |false=>rfl
 |true=>
  rw [dL,ak,eI,if_pos rfl]
  by_cases h0:(du r 0 d).2=0
  ·have hs:=km h0
   rw [decide_eq_true h0,dL,ak,aeI hk hf.2 hs.2 hf.lt hs.lt,if_pos h0,if_pos rfl]
  grind [au]
theorem afb (hk:Fu k) (hf:RF f) (hr:RF r) (hi:0<=i/\i<24) (hd:0<=d/\d<4611686018427387000) (J:LC×Int->OS S):yX k f d i r J=J (oX i r false d f):=by
 have l1:=hf.len;have l2:=hr.len
 simp only [yX,ao hk,dY (n:=i+d) (by omega) (by omega),GE hk hf.2 (show f.length<4294967296 by omega),qO hk (IU f),uS,dm (show 0+f.length<=1099511627776 by omega),wR hk hr.2 (show r.length<1073741824 by omega) (show aI 0 by unfold aI;omega) (show aI d by unfold aI;omega)]
 unfold oX
 cases ie (ml f) (i+d) with
 |false=>rfl
 |true=>
  rw [dL,ak,eI,if_pos rfl]
  by_cases h0:(du r 0 d).2=0
  ·have hs:=km h0
   rw [decide_eq_true h0,dL,ak,aeD hk hf.2 hs.2 hf.lt hs.lt,if_pos h0,if_neg (by decide)]
  grind [au]
end
def lr (j:Int) (c:Cl):Cl:=⟨oa c.pos j,oa c.neg j⟩
def co (j:Int) (f:LC):LC:=(dE (f.map (lr j))).1
theorem IW (s j:Int):0<=oa s j/\oa s j<16777216:=by
 have:=VJ s.toNat j
 exact ⟨Int.natCast_nonneg _,by show ((n_ s.toNat j:Nat):Int)<_;omega⟩
theorem IH (j:Int) (c:Cl):RC (lr j c):=⟨IW _ _,IW _ _⟩
theorem uP (j:Int) (f:LC): ∀c∈f.map (lr j),RC c:=fun c hc=>by
 grind [IH]
theorem yK {j:Int} {f:LC} (hf:f.length<=64):dE (f.map (lr j))=(co j f,0):=Prod.ext rfl (ES (uP j f) (by grind))
theorem Du {j:Int} {f:LC} (hf:f.length<=64):RF (co j f):=th (fun c hc=>(uP j f c hc).ok) (by rw [yK hf])
theorem abO: ∀ (n:Nat) {l:LC} {c:Cl},(l.filter fun d=>io c d&& !decide (d=c)).length<=n->(∀d∈l,RC d)->c∈l-> ∃d∈l,eM l d=true:=by
 have hle: ∀ {a b:Cl},RC a->RC b->(io a b=true↔(∀j,b.pos.toNat.testBit j=true->a.pos.toNat.testBit j=true)/\ ∀j,b.neg.toNat.testBit j=true->a.neg.toNat.testBit j=true):=by
  intro a b ha hb
  unfold io iR
  rw [decide_eq_true_eq]
  have hor: ∀ {x y:Int},0<=x->(ku x y=x↔ ∀j,y.toNat.testBit j=true->x.toNat.testBit j=true):=by
   intro x y hx
   unfold ku
   constructor
   ·intro h j hj
    have:(x.toNat|||y.toNat)=x.toNat:=by omega
    grind
   ·intro h
    have:(x.toNat|||y.toNat)=x.toNat:=by
     apply Nat.eq_of_testBit_eq
     grind
    omega
  cases a with
  |mk p q=>
   have h1:0<=p:=ha.1.1
   have h2:0<=q:=ha.2.1
   grind
 have hanti: ∀ {a b:Cl},RC a->RC b->io a b=true->io b a=true->a=b:=by
  intro a b ha hb h1 h2
  have e1:=(hle ha hb).1 h1
  have e2:=(hle hb ha).1 h2
  have hx: ∀ {x y:Int},0<=x->0<=y->(∀j,y.toNat.testBit j=true->x.toNat.testBit j=true)->(∀j,x.toNat.testBit j=true->y.toNat.testBit j=true)->x=y:=by
   intro x y hx hy a b
   have:x.toNat=y.toNat:=by
    apply Nat.eq_of_testBit_eq
    grind
   omega
  cases a;cases b
  have p1:=hx ha.1.1 hb.1.1 e1.1 e2.1
  have p2:=hx ha.2.1 hb.2.1 e1.2 e2.2
  grind
 intro n
 induction n with
 |zero=>
  grind [eM,List.filter_eq_nil_iff]
 |succ n ih=>
  intro l c hn hl hc
  by_cases h:eM l c=true
  ·grind
  ·unfold eM at h
   rw [dU] at h
   have: ∃d∈l,¬ ((decide (d=c)|| !io c d)=true):=Classical.byContradiction fun hh=>h fun d hd=>Classical.byContradiction fun h2=>hh ⟨d,hd,h2⟩
   obtain ⟨d,hd,hd'⟩:=this
   have h1:d≠c:=fun h=>hd' (by grind)
   have h2:io c d=true:=by
    grind
   refine ih (c:=d) ?_ hl hd
   have hsub:(l.filter fun e=>io d e&& !decide (e=d)).length<(l.filter fun e=>io c e&& !decide (e=c)).length:=by
    have hc':=hl c hc;have hdr:=hl d hd
    have himp: ∀e∈l,(io d e&& !decide (e=d))=true->(io c e&& !decide (e=c))=true:=by
     grind
    have hle2: ∀ (p q:Cl->Bool) (m:LC),(∀e∈m,p e=true->q e=true)->(m.filter p).length<=(m.filter q).length:=by
     intro p q m
     induction m<;>grind
    have hlt: ∀ (p q:Cl->Bool) (m:LC),(∀e∈m,p e=true->q e=true)->d∈m->p d=false->q d=true->(m.filter p).length<(m.filter q).length:=by
     intro p q m
     induction m with
     |nil=>simp
     |cons e m im=>
      intro hm hdm hp hq
      have hrest: ∀e∈m,p e=true->q e=true:=fun e he=>hm e (by simp [he])
      have hb:=hle2 p q m hrest
      rcases eh.1 hdm with rfl|hdm<;>grind
    exact hlt _ _ l himp hd (by simp) (by grind)
   omega
theorem Vz {j:Int} {f:LC} (hf:RF f):(co j f).length=0↔f.length=0:=by
 have h:=yK (j:=j) hf.len
 have hm:=(vP h).1
 constructor
 ·intro h0
  apply Classical.byContradiction
  intro hne
  obtain ⟨c,hc⟩:=List.exists_mem_of_length_pos (l:=f.map (lr j)) (by grind)
  obtain ⟨d,hd,hn⟩:=abO _ (ee _) (uP j f) hc
  have:d∈co j f:=by grind [mem_mins]
  grind
 ·intro h0
  have:=List.length_eq_zero_iff.1 h0
  subst this;rfl
theorem aag (hk:Fu k) (J:LC×Int->OS S) {i d:Int} (hi:0<=i/\i<24) (hd:0<=d/\d<4611686018427387000) {f:LC} (hf:av f) (hlen:f.length<1073741824):
  ∀ (r p:LC) (m:Nat) (o:LC),f=p++r->r.length<m->av o->o.length=p.length->sx k J i d f m (p.length:Int) o=J (dE (o++r.map (lr (i+d)))):=by
 intro r
 induction r with
 |nil=>
  intro p m o h hm hok ho
  obtain ⟨m,rfl,hm'⟩:=ax hm
  grind [sx,xx,ak,ao,mH]
 |cons x r ih=>
  intro p m o h hm hok ho
  obtain ⟨m,rfl,hm'⟩:=ax hm
  obtain ⟨e1,e2,e3,e4⟩:=bL h (by omega)
  have hx:cH x:=hf x (by grind)
  have hpl:p.length<f.length:=by grind
  simp only [sx,xx,e1,au,e2,bD,ao hk,dY (n:=i+d) (by omega) (by omega),OY hk hx.1,OY hk hx.2,e3]
  rw [dm (by grind)]
  have:=ih (p++[x]) m (o++[lr (i+d) x]) e4 hm' (mB hok fun c hc=>by simp at hc;subst hc;exact (IH _ _).ok) (by grind)
  refine aq this ?_
  simp
theorem O_ (hk:Fu k) {i d:Int} (hi:0<=i/\i<24) (hd:0<=d/\d<4611686018427387000) {f:LC} (hf:RF f) (J:LC×Int->OS S):rB k f d i J=J (co (i+d) f,0):=by
 have l1:=hf.len
 have:=aag hk J hi hd hf.2 (by omega) f [] k [] rfl (by omega) (fun c hc=>by cases hc) rfl
 grind [rB,GX,yK]
theorem HV (fo fa:fZ) (d:Int) (t:Tm):cj fo fa d t=bE (if t.kind=14 then fa d t.r else fo d t.r) fun r'=>bE (dr fo fa d t.kind 0 t.kids) fun ks'=>bE (ck fo fa d t.kind t.sys) fun sys'=> .ok (.mk t.kind t.n t.name r' ks' sys'):=by cases t;rfl
theorem agW {fo fa:fZ} {d:Int} {x y:Tm} (h:cj fo fa d x= .ok y):y.kind=x.kind:=by
 rw [HV] at h
 obtain ⟨_,_,h⟩:=am h
 obtain ⟨_,_,h⟩:=am h
 obtain ⟨_,_,h⟩:=am h
 injection h with h;subst h;rfl
theorem HU (fo fa:fZ) (d kd:Int) (b:Br Tm):i8 fo fa d kd b=bE (fa d b.face) fun f'=>if f'.length=0 then .ok [] else bE (dv fo fa d kd b.kids) fun ks'=> .ok [.mk f' ks']:=by cases b;rfl
section
variable {fo fa:fZ} (hfo: ∀d f e,fo d f= .error e->0<e/\e<=1000) (hfa: ∀d f e,fa d f= .error e->0<e/\e<=1000)
include hfo hfa
theorem pk (t:Tm): ∀ {d e},cj fo fa d t= .error e->0<e/\e<=1000:=by
 induction t using ik with
 |h kd n nm r ks sys ih1 ih2=>
  intro d e h
  rw [cj] at h
  rcases dj h with h|⟨_,_,h⟩
  ·grind
  have hkids: ∀ {l:LT} {i:Nat},(∀x∈l,∀ {d e},cj fo fa d x= .error e->0<e/\e<=1000)->dr fo fa d kd i l= .error e->0<e/\e<=1000:=by
   intro l
   induction l with
   |nil=>grind [dr]
   |cons t l ih=>
    intro i hl h
    rw [dr] at h
    rcases dj h with h|⟨_,_,h⟩
    ·exact hl t (by simp) h
    grind [dj]
  have hmore: ∀ {l:LT},(∀x∈l,∀ {d e},cj fo fa d x= .error e->0<e/\e<=1000)-> ∀ {e},dv fo fa d kd l= .error e->0<e/\e<=1000:=by
   intro l
   induction l with
   |nil=>grind [dv]
   |cons t l ih=>
    intro hl e h
    rw [dv] at h
    rcases dj h with h|⟨_,_,h⟩
    ·grind
    ·rcases dj h with h|⟨_,_,h⟩
     ·exact ih (fun x hx=>hl x (by simp [hx])) h
     simp_all
  have hsys: ∀ {l:LB},(∀b∈l,∀x∈b.kids,∀ {d e},cj fo fa d x= .error e->0<e/\e<=1000)->ck fo fa d kd l= .error e->0<e/\e<=1000:=by
   intro l
   induction l<;>grind [ck,dj,HU]
  grind [dj]
theorem P2 {kd d:Int}: ∀ {l:LT} {i:Nat} {e:Int},dr fo fa d kd i l= .error e->0<e/\e<=1000:=by
 intro l
 induction l with
 |nil=>grind [dr]
 |cons t l ih=>
  intro i e h
  rw [dr] at h
  rcases dj h with h|⟨_,_,h⟩
  ·exact pk hfo hfa t h
  grind [dj]
theorem P3 {kd d:Int}: ∀ {l:LT} {e:Int},dv fo fa d kd l= .error e->0<e/\e<=1000:=by
 intro l
 induction l<;>grind [dv,dj,pk]
end
theorem wY {α β:Type} (x:Except Int Tm) (hx: ∀e,x= .error e->0<e/\e<=1000) (f:Tm->α) (g:Int->α):(fun r:Tm×Int=>ac (!(r.2==0)) (g r.2) (f r.1)) (tE x)=eE x f g:=by
 cases x with
 |ok t=>rfl
 |error e=>
  have:=(hx e rfl).1
  show ac (!(e==0)) (g e) (f noT)=g e
  grind [decide_eq_false,au]
theorem AY {α β γ:Type} (x:Except Int α) (hx: ∀e,x= .error e->0<e/\e<=1000) (z:α) (f:α->β) (g:Int->β):eE x (fun l=>(fun r:α×Int=>ac (!(r.2==0)) (g r.2) (f r.1)) (l,0)) (fun e=>(fun r:α×Int=>ac (!(r.2==0)) (g r.2) (f r.1)) (z,e))=eE x f g:=by
 cases x with
 |ok t=>rfl
 |error e=>
  have:=(hx e rfl).1
  show ac (!(e==0)) (g e) (f z)=g e
  grind [decide_eq_false,au]
theorem oS {G:Int->LC->LC}: ∀d f e,aP G d f= .error e->0<e/\e<=1000:=fun d f e h=>by cases h
theorem mF {i:Int} {r:LC} {fa:Bool}: ∀d f e,b7 i r fa d f= .error e->0<e/\e<=1000:=fun d f e h=>OF h
section
variable {hd:Tm->Int->Int->LC->(Tm×Int->OS S)->OS S} {i d:Int} {t:Tm} {r:LC}
theorem acW (hk:Fu k) (hi:0<=i/\i<24) (hr:RF r) (hd0:0<=d/\d<4611686018427386000) (hro:RowsT t) (J:LC×Int->OS S): ∃z:LC×Int,fj z=(if t.kind=14 then (b7 i r true) d t.r else (b7 i r false) d t.r)/\yY k t d i r J=J z:=by
 have hr0:=hro.no.1
 simp only [yY,ao hk,Pl hk hr0 hr hi (show 0<=d/\d<4611686018427387000 by omega),afb hk hr0 hr hi (show 0<=d/\d<4611686018427387000 by omega)]
 by_cases h:t.kind=14
 ·rw [h,if_pos rfl,show ((14:Int)==14)=true from rfl,au]
  grind [HM]
 ·rw [if_neg h,show (t.kind==14)=false from by grind,ak]
  grind [HM]
theorem acT (hk:Fu k) (J:LT×Int->OS S) (hd0:0<=d/\d<4611686018427386000) (hQ: ∀y∈t.kids,∀b,0<=b/\b<=1-> ∀g,hd y (d+b) i r g=g (tE (cj (b7 i r false) (b7 i r true) (d+b) y))) (hl:t.kids.length<1073741824):
  ∀ (r' p:LT) (m:Nat) (acc:LT),t.kids=p++r'->r'.length<m->acc.length=p.length->
  oI hd k J i r t t.kids d m acc (p.length:Int)=eE (dr (b7 i r false) (b7 i r true) d t.kind p.length r') (fun l=>J (acc++l,0)) fun e=>J ([],e):=by
 intro r'
 induction r' with
 |nil=>
  grind [ax,oI,xB,ak,dr,dB]
 |cons y r' ih=>
  intro p m acc h hm ha
  obtain ⟨m,rfl,hm'⟩:=ax hm
  obtain ⟨e1,e2,e3,e4⟩:=bL h (by omega)
  have hpl:p.length<t.kids.length:=by grind
  have b2':=jA t.kind p.length
  have hy:=hQ y (by grind) (bJ t.kind p.length) b2'
  simp only [oI,xB,e1,au,e2,bD,ao hk,uU,qN,aM,dY (n:=d+bJ t.kind p.length) (by omega) (by omega),hy]
  refine aq (wY (β:=Unit) _ (fun e he=>pk mF mF y he) (fun z=>ag (bH 1099511627776 acc.length [z].length) fun _=>oI hd k J i r t t.kids d m (acc++[z]) (aj .i64 ((p.length:Int)+1))) fun e=>J ([],e)) ?_
  simp only [dr,dk,dB]
  refine gI (fun t' ht'=> ?_) fun e _=>rfl
  rw [dm (by grind),e3,ih (p++[y]) m (acc++[t']) e4 hm' (by grind),show (p++[y]).length=p.length+1 by simp]
  simp
theorem acU (hk:Fu k) (J:LT×Int->OS S) {x:Br Tm} {kd:Int} (hd0:0<=d/\d<4611686018427386000) (hQ: ∀y∈x.kids,∀g,hd y (d+aN kd) i r g=g (tE (cj (b7 i r false) (b7 i r true) (d+aN kd) y))) (hl:x.kids.length<1073741824):
  ∀ (r' p:LT) (m:Nat) (acc:LT),x.kids=p++r'->r'.length<m->acc.length=p.length->
  oH hd k J i r (aN kd) x.kids d m acc (p.length:Int)=eE (dv (b7 i r false) (b7 i r true) d kd r') (fun l=>J (acc++l,0)) fun e=>J ([],e):=by
 have hmo:=jM kd
 intro r'
 induction r' with
 |nil=>
  grind [ax,oH,xA,ak,dv,dB]
 |cons y r' ih=>
  intro p m acc h hm ha
  obtain ⟨m,rfl,hm'⟩:=ax hm
  obtain ⟨e1,e2,e3,e4⟩:=bL h (by omega)
  have hpl:p.length<x.kids.length:=by grind
  have hy:=hQ y (by grind)
  simp only [oH,xA,e1,au,e2,bD,ao hk,uV,aM,dY (n:=d+aN kd) (by omega) (by omega),hy]
  refine aq (wY (β:=Unit) _ (fun e he=>pk mF mF y he) (fun z=>ag (bH 1099511627776 acc.length [z].length) fun _=>oH hd k J i r (aN kd) x.kids d m (acc++[z]) (aj .i64 ((p.length:Int)+1))) fun e=>J ([],e)) ?_
  simp only [dv,dk,dB]
  refine gI (fun t' ht'=> ?_) fun e _=>rfl
  rw [dm (by grind),e3,ih (p++[y]) m (acc++[t']) e4 hm' (by grind)]
  simp
theorem acV (hk:Fu k) (J:Tm×Int->OS S) (hi:0<=i/\i<24) (hr:RF r) (hd0:0<=d/\d<4611686018427386000) {r1:LC×Int} {r2:LT×Int} (ht:OkT t) (hro:RowsT t) (hQ: ∀b∈t.sys,∀y∈b.kids,∀g,hd y (d+aN t.kind) i r g=g (tE (cj (b7 i r false) (b7 i r true) (d+aN t.kind) y))):
  ∀ (r' p:LB) (m:Nat) (o:LB),t.sys=p++r'->r'.length<m->o.length<=p.length->
  kj hd k J i r t r1 r2 d m (aN t.kind) o (p.length:Int)=eE (ck (b7 i r false) (b7 i r true) d t.kind r') (fun s=>J (.mk t.kind t.n t.name r1.1 r2.1 (o++s),0)) fun e=>J (noT,e):=by
 obtain ⟨o1,o2,o3,o4,o5,o6,o7⟩:=ht.no
 intro r'
 induction r' with
 |nil=>
  grind [ax,kj,xD,ak,ck,dB]
 |cons x r' ih=>
  intro p m o h hml ho
  obtain ⟨m,rfl,hm'⟩:=ax hml
  obtain ⟨e1,e2,e3,e4⟩:=bL h (by omega)
  have hx:x∈t.sys:=by grind
  have hpl:p.length<t.sys.length:=by grind
  have hb:=(ht.bi hx).1
  have hr0:=(hro.bi hx).1
  have hM:=fun g:LT×Int->OS S=>acU (kd:=t.kind) hk g hd0 (hQ x hx) hb.2.2 x.kids [] k [] rfl (by omega) rfl
  have hM: ∀g:LT×Int->OS S,oH hd k g i r (aN t.kind) x.kids d k [] 0=_:=hM
  simp only [kj,xD,e1,au,e2,bD,ao hk,Pl hk hr0 hr hi (show 0<=d/\d<4611686018427387000 by omega),DC,G2,hM,e3,eF]
  have hin:=fun f':LC=>AY (β:=OS S) (γ:=Unit) (dv (b7 i r false) (b7 i r true) d t.kind x.kids) (fun e he=>P3 mF mF he) [] (fun l=>ag (bH 1099511627776 o.length [Br.mk f' l].length) fun _=>kj hd k J i r t r1 r2 d m (aN t.kind) (o++[Br.mk f' l]) (((p++[x]).length:Nat):Int)) fun e=>J (noT,e)
  refine aq (B6 (z:=(oX i r true d x.face)) (fun f'=>ac (((f'.length:Nat):Int)==0) (kj hd k J i r t r1 r2 d m (aN t.kind) o (((p++[x]).length:Nat):Int)) (eE (dv (b7 i r false) (b7 i r true) d t.kind x.kids) (fun l=>(fun r5:LT×Int=>ac (!(r5.2==0)) (J (noT,r5.2)) (ag (bH 1099511627776 o.length [Br.mk f' r5.1].length) fun _=>kj hd k J i r t r1 r2 d m (aN t.kind) (o++[Br.mk f' r5.1]) (((p++[x]).length:Nat):Int))) (l,0)) fun e=>(fun r5:LT×Int=>ac (!(r5.2==0)) (J (noT,r5.2)) (ag (bH 1099511627776 o.length [Br.mk f' r5.1].length) fun _=>kj hd k J i r t r1 r2 d m (aN t.kind) (o++[Br.mk f' r5.1]) (((p++[x]).length:Nat):Int))) ([],e))) fun e=>J (noT,e)) ?_
  rw [show fj (oX i r true d x.face)=(b7 i r true) d x.face from HM _ _ _ _ _]
  rw [ck,HU,dk,dk]
  refine gI (fun f' hf'=> ?_) fun e _=>rfl
  rw [AE,eC]
  by_cases h0:f'.length=0
  ·rw [if_pos h0,if_pos h0,dB,dk,ih (p++[x]) m o e4 hm' (by grind)]
   rfl
  ·rw [if_neg h0,if_neg h0,hin f',dk]
   refine gI (fun l hl=> ?_) fun e _=>rfl
   rw [dB,dk,dm (by grind),ih (p++[x]) m (o++[Br.mk f' l]) e4 hm' (by grind)]
   grind [dB]
end
theorem acX {i:Int} {r:LC} (hi:0<=i/\i<24) (hr:RF r) (t:Tm):OkT t->RowsT t-> ∀ {k:Nat} {d:Int} (J:Tm×Int->OS S),Fd k (ap t)->0<=d->d+ap t<4611686018427386000->hY k t d i r J=J (tE (cj (b7 i r false) (b7 i r true) d t)):=by
 induction t using lg with
 |h t ih1 ih2=>
  intro ht hro k d J hk hv hv'
  obtain ⟨q,rfl,hq,hf⟩:=hk.pos' (jj t)
  have hp:=jj t
  have hd0:0<=d/\d<4611686018427386000:=by omega
  obtain ⟨o1,o2,o3,o4,o5,o6,o7⟩:=ht.no
  have hmo:=jM t.kind
  have hQ: ∀y∈t.kids,∀b,0<=b/\b<=1-> ∀g:Tm×Int->OS S,hY q y (d+b) i r g=g (tE (cj (b7 i r false) (b7 i r true) (d+b) y)):=fun y hy b h2 g=>
   ih1 y hy (ht.ki hy) (hro.ki hy) g (hf _ (iL hy)) (by omega) (by have:=iL hy;omega)
  have hQ': ∀b∈t.sys,∀y∈b.kids,∀g:Tm×Int->OS S,hY q y (d+aN t.kind) i r g=g (tE (cj (b7 i r false) (b7 i r true) (d+aN t.kind) y)):=fun b hb y hy g=>
   ih2 b hb y hy ((ht.bi hb).2 y hy) ((hro.bi hb).2 y hy) g (hf _ (ji hb hy)) (by omega) (by have:=ji hb hy;omega)
  have hK: ∀g:LT×Int->OS S,oI (hY q) q g i r t t.kids d q [] 0=_:=fun g=>acT hq g hd0 hQ o6 t.kids [] q [] rfl (by omega) rfl
  have hS:=fun (r1:LC×Int) (r2:LT×Int)=>acV (r1:=r1) (r2:=r2) hq J hi hr hd0 ht hro hQ' t.sys [] q [] rfl (by omega) (ee _)
  have hS: ∀ (r1:LC×Int) (r2:LT×Int),kj (hY q) q J i r t r1 r2 d q (aN t.kind) [] 0=_:=hS
  have hcase: ∀ (r1:LC×Int) (r2:LT×Int),ac (t.kind==15) (kj (hY q) q J i r t r1 r2 d q 1 [] 0) (kj (hY q) q J i r t r1 r2 d q 0 [] 0)=eE (ck (b7 i r false) (b7 i r true) d t.kind t.sys) (fun s=>J (.mk t.kind t.n t.name r1.1 r2.1 s,0)) fun e=>J (noT,e):=by
   grind [jR,aN]
  obtain ⟨z,hz,hrow⟩:=acW hq hi hr hd0 hro (fun r1=>ac (!(r1.2==0)) (J (noT,r1.2)) (eE (dr (b7 i r false) (b7 i r true) d t.kind 0 t.kids) (fun l=>(fun r2:LT×Int=>ac (!(r2.2==0)) (J (noT,r2.2)) (eE (ck (b7 i r false) (b7 i r true) d t.kind t.sys) (fun s=>J (.mk t.kind t.n t.name r1.1 r2.1 s,0)) fun e=>J (noT,e))) (l,0)) fun e=>(fun r2:LT×Int=>ac (!(r2.2==0)) (J (noT,r2.2)) (eE (ck (b7 i r false) (b7 i r true) d t.kind t.sys) (fun s=>J (.mk t.kind t.n t.name r1.1 r2.1 s,0)) fun e=>J (noT,e))) ([],e)))
  simp only [hY,G4,ao hq,aM,DD,G3,hK,hcase,eF,List.length_nil]
  refine aq hrow ?_
  rw [kA _ J,HV,<-hz]
  refine aq (B6 (z:=z) (fun r'=>eE (dr (b7 i r false) (b7 i r true) d t.kind 0 t.kids) (fun l=>(fun r2:LT×Int=>ac (!(r2.2==0)) (J (noT,r2.2)) (eE (ck (b7 i r false) (b7 i r true) d t.kind t.sys) (fun s=>J (.mk t.kind t.n t.name r' r2.1 s,0)) fun e=>J (noT,e))) (l,0)) fun e=>(fun r2:LT×Int=>ac (!(r2.2==0)) (J (noT,r2.2)) (eE (ck (b7 i r false) (b7 i r true) d t.kind t.sys) (fun s=>J (.mk t.kind t.n t.name r' r2.1 s,0)) fun e=>J (noT,e))) ([],e)) fun e=>J (noT,e)) ?_
  rw [dk]
  refine gI (fun r' _=> ?_) fun e _=>rfl
  refine aq (AY (β:=OS S) (γ:=Unit) (dr (b7 i r false) (b7 i r true) d t.kind 0 t.kids) (fun e he=>P2 mF mF he) [] (fun l=>eE (ck (b7 i r false) (b7 i r true) d t.kind t.sys) (fun s=>J (.mk t.kind t.n t.name r' l s,0)) fun e=>J (noT,e)) fun e=>J (noT,e)) ?_
  simp only [dk,dB]
section
variable {hd:Tm->Int->Int->(Tm×Int->OS S)->OS S} {i d:Int} {t:Tm}
theorem VN (hk:Fu k) (hi:0<=i/\i<24) (hd0:0<=d/\d<4611686018427386000) (hro:RowsT t) (J:LC×Int->OS S): ∃z:LC×Int,fj z=(if t.kind=14 then (aP fun d f=>co (i+d) f) d t.r else (aP fun d f=>co (i+d) f) d t.r)/\yZ k t d i J=J z:=by
 have hr0:=hro.no.1
 simp only [yZ,ao hk,O_ hk hi (show 0<=d/\d<4611686018427387000 by omega) hr0]
 by_cases h:t.kind=14
 ·rw [h,if_pos rfl,show ((14:Int)==14)=true from rfl,au]
  exact ⟨_,rfl,rfl⟩
 ·rw [if_neg h,show (t.kind==14)=false from by grind,ak]
  exact ⟨_,rfl,rfl⟩
theorem VK (hk:Fu k) (J:LT×Int->OS S) (hd0:0<=d/\d<4611686018427386000) (hQ: ∀y∈t.kids,∀b,0<=b/\b<=1-> ∀g,hd y (d+b) i g=g (tE (cj (aP fun d f=>co (i+d) f) (aP fun d f=>co (i+d) f) (d+b) y))) (hl:t.kids.length<1073741824):
  ∀ (r' p:LT) (m:Nat) (acc:LT),t.kids=p++r'->r'.length<m->acc.length=p.length->
  oG hd k J i t t.kids d m acc (p.length:Int)=eE (dr (aP fun d f=>co (i+d) f) (aP fun d f=>co (i+d) f) d t.kind p.length r') (fun l=>J (acc++l,0)) fun e=>J ([],e):=by
 intro r'
 induction r' with
 |nil=>
  grind [ax,oG,xz,ak,dr,dB]
 |cons y r' ih=>
  intro p m acc h hm ha
  obtain ⟨m,rfl,hm'⟩:=ax hm
  obtain ⟨e1,e2,e3,e4⟩:=bL h (by omega)
  have hpl:p.length<t.kids.length:=by grind
  have b2':=jA t.kind p.length
  have hy:=hQ y (by grind) (bJ t.kind p.length) b2'
  simp only [oG,xz,e1,au,e2,bD,ao hk,uU,qN,aM,dY (n:=d+bJ t.kind p.length) (by omega) (by omega),hy]
  refine aq (wY (β:=Unit) _ (fun e he=>pk oS oS y he) (fun z=>ag (bH 1099511627776 acc.length [z].length) fun _=>oG hd k J i t t.kids d m (acc++[z]) (aj .i64 ((p.length:Int)+1))) fun e=>J ([],e)) ?_
  simp only [dr,dk,dB]
  refine gI (fun t' ht'=> ?_) fun e _=>rfl
  rw [dm (by grind),e3,ih (p++[y]) m (acc++[t']) e4 hm' (by grind),show (p++[y]).length=p.length+1 by simp]
  simp
theorem VL (hk:Fu k) (J:LT×Int->OS S) {x:Br Tm} {kd:Int} (hd0:0<=d/\d<4611686018427386000) (hQ: ∀y∈x.kids,∀g,hd y (d+aN kd) i g=g (tE (cj (aP fun d f=>co (i+d) f) (aP fun d f=>co (i+d) f) (d+aN kd) y))) (hl:x.kids.length<1073741824):
  ∀ (r' p:LT) (m:Nat) (acc:LT),x.kids=p++r'->r'.length<m->acc.length=p.length->
  oF hd k J i (aN kd) x.kids d m acc (p.length:Int)=eE (dv (aP fun d f=>co (i+d) f) (aP fun d f=>co (i+d) f) d kd r') (fun l=>J (acc++l,0)) fun e=>J ([],e):=by
 have hmo:=jM kd
 intro r'
 induction r' with
 |nil=>
  grind [ax,oF,xy,ak,dv,dB]
 |cons y r' ih=>
  intro p m acc h hm ha
  obtain ⟨m,rfl,hm'⟩:=ax hm
  obtain ⟨e1,e2,e3,e4⟩:=bL h (by omega)
  have hpl:p.length<x.kids.length:=by grind
  have hy:=hQ y (by grind)
  simp only [oF,xy,e1,au,e2,bD,ao hk,uV,aM,dY (n:=d+aN kd) (by omega) (by omega),hy]
  refine aq (wY (β:=Unit) _ (fun e he=>pk oS oS y he) (fun z=>ag (bH 1099511627776 acc.length [z].length) fun _=>oF hd k J i (aN kd) x.kids d m (acc++[z]) (aj .i64 ((p.length:Int)+1))) fun e=>J ([],e)) ?_
  simp only [dv,dk,dB]
  refine gI (fun t' ht'=> ?_) fun e _=>rfl
  rw [dm (by grind),e3,ih (p++[y]) m (acc++[t']) e4 hm' (by grind)]
  simp
theorem VM (hk:Fu k) (J:Tm×Int->OS S) (hi:0<=i/\i<24) (hd0:0<=d/\d<4611686018427386000) {r1:LC×Int} {r2:LT×Int} (ht:OkT t) (hro:RowsT t) (hQ: ∀b∈t.sys,∀y∈b.kids,∀g,hd y (d+aN t.kind) i g=g (tE (cj (aP fun d f=>co (i+d) f) (aP fun d f=>co (i+d) f) (d+aN t.kind) y))):
  ∀ (r' p:LB) (m:Nat) (o:LB),t.sys=p++r'->r'.length<m->o.length<=p.length->
  kl hd k J i t r1 r2 d m (aN t.kind) o (p.length:Int)=eE (ck (aP fun d f=>co (i+d) f) (aP fun d f=>co (i+d) f) d t.kind r') (fun s=>J (.mk t.kind t.n t.name r1.1 r2.1 (o++s),0)) fun e=>J (noT,e):=by
 obtain ⟨o1,o2,o3,o4,o5,o6,o7⟩:=ht.no
 intro r'
 induction r' with
 |nil=>
  grind [ax,kl,xE,ak,ck,dB]
 |cons x r' ih=>
  intro p m o h hml ho
  obtain ⟨m,rfl,hm'⟩:=ax hml
  obtain ⟨e1,e2,e3,e4⟩:=bL h (by omega)
  have hx:x∈t.sys:=by grind
  have hpl:p.length<t.sys.length:=by grind
  have hb:=(ht.bi hx).1
  have hr0:=(hro.bi hx).1
  have hM:=fun g:LT×Int->OS S=>VL (kd:=t.kind) hk g hd0 (hQ x hx) hb.2.2 x.kids [] k [] rfl (by omega) rfl
  have hM: ∀g:LT×Int->OS S,oF hd k g i (aN t.kind) x.kids d k [] 0=_:=hM
  simp only [kl,xE,e1,au,e2,bD,ao hk,O_ hk hi (show 0<=d/\d<4611686018427387000 by omega) hr0,DA,GY,hM,e3,eF]
  have hin:=fun f':LC=>AY (β:=OS S) (γ:=Unit) (dv (aP fun d f=>co (i+d) f) (aP fun d f=>co (i+d) f) d t.kind x.kids) (fun e he=>P3 oS oS he) [] (fun l=>ag (bH 1099511627776 o.length [Br.mk f' l].length) fun _=>kl hd k J i t r1 r2 d m (aN t.kind) (o++[Br.mk f' l]) (((p++[x]).length:Nat):Int)) fun e=>J (noT,e)
  refine aq (B6 (z:=(co (i+d) x.face,(0:Int))) (fun f'=>ac (((f'.length:Nat):Int)==0) (kl hd k J i t r1 r2 d m (aN t.kind) o (((p++[x]).length:Nat):Int)) (eE (dv (aP fun d f=>co (i+d) f) (aP fun d f=>co (i+d) f) d t.kind x.kids) (fun l=>(fun r5:LT×Int=>ac (!(r5.2==0)) (J (noT,r5.2)) (ag (bH 1099511627776 o.length [Br.mk f' r5.1].length) fun _=>kl hd k J i t r1 r2 d m (aN t.kind) (o++[Br.mk f' r5.1]) (((p++[x]).length:Nat):Int))) (l,0)) fun e=>(fun r5:LT×Int=>ac (!(r5.2==0)) (J (noT,r5.2)) (ag (bH 1099511627776 o.length [Br.mk f' r5.1].length) fun _=>kl hd k J i t r1 r2 d m (aN t.kind) (o++[Br.mk f' r5.1]) (((p++[x]).length:Nat):Int))) ([],e))) fun e=>J (noT,e)) ?_
  rw [show fj (co (i+d) x.face,(0:Int))=(aP fun d f=>co (i+d) f) d x.face from rfl]
  rw [ck,HU,dk,dk]
  refine gI (fun f' hf'=> ?_) fun e _=>rfl
  rw [AE,eC]
  by_cases h0:f'.length=0
  ·rw [if_pos h0,if_pos h0,dB,dk,ih (p++[x]) m o e4 hm' (by grind)]
   rfl
  ·rw [if_neg h0,if_neg h0,hin f',dk]
   refine gI (fun l hl=> ?_) fun e _=>rfl
   rw [dB,dk,dm (by grind),ih (p++[x]) m (o++[Br.mk f' l]) e4 hm' (by grind)]
   grind [dB]
end
theorem VO {i:Int} (hi:0<=i/\i<24) (t:Tm):OkT t->RowsT t-> ∀ {k:Nat} {d:Int} (J:Tm×Int->OS S),Fd k (ap t)->0<=d->d+ap t<4611686018427386000->gW k t d i J=J (tE (cj (aP fun d f=>co (i+d) f) (aP fun d f=>co (i+d) f) d t)):=by
 induction t using lg with
 |h t ih1 ih2=>
  intro ht hro k d J hk hv hv'
  obtain ⟨q,rfl,hq,hf⟩:=hk.pos' (jj t)
  have hp:=jj t
  have hd0:0<=d/\d<4611686018427386000:=by omega
  obtain ⟨o1,o2,o3,o4,o5,o6,o7⟩:=ht.no
  have hmo:=jM t.kind
  have hQ: ∀y∈t.kids,∀b,0<=b/\b<=1-> ∀g:Tm×Int->OS S,gW q y (d+b) i g=g (tE (cj (aP fun d f=>co (i+d) f) (aP fun d f=>co (i+d) f) (d+b) y)):=fun y hy b h2 g=>
   ih1 y hy (ht.ki hy) (hro.ki hy) g (hf _ (iL hy)) (by omega) (by have:=iL hy;omega)
  have hQ': ∀b∈t.sys,∀y∈b.kids,∀g:Tm×Int->OS S,gW q y (d+aN t.kind) i g=g (tE (cj (aP fun d f=>co (i+d) f) (aP fun d f=>co (i+d) f) (d+aN t.kind) y)):=fun b hb y hy g=>
   ih2 b hb y hy ((ht.bi hb).2 y hy) ((hro.bi hb).2 y hy) g (hf _ (ji hb hy)) (by omega) (by have:=ji hb hy;omega)
  have hK: ∀g:LT×Int->OS S,oG (gW q) q g i t t.kids d q [] 0=_:=fun g=>VK hq g hd0 hQ o6 t.kids [] q [] rfl (by omega) rfl
  have hS:=fun (r1:LC×Int) (r2:LT×Int)=>VM (r1:=r1) (r2:=r2) hq J hi hd0 ht hro hQ' t.sys [] q [] rfl (by omega) (ee _)
  have hS: ∀ (r1:LC×Int) (r2:LT×Int),kl (gW q) q J i t r1 r2 d q (aN t.kind) [] 0=_:=hS
  have hcase: ∀ (r1:LC×Int) (r2:LT×Int),ac (t.kind==15) (kl (gW q) q J i t r1 r2 d q 1 [] 0) (kl (gW q) q J i t r1 r2 d q 0 [] 0)=eE (ck (aP fun d f=>co (i+d) f) (aP fun d f=>co (i+d) f) d t.kind t.sys) (fun s=>J (.mk t.kind t.n t.name r1.1 r2.1 s,0)) fun e=>J (noT,e):=by
   grind [jR,aN]
  obtain ⟨z,hz,hrow⟩:=VN hq hi hd0 hro (fun r1=>ac (!(r1.2==0)) (J (noT,r1.2)) (eE (dr (aP fun d f=>co (i+d) f) (aP fun d f=>co (i+d) f) d t.kind 0 t.kids) (fun l=>(fun r2:LT×Int=>ac (!(r2.2==0)) (J (noT,r2.2)) (eE (ck (aP fun d f=>co (i+d) f) (aP fun d f=>co (i+d) f) d t.kind t.sys) (fun s=>J (.mk t.kind t.n t.name r1.1 r2.1 s,0)) fun e=>J (noT,e))) (l,0)) fun e=>(fun r2:LT×Int=>ac (!(r2.2==0)) (J (noT,r2.2)) (eE (ck (aP fun d f=>co (i+d) f) (aP fun d f=>co (i+d) f) d t.kind t.sys) (fun s=>J (.mk t.kind t.n t.name r1.1 r2.1 s,0)) fun e=>J (noT,e))) ([],e)))
  simp only [gW,G5,ao hq,aM,DB,GZ,hK,hcase,eF,List.length_nil]
  refine aq hrow ?_
  rw [kA _ J,HV,<-hz]
  refine aq (B6 (z:=z) (fun r'=>eE (dr (aP fun d f=>co (i+d) f) (aP fun d f=>co (i+d) f) d t.kind 0 t.kids) (fun l=>(fun r2:LT×Int=>ac (!(r2.2==0)) (J (noT,r2.2)) (eE (ck (aP fun d f=>co (i+d) f) (aP fun d f=>co (i+d) f) d t.kind t.sys) (fun s=>J (.mk t.kind t.n t.name r' r2.1 s,0)) fun e=>J (noT,e))) (l,0)) fun e=>(fun r2:LT×Int=>ac (!(r2.2==0)) (J (noT,r2.2)) (eE (ck (aP fun d f=>co (i+d) f) (aP fun d f=>co (i+d) f) d t.kind t.sys) (fun s=>J (.mk t.kind t.n t.name r' r2.1 s,0)) fun e=>J (noT,e))) ([],e)) fun e=>J (noT,e)) ?_
  rw [dk]
  refine gI (fun r' _=> ?_) fun e _=>rfl
  refine aq (AY (β:=OS S) (γ:=Unit) (dr (aP fun d f=>co (i+d) f) (aP fun d f=>co (i+d) f) d t.kind 0 t.kids) (fun e he=>P2 oS oS he) [] (fun l=>eE (ck (aP fun d f=>co (i+d) f) (aP fun d f=>co (i+d) f) d t.kind t.sys) (fun s=>J (.mk t.kind t.n t.name r' l s,0)) fun e=>J (noT,e)) fun e=>J (noT,e)) ?_
  simp only [dk,dB]
def yJ (i:Int):Int->LC->LC:=fun d f=>co (i+d) f
def gX (i:Int) (r:LC) (fa:Bool):fZ:=fh (b7 i r fa) (yJ i)
theorem vC (i:Int) (r:LC) (fa:Bool) (d:Int) (f:LC):gX i r fa d f=bE (b7 i r fa d f) fun m=> .ok (co (i+d) m):=rfl
theorem JB {i:Int} {r:LC} {fa:Bool}: ∀d f e,gX i r fa d f= .error e->0<e/\e<=1000:=fun d f e h=>by
 rw [vC] at h
 rcases dj h with h|⟨_,_,h⟩
 ·exact OF h
 simp_all
section
variable {hd:Tm->Int->LC->Int->Bool->(Tm->OS S)->OS S} {i d:Int} {r:LC} {t:Tm}
end
def eS (i:Int) (r:LC) (t:Tm):Except Int Tm:=bE (fj (du r i 1)) fun s=>cj (gX i s false) (gX i s true) 0 t
theorem B3 {i:Int} {r:LC} {t:Tm} {e:Int} (h:eS i r t= .error e):0<e/\e<=1000:=by
 rcases dj h with h|⟨s,_,h⟩
 ·grind [B5,vQ,EN]
 ·exact pk JB JB t h
theorem wZ {i:Int} {r:LC} {t y:Tm} (h:eS i r t= .ok y):y.kind=t.kind:=by
 obtain ⟨s,_,h⟩:=am h
 exact agW h
theorem Gy (hk:F3 k) {t:Tm} (ht:Fm t) {i:Int} (hi:0<=i/\i<24) {r:LC} (hr:RF r) (J:Tm×Int->OS S):lu k t i r J=J (tE (eS i r t)):=by
 have l2:=hr.len
 have hdp:=ht.dep
 simp only [lu,ao hk.fu,aM,y7,lY ht.ok (ht.fd hk) (show ap t<1099511627776 by omega),ht.2,aeA hk.fu,tR hk.fu hr.2 hr.lt,hr.right,decide_eq_true hi,wR hk.fu hr.2 (show r.length<1073741824 by omega) (show aI i by unfold aI;omega) (show aI 1 by unfold aI;omega),Dx,Dy,Dz,Dw]
 rw [show ((0:Int)==0)=true from rfl,dL,ak,ak,ak,ak]
 rw [kA _ J]
 unfold eS
 rw [dk]
 by_cases h0:(du r i 1).2=0
 ·have hs:=km h0
  rw [eI,decide_eq_true h0,dL,ak,qW h0,dB,acX hi hs t ht.ok ht.rows _ (ht.fd hk) (by omega) (by omega)]
  refine aq (wY (α:=OS S) (β:=Unit) _ (fun e he=>pk mF mF t he) (fun x=>gW k x 0 i fun r6=>J (r6.1,r6.2)) fun e=>J (noT,e)) ?_
  have htw:=agX (fo:=b7 i (du r i 1).1 false) (fa:=b7 i (du r i 1).1 true) (G:=yJ i) (fun d f g hf h=>wM hf h) (fun d f hf=>Vz hf) t 0 ht.rows
  show _=eE (cj (fh (b7 i (du r i 1).1 false) (yJ i)) (fh (b7 i (du r i 1).1 true) (yJ i)) 0 t) _ _
  rw [<-htw,dk]
  refine gI (fun x hx=> ?_) fun e _=>rfl
  have hw:=P5 (fun d f g hf h=>wM hf h) (fun d f g hf h=>wM hf h) (fun d=>OG) t 0 x hx
  obtain ⟨w1,w2,w3,w4⟩:=hw
  obtain ⟨hox,hrx⟩:=w4 ht.ok ht.rows
  rw [VO hi x hox hrx _ (hk.fd (by omega)) (by omega) (by omega)]
  exact kA _ J
 ·rw [eI,decide_eq_false h0,ef,au,tZ h0];rfl
def In (k:Nat) (t:Tm):Prop:=OkT t/\Fd k (ap t)/\aG t<1099511627776
theorem In.dep {t:Tm} (h:In k t):ap t<1099511627776:=by have:=IS t;have:=h.2.2;omega
theorem Fm.isIn {t:Tm} (h:Fm t) (hk:F3 k):In k t:=⟨h.ok,h.fd hk,by have:=h.siz;omega⟩
def dX:LT->Int
 |[]=>0
 |t::l=>if dl t=0 then dX l else dl t
theorem pc {l:LT} (hl: ∀t∈l,OkT t) (h:dX l=0): ∀t∈l,Fm t:=by
 induction l with
 |nil=>simp
 |cons x l ih=>
  intro t ht
  unfold dX at h
  split at h
  ·next h0=>
   rcases eh.1 ht with rfl|ht
   ·exact ⟨hl _ (by simp),h0⟩
   grind
  omega
theorem afT (l:LT):0<=dX l/\dX l<=1000:=by
 induction l with
 |nil=>grind [dX]
 |cons x l ih=>
  unfold dX
  split<;>simp_all [Ej]
theorem oZ (c e:Int) (J:Int->OS S):kK k e c J=J (if c=0 then e else c):=by
 grind [kK,eC]
theorem Z5 (hk:Fu k) (J:Int->OS S) {l:LT} (hl: ∀t∈l,In k t) (hlen:l.length<1000):
  ∀ (r p:LT) (m:Nat) (b:Int),l=p++r->r.length<m->sq k J l m b (p.length:Int)=J (if b=0 then dX r else b):=by
 intro r
 induction r with
 |nil=>
  grind [ax,sq,xv,ak,dX]
 |cons x r ih=>
  intro p m b h hm
  obtain ⟨m,rfl,hm'⟩:=ax hm
  obtain ⟨e1,e2,e3,e4⟩:=bL h (by omega)
  have hx:=hl x (by grind)
  simp only [sq,xv,e1,au,e2,bD,ao hk,aM,lY hx.1 hx.2.1 hx.dep,oZ,e3,ih (p++[x]) m _ e4 hm',dX]
  grind
theorem BM (hk:F3 k) {l:LT} (hl: ∀t∈l,In k t) (hlen:l.length<1000) (J:Int->OS S):m6 k l J=J (dX l):=by
 simp only [m6,GV]
 have:=Z5 hk.fu J hl hlen l [] k 0 rfl (by omega)
 simp_all
def g_ (r:LC) (line:Tm):Except Int Tm:=bE (dP 0 2 0 1 line) (eS 0 r)
theorem rd {r:LC} {t:Tm} {e:Int} (h:g_ r t= .error e):0<e/\e<=1000:=by
 rcases dj h with h|⟨s,_,h⟩
 ·exact AF t h
 ·exact B3 h
theorem Yb {i:Int} {r:LC} {fa:Bool} {d:Int} {f g:LC} (hf:RF f) (h:gX i r fa d f= .ok g):RF g:=by
 rw [vC] at h
 obtain ⟨m,h1,h⟩:=am h
 injection h with h;subst h
 exact Du (wM hf h1).len
theorem JC {i:Int} {r:LC} {fa:Bool} (d:Int):gX i r fa d []= .ok []:=by
 rw [vC,OG,bO];rfl
theorem PN {i:Int} {r:LC} {t y:Tm} (h:eS i r t= .ok y):Wk t y:=by
 obtain ⟨s,_,h⟩:=am h
 grind [P5,Yb,JC]
theorem C1 {r:LC} {t y:Tm} (ht:Fm t) (h:g_ r t= .ok y):OkT y/\RowsT y/\ap y<=200/\aG y<=20000:=by
 obtain ⟨s,h1,h⟩:=am h
 have hs:=nD (by omega) ht h1
 obtain ⟨w1,w2,w3,w4⟩:=PN h
 have h4:=w4 hs.ok hs.rows
 have:=hs.dep;have:=hs.siz
 grind
section
variable {c:Int}
theorem afc (hc:c≠0) (hk:F3 k) (f:LC) (J:LC×Int->OS S):mg k f c J=J ([],c):=by
 simp only [mg,ao hk.fu,ew,eI,decide_eq_false hc,ef,au]
theorem Pj (hc:c≠0) (hk:F3 k) (f g:LC) (J:LC×Int->OS S):nZ k f g c J=J ([],c):=by
 simp only [nZ,ao hk.fu,ew,eI,decide_eq_false hc,ef,au]
theorem BL (hc:c≠0) (hk:F3 k) (l:Tm) (r:LC) (J:Tm×Int->OS S):ls k l r c J=J (noT,c):=by
 simp only [ls,ao hk.fu,ew,eI,decide_eq_false hc,ef,au];rfl
theorem qP (hc:c≠0) (hk:F3 k) (l:Tm) (a b:Int) (J:Tm×Int->OS S):gV k l a b c J=J (noT,c):=by
 simp only [gV,ao hk.fu,ew,eI,decide_eq_false hc,ef,au];rfl
theorem lZ (hc:c≠0) (hk:F3 k) (l:Tm) (J:Tm×Int×Int->OS S):fV k l c J=J (noT,c,c):=by
 simp only [fV,ao hk.fu,ew,eI,decide_eq_false hc,ef,au,ak];rfl
end
theorem Pm (hk:F3 k) {f:LC} (hf:av f) (hl:f.length<1073741824) (J:LC×Int->OS S):mg k f 0 J=J (du f 0 1):=by
 simp only [mg,ao hk.fu,ew,wR hk.fu hf hl (show aI 0 by unfold aI;omega) (show aI 1 by unfold aI;omega),oZ,if_true]
 rfl
theorem ae7 (hk:F3 k) {f g:LC} (hf:av f) (hg:av g) (h1:f.length<1073741824) (h2:g.length<1073741824) (J:LC×Int->OS S):nZ k f g 0 J=J (iN f g):=by
 simp only [nZ,ao hk.fu,ew,aeF hk.fu hf hg h1 h2,oZ,if_true]
 rfl
theorem GJ (hk:F3 k) {t:Tm} (ht:Fm t) {a b:Int} (ha:0<=a/\a<=1000000) (hb:0<=b/\b<9223372036854775808) (J:Tm×Int->OS S):gV k t a b 0 J=J (tE (cG a b t)):=by
 simp only [gV,ao hk.fu,ew,aM,Pf hk ht ha hb,oZ,if_true]
 rfl
theorem GA (hk:F3 k) {t:Tm} (ht:Fm t) {r:LC} (hr:RF r) (J:Tm×Int->OS S):ls k t r 0 J=J (tE (g_ r t)):=by
 simp only [ls,ao hk.fu,ew,aM,aeV hk ht (show (0:Int)<=1/\(1:Int)<=24 by omega) (show (0:Int)<=2/\(2:Int)<9223372036854775808 by omega),oZ,if_true]
 rw [show ((0:Int)==0)=true from rfl,dL,ak,kA _ J]
 unfold g_
 rw [dk]
 cases hx:dP 0 2 0 1 t with
 |error e=>
  have:=AF t hx
  show ac (!(e==0)) (J (noT,e)) _=_
  rw [eI,decide_eq_false (by omega),ef,au];rfl
 |ok y=>
  have hy:=nD (by omega) ht hx
  show ac (!((0:Int)==0)) _ (lu k y 0 r fun r5=>J (r5.1,if (0:Int)=0 then r5.2 else 0))=_
  simp_all [ak,Gy,dB,kA]
theorem O9 (hk:F3 k) {t:Tm} (ht:In k t) (J:Tm×Int×Int->OS S):fV k t 0 J=J (if dl t=0 then (t,0,0) else (noT,dl t,dl t)):=by
 simp only [fV,ao hk.fu,ew,aM,lY ht.1 ht.2.1 ht.dep,oZ,if_true]
 rw [show ((0:Int)==0)=true from rfl,au,eI]
 by_cases h0:dl t=0
 ·grind [ak]
 ·rw [decide_eq_false h0,if_neg h0,ef,au];rfl
def lm (line:Tm) (phi:LC) (a:Tm) (en:Cl) (r:LC):Except Int Tm:=
 bE (fj (du phi 0 1)) fun f1=>bE (fj (iN f1 [en])) fun f=>bE (g_ r line) fun l=>bE (cG 0 1 a) fun a'=> .ok (.mk 14 0 aw f [l,a'] [])
def ic (x:Except Int Tm):Except Int Tm:=bE x fun t=>if dl t=0 then .ok t else .error (dl t)
def g9 (line:Tm) (phi:LC) (a:Tm) (en:Cl) (r:LC):Except Int Tm:=
 if dX [line,a]=0 then if cm phi then ic (lm line phi a en r) else .error 2 else .error (dX [line,a])
theorem Y0 (f g:LC):EN (iN f g).2:=by
 grind [iN,Av,nf]
theorem J4 {f g:LC} (hf:av f) (hg:av g) (h:(iN f g).2=0):RFa (iN f g).1:=by
 grind [iN,Aw,kB]
theorem HL {z:LC×Int} (hz:EN z.2) {e:Int} (h:fj z= .error e):0<e/\e<=1000:=by
 grind [B5,EN]
theorem UC {line:Tm} {phi:LC} {a:Tm} {en:Cl} {r:LC} {e:Int} (h:lm line phi a en r= .error e):0<e/\e<=1000:=by
 rcases dj h with h|⟨_,_,h⟩
 ·exact HL (vQ _ _ _) h
 rcases dj h with h|⟨_,_,h⟩
 ·exact HL (Y0 _ _) h
 rcases dj h with h|⟨_,_,h⟩
 ·exact rd h
 rcases dj h with h|⟨_,_,h⟩
 ·exact g6 h
 simp_all
theorem Ih (hk:F3 k) {line:Tm} {phi:LC} {a:Tm} {en:Cl} {r:LC} (hl:Fm line) (ha:Fm a) (hp:RF phi) (he:cH en) {t:Tm} (h:lm line phi a en r= .ok t):In k t/\t.kind=14:=by
 obtain ⟨f1,h1,h⟩:=am h
 obtain ⟨f,h2,h⟩:=am h
 obtain ⟨l,h3,h⟩:=am h
 obtain ⟨a',h4,h⟩:=am h
 injection h with h;subst h
 obtain ⟨g1,rfl⟩:=ju h1
 obtain ⟨g2,rfl⟩:=ju h2
 have hf1:=km g1
 have hf:=(J4 hf1.2 (fun c hc=>by grind) g2).1
 obtain ⟨l1,l2,l3,l4⟩:=C1 hl h3
 have ha':=lh (by omega) ha h4
 have:=hf.len;have:=ha'.dep;have:=ha'.siz
 refine ⟨⟨?_,hk.fd ?_, ?_⟩,rfl⟩
 ·rw [OkT,aK,aK,aK,bk]
  refine ⟨⟨by unfold aI;omega,by unfold aI;omega,by simp,hf.2,by omega,by simp,by simp⟩,⟨l1,ha'.ok,trivial⟩,trivial⟩
 all_goals grind [ap,bj,bB,aG,aD,aJ]
theorem aet (hk:F3 k) {line a:Tm} {phi r:LC} {en:Cl} (hl:In k line) (ha:In k a) (hp:av phi) (hpl:phi.length<1073741824) (he:cH en) (hr:RF r) (J:Tm×Int->OS S):yP k line phi a en r J=J (tE (g9 line phi a en r)):=by
 have hin: ∀t∈[line,a],In k t:=fun t ht=>by
  grind
 have hen:av [en]:=fun c hc=>by grind
 have bad: ∀c:Int,c≠0->(mg k phi c fun r4=>nZ k r4.1 [en] r4.2 fun r5=>ls k line r r5.2 fun r6=>gV k a 0 1 r6.2 fun r7=>
   eJ k 14 [r6.1,r7.1] fun r8=>fV k (Tm.mk r8.1 r8.2.1 r8.2.2.1 r5.1 r8.2.2.2 []) r7.2 fun r9=>J (r9.1,r9.2.1))=J (noT,c):=by
  simp_all [eJ,afc,Pj,BL,qP,lZ]
 simp only [yP,ao hk.fu,aM,BM hk hin (by simp),tT hk.fu hp (show phi.length<2147483648 by omega),oZ]
 unfold g9
 by_cases h0:dX [line,a]=0
 ·simp only [h0,if_true]
  have hfm:=pc (fun t ht=>(hin t ht).1) h0
  have hl':=hfm line (by simp)
  have ha':=hfm a (by simp)
  cases hph:cm phi with
  |false=>
   rw [ef,au,if_neg (show ¬ (false=true) by decide)]
   exact bad 2 (by decide)
  |true=>
   have hrf:=(kB hp).1 hph
   rw [dL,ak,if_pos (show true=true from rfl),Pm hk hp hpl,kA _ J]
   unfold ic
   rw [dk]
   have hal: ∀t,lm line phi a en r= .ok t->In k t:=fun t h=>(Ih hk hl' ha' hrf.1 he h).1
   revert hal
   unfold lm
   intro hal
   by_cases h1:(du phi 0 1).2=0
   ·have hf1:=km h1
    have hlen1:=hf1.len
    rw [qW h1,bO] at hal ⊢
    rw [h1,ae7 hk hf1.2 hen (by omega) (by simp)]
    by_cases h2:(iN (du phi 0 1).1 [en]).2=0
    ·rw [qW h2,bO] at hal ⊢
     rw [h2,GA hk hl' hr]
     cases h3:g_ r line with
     |error e=>
      have hc:=(rd h3).1
      show gV k a 0 1 e _=J (noT,e)
      grind [eJ,qP,lZ]
     |ok l=>
      rw [h3,bO] at hal
      show gV k a 0 1 0 _=_
      rw [GJ hk ha' (by omega) (by omega),bO]
      cases h4:cG 0 1 a with
      |error e=>
       have hc:=(g6 h4).1
       show eJ k 14 _ _=J (noT,e)
       simp only [eJ]
       show fV k _ e _=_
       grind [lZ]
      |ok a'=>
       rw [h4,bO] at hal
       show eJ k 14 _ _=_
       simp only [eJ]
       show fV k (Tm.mk 14 0 aw (iN (du phi 0 1).1 [en]).1 [l,a'] []) 0 _=_
       rw [O9 hk (hal _ rfl),bO,dB]
       by_cases h5:dl (Tm.mk 14 0 aw (iN (du phi 0 1).1 [en]).1 [l,a'] [])=0
       ·rw [if_pos h5,if_pos h5];rfl
       ·rw [if_neg h5,if_neg h5];rfl
    ·rw [tZ h2]
     show _=J (noT,(iN (du phi 0 1).1 [en]).2)
     grind [eJ,BL,qP,lZ]
   ·rw [tZ h1]
    show _=J (noT,(du phi 0 1).2)
    simp_all [eJ,Pj,BL,qP,lZ]
 ·simp only [if_neg h0]
  cases cm phi with
  |false=>rw [ef,au];exact bad _ h0
  |true=>rw [dL,ak];exact bad _ h0
end Go.Proofs.YtgajalidbabccaaGreatDoor
namespace Go.Proofs.YtgajalidbabccaaGreatDoor
open Go PI
set_option maxRecDepth 100000

set_option maxRecDepth 20000
variable {S:Type} {k:Nat}
theorem O6 {l:LC} (hl:l.length<1073741824) (J:LC->OS S):tv l J=J l:=by
 grind [tv,dm]
section
variable {hd:Tm->(Tm->OS S)->OS S}
theorem aad (hk:Fu k) (J:LT->OS S) {l:LT} (hQ: ∀y∈l,∀g,hd y g=g y) (hl:l.length<1073741824):
  ∀ (r p:LT) (m:Nat),l=p++r->r.length<m->tc hd k J l m p (p.length:Int)=J l:=by
 intro r
 induction r with
 |nil=>
  grind [ax,tc,yp,ak]
 |cons y r ih=>
  intro p m h hm
  obtain ⟨m,rfl,hm'⟩:=ax hm
  obtain ⟨e1,e2,e3,e4⟩:=bL h (by omega)
  grind [tc,yp,au,aM,dm]
theorem O7 (hk:Fu k) {l:LT} (hQ: ∀y∈l,∀g,hd y g=g y) (hl:l.length<1073741824) (J:LT->OS S):vh hd k l J=J l:=by
 simp only [vh,HB]
 exact aad hk J hQ hl l [] k rfl (by omega)
theorem aae (hk:Fu k) (J:Tm->OS S) {t:Tm} (ht:OkT t) (hQ: ∀b∈t.sys,∀y∈b.kids,∀g,hd y g=g y) (r1:LC) (r2:LT):
  ∀ (r p:LB) (m:Nat),t.sys=p++r->r.length<m->tb hd k J t r1 r2 m p (p.length:Int)=J (.mk t.kind t.n t.name r1 r2 t.sys):=by
 obtain ⟨o1,o2,o3,o4,o5,o6,o7⟩:=ht.no
 intro r
 induction r with
 |nil=>
  grind [ax,tb,yo,ak]
 |cons y r ih=>
  intro p m h hm
  obtain ⟨m,rfl,hm'⟩:=ax hm
  obtain ⟨e1,e2,e3,e4⟩:=bL h (by omega)
  have hy:y∈t.sys:=by grind
  have hb:=(ht.bi hy).1
  have hlen:p.length+r.length+1=t.sys.length:=by grind
  simp only [tb,yo,e1,au,e2,bD,aM,e3,O6 hb.2.1,ao hk,O7 hk (hQ y hy) hb.2.2]
  rw [dm (by grind)]
  have:=ih (p++[y]) m e4 hm'
  omega
end
theorem oY (t:Tm):OkT t-> ∀ {k:Nat} (J:Tm->OS S),Fd k (ap t)->fF k t J=J t:=by
 induction t using lg with
 |h t ih1 ih2=>
  intro ht k J hk
  obtain ⟨q,rfl,hq,hf⟩:=hk.pos' (jj t)
  obtain ⟨o1,o2,o3,o4,o5,o6,o7⟩:=ht.no
  simp only [fF,HA,O6 o5,ao hq,O7 hq (fun y hy g=>ih1 y hy (ht.ki hy) g (hf _ (iL hy))) o6]
  have:=aae hq J ht (fun b hb y hy g=>ih2 b hb y hy ((ht.bi hb).2 y hy) g (hf _ (ji hb hy))) t.r t.kids t.sys [] q rfl (by omega)
  refine aq this ?_
  cases t;rfl
theorem acB {v d d':Int} (h:24<=d) (h':24<=d') (t:Tm):dS v d t=dS v d' t:=by
 have hb: ∀kd,aR kd d=aR kd d':=fun kd=>by grind [aR,AI]
 simp_all [dS,AI]
theorem ra (t:Tm): ∀ {v d d':Int},24<=d->24<=d'->aE false v d t=aE false v d' t:=by
 induction t using lg with
 |h t ih1 ih2=>
  intro v d d' h h'
  rw [xo,xo,acB h h']
  have hK: ∀ (l:LT) (i:Nat),(∀x∈l,x∈t.kids)->bK false v d t.kind i l=bK false v d' t.kind i l:=by
   intro l
   induction l<;>grind [bK,bJ]
  grind [lk,aN]
theorem BI:RF [⟨3,0⟩]:=la ⟨⟨by decide,by decide⟩,by decide,by decide⟩
theorem L9:cH ⟨0,1⟩:=⟨⟨by decide,by decide⟩,by decide,by decide⟩
theorem ab1:cH ⟨1,0⟩:=⟨⟨by decide,by decide⟩,by decide,by decide⟩
theorem aer (hk:F3 k) {line a:Tm} {phi:LC} (hl:In k line) (ha:In k a) (hp:av phi) (hpl:phi.length<1073741824) (J:Tm×Int->OS S):yO k line phi a J=J (tE (g9 line phi a ⟨0,1⟩ [⟨3,0⟩])):=by
 grind [yO,aM,ao,aet,L9,BI]
theorem LY:OkT noT:=by
 unfold noT
 rw [OkT,aK,bk]
 exact ⟨⟨by unfold aI;omega,by unfold aI;omega,by simp,fun c hc=>(by cases hc),by simp,by simp,by simp⟩,trivial,trivial⟩
theorem mz (hk:F3 k):In k noT:=⟨LY,hk.fd (by grind [noT,ap,bj,bB]),by grind [noT,aG,aD,aJ]⟩
theorem tU (t:Tm):aG t=1+aD t.kids+aJ t.sys:=by cases t;rfl
def nS (most w:Int) (n:Nat):Prop:=1<=w/\w<=2*most+1/\(w<=most->(n:Int)<=w)
def Mo (most:Int):Prop:=0<=most/\most<=1000
section
variable {hd:Tm->Int->(Int->OS S)->OS S} {t:Tm}
theorem aaa (hk:Fu k) (J:Int->OS S) (rec1:Int->Int->OS S) {v most:Int} (hm0:Mo most) {x:Br Tm} (hv:ar t.sys v=some x) (hQ: ∀y∈x.kids,∀n,Mo n-> ∀g,∃w,hd y n g=g w/\nS n w (aG y)) (hl:x.kids.length<1073741824):
  ∀ (r p:LT) (m:Nat) (a:Int),x.kids=p++r->r.length<m->1<=a->a<=2*most+1-> ∃w,nz hd k J rec1 t most v m a (p.length:Int)=rec1 w (aj .i64 (v+1))/\a<=w/\w<=2*most+1/\(w<=most->a+(aD r:Int)<=w):=by
 obtain ⟨hm1,hm2⟩:=hm0
 intro r
 induction r with
 |nil=>
  intro p m a h hm ha ha'
  obtain ⟨m,rfl,hm'⟩:=ax hm
  exact ⟨a,by grind [nz,yi,ak],f_ _,ha',fun _=>by rw [aD];simp⟩
 |cons y r ih=>
  intro p m a h hm ha ha'
  obtain ⟨m,rfl,hm'⟩:=ax hm
  obtain ⟨e1,e2,e3,e4⟩:=bL h (by omega)
  simp only [nz,yi,hv,e1,au,e2,bD,aM,e3]
  by_cases hc:a<=most
  ·rw [decide_eq_true hc,au,dY (show-9223372036854775808<=most-a by omega) (by omega)]
   obtain ⟨w,hw,w1,w2,w3⟩:=hQ y (by grind) (most-a) ⟨by omega,by omega⟩ (fun r8=>nz hd k J rec1 t most v m (aj .i64 (a+r8)) (((p++[y]).length:Nat):Int))
   rw [hw,dY (show-9223372036854775808<=a+w by omega) (by omega)]
   obtain ⟨u,hu,u1,u2,u3⟩:=ih (p++[y]) m (a+w) e4 hm' (by omega) (by omega)
   exact ⟨u,hu,by omega,u2,fun hle=>by grind [aD]⟩
  grind [ak]
theorem Z_ (hk:Fu k) (J:Int->OS S) {most:Int} (hm0:Mo most) (hQ: ∀b∈t.sys,∀y∈b.kids,∀n,Mo n-> ∀g,∃w,hd y n g=g w/\nS n w (aG y)) (ht:OkT t):
  ∀ (r p:LB) (m:Nat) (a:Int),t.sys=p++r->r.length<m->1<=a->a<=2*most+1-> ∃w,mu hd k J t most m a (p.length:Int)=J w/\a<=w/\w<=2*most+1/\(w<=most->a+(aJ r:Int)<=w):=by
 obtain ⟨o1,o2,o3,o4,o5,o6,o7⟩:=ht.no
 have hm1:=hm0.1
 have hm2:=hm0.2
 intro r
 induction r with
 |nil=>
  intro p m a h hm ha ha'
  obtain ⟨m,rfl,hm'⟩:=ax hm
  exact ⟨a,by grind [mu,uB,ak],f_ _,ha',fun _=>by rw [aJ];simp⟩
 |cons x r ih=>
  intro p m a h hm ha ha'
  obtain ⟨m,rfl,hm'⟩:=ax hm
  obtain ⟨e1,e2,e3,e4⟩:=bL h (by omega)
  have hx:x∈t.sys:=by grind
  have hb:=(ht.bi hx).1
  simp only [mu,uB,e1,au,e2,bD,e3]
  by_cases hc:a<=most
  ·rw [decide_eq_true hc,au]
   by_cases hf:((x.face.length:Nat):Int)>most
   ·grind [au,dY]
   ·rw [decide_eq_false hf,ak,dY (show-9223372036854775808<=a+1 by omega) (by omega),dY (show-9223372036854775808<=a+1+((x.face.length:Nat):Int) by omega) (by omega)]
    obtain ⟨w,hw,w1,w2,w3⟩:=aaa (t:=t) (most:=most) hk J (mu hd k J t most m) hm0 e2 (hQ x hx) hb.2.2 x.kids [] k (a+1+((x.face.length:Nat):Int)) rfl (by omega) (by omega) (by omega)
    have hw:nz hd k J (mu hd k J t most m) t most (p.length:Int) k (a+1+((x.face.length:Nat):Int)) 0=_:=hw
    rw [hw,e3]
    obtain ⟨u,hu,u1,u2,u3⟩:=ih (p++[x]) m w e4 hm' (by omega) w2
    exact ⟨u,hu,by omega,u2,fun hle=>by grind [aJ,qS]⟩
  grind [ak]
theorem Z9 (hk:Fu k) (J:Int->OS S) {most:Int} (hm0:Mo most) (hQ: ∀y∈t.kids,∀n,Mo n-> ∀g,∃w,hd y n g=g w/\nS n w (aG y)) (hQ': ∀b∈t.sys,∀y∈b.kids,∀n,Mo n-> ∀g,∃w,hd y n g=g w/\nS n w (aG y)) (ht:OkT t):
  ∀ (r p:LT) (m:Nat) (a:Int),t.kids=p++r->r.length<m->1<=a->a<=2*most+1-> ∃w,qj hd k J t most m a (p.length:Int)=J w/\a<=w/\w<=2*most+1/\(w<=most->a+(aD r:Int)+(aJ t.sys:Int)<=w):=by
 obtain ⟨o1,o2,o3,o4,o5,o6,o7⟩:=ht.no
 have hm1:=hm0.1
 have hm2:=hm0.2
 intro r
 have hs:=fun a=>Z_ (most:=most) hk J hm0 hQ' ht t.sys [] k a rfl (by omega)
 induction r with
 |nil=>
  grind [ax,qj,uA,ak,aD]
 |cons y r ih=>
  intro p m a h hm ha ha'
  obtain ⟨m,rfl,hm'⟩:=ax hm
  obtain ⟨e1,e2,e3,e4⟩:=bL h (by omega)
  simp only [qj,uA,e1,au,e2,bD,aM,e3]
  by_cases hc:a<=most
  ·rw [decide_eq_true hc,au,dY (show-9223372036854775808<=most-a by omega) (by omega)]
   obtain ⟨w,hw,w1,w2,w3⟩:=hQ y (by grind) (most-a) ⟨by omega,by omega⟩ (fun r2=>qj hd k J t most m (aj .i64 (a+r2)) (((p++[y]).length:Nat):Int))
   rw [hw,dY (show-9223372036854775808<=a+w by omega) (by omega)]
   obtain ⟨u,hu,u1,u2,u3⟩:=ih (p++[y]) m (a+w) e4 hm' (by omega) (by omega)
   exact ⟨u,hu,by omega,u2,fun hle=>by grind [aD]⟩
  grind [ak]
end
theorem ae_ (t:Tm):OkT t-> ∀ {k:Nat} (most:Int),Mo most-> ∀ (J:Int->OS S),Fd k (ap t)-> ∃w,kO k t most J=J w/\nS most w (aG t):=by
 induction t using lg with
 |h t ih1 ih2=>
  intro ht k most hm0 J hk
  have hm1:=hm0.1
  have hm2:=hm0.2
  obtain ⟨q,rfl,hq,hf⟩:=hk.pos' (jj t)
  obtain ⟨o1,o2,o3,o4,o5,o6,o7⟩:=ht.no
  have hQ: ∀y∈t.kids,∀n,Mo n-> ∀ (g:Int->OS S),∃w,kO q y n g=g w/\nS n w (aG y):=fun y hy n hn g=>ih1 y hy (ht.ki hy) n hn g (hf _ (iL hy))
  have hQ': ∀b∈t.sys,∀y∈b.kids,∀n,Mo n-> ∀ (g:Int->OS S),∃w,kO q y n g=g w/\nS n w (aG y):=fun b hb y hy n hn g=>ih2 b hb y hy ((ht.bi hb).2 y hy) n hn g (hf _ (ji hb hy))
  simp only [kO,Hu]
  have out: ∃w,J (aj .i64 (most+1))=J w/\nS most w (aG t):=⟨most+1,by grind [dY],by omega,by omega,fun h=>by omega⟩
  by_cases hr:((t.r.length:Nat):Int)>most
  ·grind [au]
  ·rw [decide_eq_false hr,ak]
   by_cases hn:((t.name.size:Nat):Int)>most
   ·grind [au]
   ·rw [decide_eq_false hn,ak,dY (show-9223372036854775808<=1+((t.r.length:Nat):Int) by omega) (by omega),dY (show-9223372036854775808<=1+((t.r.length:Nat):Int)+((t.name.size:Nat):Int) by omega) (by omega)]
    obtain ⟨w,hw,w1,w2,w3⟩:=Z9 hq J hm0 hQ hQ' ht t.kids [] q (1+((t.r.length:Nat):Int)+((t.name.size:Nat):Int)) rfl (by omega) (by omega) (by omega)
    exact ⟨w,hw,by omega,w2,fun hle=>by grind [tU]⟩
def aH (kd:Int) (l:LT):Tm:= .mk kd 0 aw [] l []
def vN (n:Int):Tm:= .mk 1 n aw [] [] []
def eD (c a b:Int) (t:Tm):Tm×Int:=if c=0 then tE (cG a b t) else (noT,c)
def mK (p:Tm×Int):Except Int Tm:=if p.2=0 then .ok p.1 else .error p.2
theorem nR {c a b:Int} {t:Tm} (h:c≠0):eD c a b t=(noT,c):=if_neg h
theorem B7 {c a b:Int} {t:Tm} (h:(eD c a b t).2=0):c=0:=by
 grind [nR]
theorem w8 (a b:Int) (t:Tm):eD 0 a b t=tE (cG a b t):=rfl
theorem wT (hk:F3 k) {c:Int} {t:Tm} (h:c=0->Fm t) {a b:Int} (ha:0<=a/\a<=1000000) (hb:0<=b/\b<9223372036854775808) (J:Tm×Int->OS S):gV k t a b c J=J (eD c a b t):=by
 by_cases hc:c=0
 ·subst hc;exact GJ hk (h rfl) ha hb J
 grind [qP,nR]
theorem GD (hk:F3 k) {t:Tm} {c:Int} (h:c=0->In k t) (J:Tm×Int->OS S):(fV k t c fun r=>J (r.1,r.2.1))=J (tE (ic (mK (t,c)))):=by
 by_cases hc:c=0
 ·subst hc
  rw [O9 hk (h rfl)]
  show _=J (tE (ic (.ok t)))
  unfold ic
  rw [bO]
  by_cases h0:dl t=0
  ·rw [if_pos h0,if_pos h0];rfl
  ·rw [if_neg h0,if_neg h0];rfl
 ·rw [lZ hc hk]
  show _=J (tE (ic (if c=0 then _ else _)))
  rw [if_neg hc];rfl
def ov (c:Int) (t a f y:Tm):Tm×Int:=
 (aH 7 [t,aH 11 [(eD c 1 1 a).1,(eD (eD c 1 1 a).2 1 0 y).1,aH 6 [(eD (eD (eD c 1 1 a).2 1 0 y).2 1 0 f).1,vN 0]]],(eD (eD (eD c 1 1 a).2 1 0 y).2 1 0 f).2)
def gJ (t a f y:Tm):Except Int Tm:=bE (cG 1 1 a) fun a'=>bE (cG 1 0 y) fun y'=>bE (cG 1 0 f) fun f'=> .ok (aH 7 [t,aH 11 [a',y',aH 6 [f',vN 0]]])
theorem Jt {c:Int} (h:c≠0) (t a f y:Tm):(ov c t a f y).2=c:=by
 grind [ov,nR]
theorem Ju (t a f y:Tm):mK (ov 0 t a f y)=gJ t a f y:=by
 unfold ov gJ
 rw [w8]
 cases h1:cG 1 1 a with
 |error e=>
  have he:e≠0:=by have:=g6 h1;omega
  show mK (_,(eD (eD e 1 0 y).2 1 0 f).2)=_
  rw [nR he,nR he,rf];exact if_neg he
 |ok a'=>
  rw [bO]
  show mK (aH 7 [t,aH 11 [a',(eD 0 1 0 y).1,aH 6 [(eD (eD 0 1 0 y).2 1 0 f).1,vN 0]]],(eD (eD 0 1 0 y).2 1 0 f).2)=_
  rw [w8]
  cases h2:cG 1 0 y with
  |error e=>
   have he:e≠0:=by have:=g6 h2;omega
   show mK (_,(eD e 1 0 f).2)=_
   rw [nR he,rf];exact if_neg he
  |ok y'=>
   rw [bO]
   show mK (aH 7 [t,aH 11 [a',y',aH 6 [(eD 0 1 0 f).1,vN 0]]],(eD 0 1 0 f).2)=_
   rw [w8]
   cases h3:cG 1 0 f with
   |error e=>
    have he:e≠0:=by have:=g6 h3;omega
    rw [rf];exact if_neg he
   |ok f'=>rfl
theorem aeM (hk:F3 k) {c:Int} {t a f y:Tm} (ha:c=0->Fm a) (hf:c=0->Fm f) (hy:c=0->Fm y) (J:Int×Int×BA×LT×Int->OS S):
  yR k t a f y c J=J (7,0,aw,(ov c t a f y).1.kids,(ov c t a f y).2):=by
 simp only [yR,ao hk.fu,aM,wT hk ha (show (0:Int)<=1/\(1:Int)<=1000000 by omega) (show (0:Int)<=1/\(1:Int)<9223372036854775808 by omega),
  wT hk (fun h=>hy (B7 h)) (show (0:Int)<=1/\(1:Int)<=1000000 by omega) (show (0:Int)<=0/\(0:Int)<9223372036854775808 by omega),
  wT hk (fun h=>hf (B7 (B7 h))) (show (0:Int)<=1/\(1:Int)<=1000000 by omega) (show (0:Int)<=0/\(0:Int)<9223372036854775808 by omega),Dv,eJ]
 rfl
theorem Ef {t a f y:Tm} {e:Int} (h:gJ t a f y= .error e):0<e/\e<=1000:=by
 rcases dj h with h|⟨_,_,h⟩
 ·exact g6 h
 rcases dj h with h|⟨_,_,h⟩
 ·exact g6 h
 rcases dj h with h|⟨_,_,h⟩
 ·exact g6 h
 simp_all
theorem Mb (n:Int) (h:0<=n/\n<=10):OkT (vN n):=by
 unfold vN
 rw [OkT,aK,bk]
 exact ⟨⟨by unfold aI;omega,by unfold aI;omega,by simp,fun c hc=>(by cases hc),by simp,by simp,by simp⟩,trivial,trivial⟩
theorem fm_v0:Fm (vN 0):=⟨Mb 0 (by omega),by rfl⟩
theorem fm_v1:Fm (vN 1):=⟨Mb 1 (by omega),by rfl⟩
theorem Ft {kd:Int} (hkd:0<=kd/\kd<=28) {l:LT} (hl:l.length<10) (h: ∀x∈l,OkT x):OkT (aH kd l):=by
 unfold aH
 rw [OkT,okK_iff,bk]
 exact ⟨⟨by unfold aI;omega,by unfold aI;omega,by simp,fun c hc=>(by cases hc),by simp,by omega,by simp⟩,h,trivial⟩
theorem Ig {kd d:Int} (hd:24<=d) {l:LT} (ho:dS (-1) 24 (aH kd l)=true) (h: ∀x∈l,aE false (-1) 24 x=true):aE false (-1) d (aH kd l)=true:=by
 rw [ra (aH kd l) hd (show (24:Int)<=24 by omega),xo,ho]
 have hK: ∀ (r:LT) (i:Nat),(∀x∈r,aE false (-1) 24 x=true)->bK false (-1) 24 kd i r=true:=by
  intro r
  induction r with
  |nil=>intro i _;rw [bK]
  |cons x r ih=>
   intro i hr
   have hb:=jA kd i
   rw [bK,ih _ fun y hy=>hr y (by simp [hy])]
   have hv:cL (-1) (cY kd i)= -1:=rfl
   rw [hv,ra x (show (24:Int)<=24+bJ kd i by omega) (show (24:Int)<=24 by omega),hr x (by simp)];rfl
 show (!(false&&_)&&(true&&(bK false (-1) 24 kd 0 l&&aL false (-1) 24 kd [])))=true
 grind [aL]
def Fd2 (n m:Nat) (t:Tm):Prop:=OkT t/\aE false (-1) 24 t=true/\ap t<=n/\aG t<=m
theorem Fd2.fm {n m:Nat} {t:Tm} (h:Fd2 n m t) (hn:n<=200) (hm:m<=20000):Fm t:=⟨h.1,pX (by have:=h.2.2.1;omega) (by have:=h.2.2.2;omega) h.2.1⟩
theorem Fd2.isIn {n m:Nat} {t:Tm} (h:Fd2 n m t) (hk:F3 k) (hn:n<=1000) (hm:m<=1000000):In k t:=⟨h.1,hk.fd (by have:=h.2.2.1;omega),by have:=h.2.2.2;omega⟩
theorem Fm.f2 {t:Tm} (h:Fm t):Fd2 200 20000 t:=⟨h.1,(jm h.2).2.2,(jm h.2).1,(jm h.2).2.1⟩
theorem Fd2.mono {n m n' m':Nat} {t:Tm} (h:Fd2 n m t) (hn:n<=n') (hm:m<=m'):Fd2 n' m' t:=⟨h.1,h.2.1,by have:=h.2.2.1;omega,by have:=h.2.2.2;omega⟩
theorem Fd2.up {n m:Nat} {t t':Tm} (h:Fd2 n m t) {a b:Int} (ha:0<=a/\a<=1000000000) (hl:cG a b t= .ok t'):Fd2 n m t':=by
 obtain ⟨u,h1,h2⟩:=am hl
 obtain ⟨p1,p2,p3,p4⟩:=EX ha.1 ha.2 t 0 0 u h1
 obtain ⟨q1,q2,q3,q4⟩:=EX (by omega) (by omega) u 0 0 t' h2
 have w:=p4 h.1
 have w2:=q4 w.1
 have ho:=w.2.2 24 24 (by omega) (by omega) h.2.1
 exact ⟨w2.1,w2.2.2 24 24 (by omega) (by omega) ho,by have:=h.2.2.1;omega,by have:=h.2.2.2;omega⟩
theorem Jr {kd:Int} (hkd:0<=kd/\kd<=28) {n m:Nat} {a b:Tm} (ho:dS (-1) 24 (aH kd [a,b])=true) (ha:Fd2 n m a) (hb:Fd2 n m b):Fd2 (n+1) (2*m+1) (aH kd [a,b]):=by
 grind [Fd2,Ft,Ig,aH,ap,bj,bB,aG,aD,aJ]
theorem XT {kd:Int} (hkd:0<=kd/\kd<=28) {n m:Nat} {a b c:Tm} (ho:dS (-1) 24 (aH kd [a,b,c])=true) (ha:Fd2 n m a) (hb:Fd2 n m b) (hc:Fd2 n m c):Fd2 (n+1) (3*m+1) (aH kd [a,b,c]):=by
 grind [Fd2,Ft,Ig,aH,ap,bj,bB,aG,aD,aJ]
theorem X9 {n m:Nat} (hn:1<=n) (hm:1<=m) {i:Int} (hi:i=0\/i=1):Fd2 n m (vN i):=by
 have:Fd2 1 1 (vN i):=by
  rcases hi with rfl|rfl
  ·exact ⟨fm_v0.1,by rfl,by show 1<=1;omega,by show 1<=1;omega⟩
  ·exact ⟨fm_v1.1,by rfl,by show 1<=1;omega,by show 1<=1;omega⟩
 exact this.mono hn hm
theorem Jv {n m:Nat} (hn:1<=n) (hm:1<=m) {t a f y x:Tm} (ht:Fd2 n m t) (ha:Fd2 n m a) (hf:Fd2 n m f) (hy:Fd2 n m y) (h:gJ t a f y= .ok x):Fd2 (n+3) (12*m+9) x:=by
 obtain ⟨a',h1,h⟩:=am h
 obtain ⟨y',h2,h⟩:=am h
 obtain ⟨f',h3,h⟩:=am h
 injection h with h;subst h
 have c1:=Jr (kd:=6) (by omega) (by rfl) (hf.up (by omega) h3) (X9 hn hm (.inl rfl))
 have c2:=XT (kd:=11) (by omega) (by rfl) ((ha.up (by omega) h1).mono (Nat.le_succ n) (show m<=2*m+1 by omega)) ((hy.up (by omega) h2).mono (Nat.le_succ n) (show m<=2*m+1 by omega)) c1
 exact (Jr (kd:=7) (by omega) (by rfl) (ht.mono (show n<=n+1+1 by omega) (show m<=3*(2*m+1)+1 by omega)) c2).mono (by omega) (by omega)
mutual
def Dm (n:Int):Tm->Nat
 | .mk kd m _ _ ks sys=>(if kd=1/\m=n then 1 else 0)+(IC n kd 0 ks+IE n sys)
def IC (n kd:Int) (i:Nat):LT->Nat
 |[]=>0
 |t::l=>Dm (n+cY kd i) t+IC n kd (i+1) l
def IE (n:Int):LB->Nat
 |[]=>0
 |b::l=>Vv n b+IE n l
def Vv (n:Int):Br Tm->Nat
 | .mk _ ks=>ID n ks
def ID (n:Int):LT->Nat
 |[]=>0
 |t::l=>Dm n t+ID n l
end
mutual
def FF (n:Int) (u:Tm) (v d:Int):Tm->Except Int Tm
 | .mk kd m nm r ks sys=>if kd=1/\m=n+v then cG v d u else bE (Mk n u v d kd 0 ks) fun ks'=>bE (Mm n u v d kd sys) fun sys'=> .ok (.mk kd (if kd=1/\m>n+v then m-1 else m) nm r ks' sys')
def Mk (n:Int) (u:Tm) (v d kd:Int) (i:Nat):LT->Except Int (LT)
 |[]=> .ok []
 |t::l=>bE (FF n u (v+cY kd i) (d+bJ kd i) t) fun t'=>bE (Mk n u v d kd (i+1) l) fun l'=> .ok (t'::l')
def Mm (n:Int) (u:Tm) (v d kd:Int):LB->Except Int (LB)
 |[]=> .ok []
 |b::l=>bE (acG n u v d kd b) fun b'=>bE (Mm n u v d kd l) fun l'=> .ok (b'::l')
def acG (n:Int) (u:Tm) (v d kd:Int):Br Tm->Except Int (Br Tm)
 | .mk f ks=>bE (Ml n u v d kd ks) fun ks'=> .ok (.mk f ks')
def Ml (n:Int) (u:Tm) (v d kd:Int):LT->Except Int (LT)
 |[]=> .ok []
 |t::l=>bE (FF n u v (d+aN kd) t) fun t'=>bE (Ml n u v d kd l) fun l'=> .ok (t'::l')
end
def acH (n:Int) (t u:Tm):Except Int Tm:=if aG t+Dm n t*(aG u-1)>20000 then .error 221 else bE (FF n u 0 0 t) fun o=>if ap o>200 then .error 62 else .ok o
section
variable {n v d kd:Int} {u:Tm}
end
def oy {α:Type} (t:Tm) (x:Except Int α):Except Int α:=if dl t=0 then x else .error (dl t)
theorem JA {α:Type} {t:Tm} {x:Except Int α} {e:Int} (hx: ∀e,x= .error e->0<e/\e<=1000) (h:oy t x= .error e):0<e/\e<=1000:=by
 unfold oy at h
 split at h
 ·exact hx e h
 ·rename_i h0
  injection h with h
  have:=Ej t;omega
def cJ (a b:Int) (t:Tm):Except Int Tm:=oy t (cG a b t)
def bX (i:Int) (r:LC) (t:Tm):Except Int Tm:=oy t (eS i r t)
theorem mb {e:Int} (h:e≠0):(e==0)=false:=by simpa using h
theorem aeh (hk:F3 k) {t:Tm} (ht:In k t) {vb db:Int} (hvb:0<=vb/\vb<=1000000) (hdb:0<=db/\db<9223372036854775808) (J:Tm×Int->OS S):pQ k t vb db J=J (tE (cJ vb db t)):=by
 unfold cJ oy
 by_cases h:dl t=0
 ·rw [if_pos h];exact Pf hk ⟨ht.1,h⟩ hvb hdb J
 ·rw [if_neg h]
  simp only [pQ,ao hk.fu,aM,zD,B2,lY ht.1 ht.2.1 ht.dep,mb h,ef,au];rfl
theorem Gz (hk:F3 k) {t:Tm} (ht:In k t) {i:Int} (hi:0<=i/\i<24) {r:LC} (hr:RF r) (J:Tm×Int->OS S):lu k t i r J=J (tE (bX i r t)):=by
 unfold bX oy
 by_cases h:dl t=0
 ·rw [if_pos h];exact Gy hk ⟨ht.1,h⟩ hi hr J
 ·rw [if_neg h]
  simp only [lu,ao hk.fu,aM,y7,lY ht.1 ht.2.1 ht.dep,mb h,ef,au];rfl
end Go.Proofs.YtgajalidbabccaaGreatDoor
namespace Go.Proofs.YtgajalidbabccaaGreatDoor
open Go PI
set_option maxRecDepth 20000

variable {S:Type} {k:Nat}
def dK (l:LT) (x:Except Int Tm):Except Int Tm:=if dX l=0 then ic x else .error (dX l)
theorem soM {l:LT} {p:Tm×Int} {x:Except Int Tm} (h0:dX l=0->mK p=x) (hc:dX l≠0->p.2=dX l):ic (mK p)=dK l x:=by
 unfold dK
 by_cases h:dX l=0
 ·grind
 ·rw [if_neg h]
  unfold mK
  rw [hc h,if_neg h];rfl
theorem XX {c:Int} {t a f y:Tm} (h:(ov c t a f y).2=0):c=0:=by
 grind [Jt]
theorem agr {p:Tm×Int} (h:p.2=0):mK p= .ok p.1:=if_pos h
theorem ael (hk:F3 k) {t a f y:Tm} (ht:In k t) (ha:In k a) (hf:In k f) (hy:In k y) (J:Tm×Int->OS S):yM k t a f y J=J (tE (dK [t,a,f,y] (gJ t a f y))):=by
 have hin: ∀x∈[t,a,f,y],In k x:=fun x hx=>by
  grind
 have hfm:dX [t,a,f,y]=0-> ∀x∈[t,a,f,y],Fm x:=fun h=>pc (fun x hx=>(hin x hx).1) h
 simp only [yM,ao hk.fu,aM,BM hk hin (by simp),oY t ht.1 _ ht.2.1,aeM hk (fun h=>hfm h a (by simp)) (fun h=>hfm h f (by simp)) (fun h=>hfm h y (by simp))]
 refine (GD hk (t:=(ov (dX [t,a,f,y]) t a f y).1) (fun h=> ?_) J).trans ?_
 ·have h0:=XX h
  have:=agr h
  rw [h0,Ju] at this
  rw [h0]
  exact (Jv (by omega) (by omega) (hfm h0 t (by simp)).f2 (hfm h0 a (by simp)).f2 (hfm h0 f (by simp)).f2 (hfm h0 y (by simp)).f2 this).isIn hk (by omega) (by omega)
 grind [soM,Ju,Jt]
structure Gd (x:Except Int Tm):Prop where
 en: ∀e,x= .error e->0<e/\e<=1000
 kd: ∀t,x= .ok t->0<=t.kind
section
variable {hd:Tm->(Tm->OS S)->OS S} {t:Tm}
end
def cE (sys:LB):Tm:= .mk 15 0 aw [] [.mk 3 0 aw [] [] [],.mk 3 0 aw [] [] []] sys
theorem Po (hk:Fu k) (sys:LB) (J:Int×Int×BA×LT×LB->OS S):rz k sys J=J (15,0,aw,[.mk 3 0 aw [] [] [],.mk 3 0 aw [] [] []],sys):=by
 simp_all [rz,eJ,ao]
def aF (b:Br Tm):Tm:=b.kids.headD noT
structure SyF (sys:LB):Prop where
 kid: ∀b∈sys,b.kids=[aF b]/\Fm (aF b)/\av b.face/\b.face.length<1073741824
 len:sys.length<=20000
 siz:aJ sys<=20000
theorem pm {sys:LB} (h:Fm (cE sys)):SyF sys:=by
 obtain ⟨h1,h2,h3⟩:=jm h.2
 have hz:aG (cE sys)=3+aJ sys:=by rfl
 have hd:bB sys+1<=ap (cE sys):=by grind [cE,ap]
 unfold cE at h3
 rw [aE] at h3
 simp only [af] at h3
 obtain ⟨_,ho,_,hS⟩:=h3
 have ho:(sys.all (aR 15 24)&&decide (([]:LC).length=0))=true:=by
  grind [dS]
 simp only [af] at ho
 have hb:=dU.1 ho.1
 rw [lk,dU] at hS
 have hk: ∀b∈sys,b.kids=[aF b]/\Fm (aF b)/\av b.face/\b.face.length<1073741824:=by
  intro b hb'
  have h1':=hb b hb'
  unfold aR at h1'
  simp only [af,decide_eq_true_eq] at h1'
  have hl:b.kids.length=1:=by grind [fJ]
  have hok:=h.1.br (by exact hb':b∈sys)
  match hb2:b.kids,hl with
  |[x],_=>
   have hx:aF b=x:=by grind [aF]
   have hmem:x∈b.kids:=by grind
   rw [hx]
   refine ⟨rfl,⟨hok.2 x hmem,pX ?_ ?_ ?_⟩,hok.1.1,hok.1.2.1⟩
   ·have:=DV hmem;have:=IR hb';omega
   ·have:=qT hmem;have:=BS hb';omega
   ·have:=dU.1 (hS b hb') x hmem
    rw [<-this]
    exact ra x (by omega) (by decide)
 have hlen: ∀l:LB,(∀b∈l,b.kids=[aF b])->l.length<=aJ l:=by
  intro l
  induction l<;>grind [aJ,qS,aD,pb]
 exact ⟨hk,by grind,by omega⟩
def j8 (line:Tm):LB->Except Int (LB)
 |[]=> .ok []
 |b::r=>bE (g_ [⟨1,0⟩,⟨2,0⟩] line) fun u=>bE (j8 line r) fun l=> .ok (.mk b.face [.mk 14 0 aw [⟨1,0⟩] [u,aF b] []]::l)
def jh (line a:Tm) (sys:LB):Except Int Tm:=bE (eS 0 [⟨0,0⟩] line) fun l1=>bE (j8 line sys) fun l=> .ok (.mk 15 0 aw [] [l1,aH 14 [line,a]] l)
theorem BH:RF [⟨1,0⟩,⟨2,0⟩]:=by
 refine ⟨by rfl,fun c hc=> ?_⟩
 simp only [eh,List.not_mem_nil,or_false] at hc
 rcases hc with rfl|rfl
 ·exact ⟨⟨by decide,by decide⟩,by decide,by decide⟩
 ·exact ⟨⟨by decide,by decide⟩,by decide,by decide⟩
theorem lV:RF [⟨0,0⟩]:=la ⟨⟨by decide,by decide⟩,by decide,by decide⟩
theorem ab0:av [⟨1,0⟩]:=fun c hc=>by grind [ab1]
theorem HI {r:LC} {t y:Tm} (ht:Fm t) (h:eS 0 r t= .ok y):OkT y/\ap y<=200/\aG y<=20000:=by
 obtain ⟨w1,w2,w3,w4⟩:=PN h
 have h4:=w4 ht.ok ht.rows
 have:=ht.dep;have:=ht.siz
 grind
theorem Vw {line:Tm}: ∀ {r:LB} {e:Int},j8 line r= .error e->0<e/\e<=1000:=by
 intro r
 induction r with
 |nil=>intro e h;cases h
 |cons b r ih=>
  intro e h
  rcases dj h with h|⟨_,_,h⟩<;>grind [dj,rd]
theorem IF {line a:Tm} {sys:LB} {e:Int} (h:jh line a sys= .error e):0<e/\e<=1000:=by
 rcases dj h with h|⟨_,_,h⟩
 ·exact B3 h
 rcases dj h with h|⟨_,_,h⟩
 ·exact Vw h
 simp_all
theorem Vx {line:Tm} (hl:Fm line): ∀ {r l:LB},(∀b∈r,b.kids=[aF b]/\Fm (aF b)/\av b.face/\b.face.length<1073741824)->j8 line r= .ok l->bk l/\bB l<=201/\aJ l<=r.length*20001+aJ r/\l.length=r.length:=by
 intro r
 induction r with
 |nil=>
  intro l _ h
  injection h with h;grind [bk,bB]
 |cons b r ih=>
  intro l hr h
  obtain ⟨u,h1,h⟩:=am h
  obtain ⟨l',h2,h⟩:=am h
  injection h with h;subst h
  obtain ⟨b1,b2,b3,b4⟩:=hr b (by simp)
  obtain ⟨i1,i2,i3,i4⟩:=ih (fun b hb=>hr b (by simp [hb])) h2
  obtain ⟨a1,a2,a3,a4⟩:=C1 hl h1
  have:=b2.dep
  refine ⟨?_, ?_, ?_,by simp [i4]⟩
  ·rw [bk,g7,aK,aK,OkT,aK,aK,aK,bk]
   refine ⟨⟨⟨b3,b4,by simp⟩,⟨⟨by unfold aI;omega,by unfold aI;omega,by simp,ab0,by simp,by simp,by simp⟩,⟨a1,b2.ok,trivial⟩,trivial⟩,trivial⟩,i1⟩
  all_goals grind [bB,lx,bj,ap,aJ,aD,aG,qS]
theorem Dp (hk:F3 k) {line a:Tm} {sys:LB} (hl:Fm line) (ha:Fm a) (hs:SyF sys) {t:Tm} (h:jh line a sys= .ok t):In k t/\0<=t.kind:=by
 obtain ⟨l1,h1,h⟩:=am h
 obtain ⟨l,h2,h⟩:=am h
 injection h with h;subst h
 obtain ⟨a1,a2,a3⟩:=HI hl h1
 obtain ⟨i1,i2,i3,i4⟩:=Vx hl hs.kid h2
 have:=hs.len;have:=hs.siz;have:=hl.dep;have:=ha.dep;have:=hl.siz;have:=ha.siz
 have hm:sys.length*20001<=20000*20001:=Nat.mul_le_mul_right _ hs.len
 refine ⟨⟨?_,hk.fd ?_, ?_⟩,(by decide:(0:Int)<=15)⟩
 ·rw [OkT,aK,aK,aK]
  exact ⟨⟨by unfold aI;omega,by unfold aI;omega,by simp,fun c hc=>(by cases hc),by simp,by simp,by omega⟩,⟨a1,Ft (by omega) (by simp) fun x hx=>by
   simp at hx
   rcases hx with rfl|rfl
   ·exact hl.ok
   ·exact ha.ok,trivial⟩,i1⟩
 ·grind [aH,ap,bj,bB]
 ·unfold aH;rw [aG,aD,aD,aD,aG,aD,aD,aD,aJ];omega
theorem aeB (hk:F3 k) {c:Int} {t:Tm} (h:c=0->Fm t) (J:Tm×Int->OS S):yQ k t c J=J (if c=0 then tE (eS 0 [⟨0,0⟩] t) else (noT,c)):=by
 simp only [yQ,ao hk.fu,ew,eI,m8,aM]
 by_cases hc:c=0
 ·grind [ak,Gy,lV,oZ]
 ·rw [decide_eq_false hc,ef,au,if_neg hc];rfl
theorem EM (hk:F3 k) (J:Tm×Int->OS S) {line:Tm} {q:Int×Int×BA×LT} {w:Tm} {c:Int} (hc:c≠0) (hw:w.sys.length<1073741824):
  ∀ (r p acc:LB) (m:Nat),w.sys=p++r->0<m->nw k J line q w m c acc (p.length:Int)=J (noT,c):=by
 intro r p acc m h hm
 obtain ⟨m,rfl⟩: ∃j,m=j+1:=⟨m-1,by omega⟩
 cases r with
 |nil=>grind [nw,ri,ak,aM,ao,lZ]
 |cons x r=>
  obtain ⟨e1,e2,e3,e4⟩:=bL h (by omega)
  grind [nw,ri,au,ew,aM,ao,lZ]
theorem aac (hk:F3 k) (J:Tm×Int->OS S) {line:Tm} (hl:Fm line) {q:Int×Int×BA×LT} {w:Tm} (hw:w.sys.length<1073741824) (hs: ∀b∈w.sys,b.kids=[aF b]):
  ∀ (r p acc:LB) (m:Nat),w.sys=p++r->r.length<m->acc.length+r.length<1073741824->
   nw k J line q w m 0 acc (p.length:Int)=eE (j8 line r) (fun l=>fV k (.mk q.1 q.2.1 q.2.2.1 [] q.2.2.2 (acc++l)) 0 fun z=>J (z.1,z.2.1)) fun e=>J (noT,e):=by
 intro r
 induction r with
 |nil=>
  intro p acc m h hm ha
  obtain ⟨m,rfl,hm'⟩:=ax hm
  simp only [nw,ri,eL h,ak,ao hk.fu,aM,j8,dB,eN]
 |cons x r ih=>
  intro p acc m h hm ha
  obtain ⟨m,rfl,hm'⟩:=ax hm
  obtain ⟨e1,e2,e3,e4⟩:=bL h (by omega)
  have hx:=hs x (by grind)
  have hg:ar x.kids 0=some (aF x):=by rw [hx];rfl
  have hat: ∀g:Tm×Int->OS S,ls k line [⟨1,0⟩,⟨2,0⟩] 0 g=g (tE (g_ [⟨1,0⟩,⟨2,0⟩] line)):=fun g=>GA hk hl BH g
  simp only [nw,ri,e1,au,e2,bD,ao hk.fu,ew,eI,show decide ((0:Int)=0)=true from rfl,dL,ak,aM,hat,hg,eJ]
  rw [dm (by grind),j8,dk]
  cases hx2:g_ [⟨1,0⟩,⟨2,0⟩] line with
  |error e=>
   have he:=rd hx2
   rw [e3]
   exact EM hk J (show e≠0 by omega) hw r (p++[x]) _ m e4 (by grind)
  |ok u=>
   rw [dB,dk,e3]
   refine (ih (p++[x]) (acc++[.mk x.face [.mk 14 0 aw [⟨1,0⟩] [u,aF x] []]]) m e4 hm' (by grind)).trans ?_
   grind [dB]
theorem aei (hk:F3 k) {line a:Tm} {sys:LB} (hl:In k line) (ha:In k a) (hs:In k (cE sys)) (J:Tm×Int->OS S):yL k line a sys J=J (tE (dK [line,a,cE sys] (jh line a sys))):=by
 have hin: ∀x∈[line,a,cE sys],In k x:=fun x hx=>by
  grind
 have hfm:dX [line,a,cE sys]=0-> ∀x∈[line,a,cE sys],Fm x:=fun h=>pc (fun x hx=>(hin x hx).1) h
 have hsl:sys.length<1073741824:=hs.1.node.2.2.2.2.2.2
 simp only [yL,GT,ao hk.fu,aM,Po hk.fu]
 have hb: ∀g:Int->OS S,m6 k [line,a,.mk 15 0 aw [] [.mk 3 0 aw [] [] [],.mk 3 0 aw [] [] []] sys] g=g (dX [line,a,cE sys]):=fun g=>BM hk hin (by simp) g
 have hc: ∀g:Tm->OS S,fF k (.mk 15 0 aw [] [.mk 3 0 aw [] [] [],.mk 3 0 aw [] [] []] sys) g=g (cE sys):=fun g=>oY (cE sys) hs.1 g hs.2.1
 simp only [hb,hc,oY line hl.1 _ hl.2.1,oY a ha.1 _ ha.2.1,aeB hk (fun h=>hfm h line (by simp)),eJ]
 unfold dK
 by_cases h0:dX [line,a,cE sys]=0
 ·have fl:=hfm h0 line (by simp)
  have fa:=hfm h0 a (by simp)
  have sy:=pm (hfm h0 (cE sys) (by simp))
  simp only [h0,if_true]
  have hret:J (tE (ic (jh line a sys)))=eE (jh line a sys) (fun t=>fV k t 0 fun z=>J (z.1,z.2.1)) fun e=>J (noT,e):=by
   unfold ic
   rw [kA _ J,dk]
   refine gI (fun t ht=> ?_) fun _ _=>rfl
   rw [<-kA _ J]
   exact ((GD hk (t:=t) (c:=0) (fun _=>(Dp hk fl fa sy ht).1) J).trans rfl).symm
  rw [hret]
  unfold jh
  rw [dk]
  cases h1:eS 0 [⟨0,0⟩] line with
  |error e=>
   have he:=B3 h1
   exact EM hk J (w:=cE sys) (show e≠0 by omega) hsl sys [] [] k rfl (by omega)
  |ok l1=>
   rw [dB,dk]
   refine (aac hk J fl (w:=cE sys) hsl (fun b hb=>(sy.kid b hb).1) sys [] [] k rfl (by omega) (by grind)).trans ?_
   rfl
 ·simp only [if_neg h0]
  exact EM hk J (w:=cE sys) h0 hsl sys [] [] k rfl (by omega)
def mq:LB->Except Int (LB)
 |[]=> .ok []
 |b::r=>bE (fj (du b.face 0 1)) fun f=>bE (g_ [⟨3,0⟩] (aF b)) fun u=>bE (mq r) fun l=> .ok (.mk f [u]::l)
def it (t a:Tm) (sys:LB):Except Int Tm:=bE (cG 0 1 t) fun t'=>bE (cG 0 1 a) fun a'=>bE (mq sys) fun l=>bE (cG 0 2 a) fun a2=> .ok (.mk 15 0 aw [] [t',a'] (l++[.mk [⟨0,1⟩] [a2]]))
theorem X2: ∀ {r:LB} {e:Int},mq r= .error e->0<e/\e<=1000:=by
 intro r
 induction r with
 |nil=>intro e h;cases h
 |cons b r ih=>
  intro e h
  rcases dj h with h|⟨_,_,h⟩<;>grind [dj,HL,vQ,rd]
theorem Eg {t a:Tm} {sys:LB} {e:Int} (h:it t a sys= .error e):0<e/\e<=1000:=by
 rcases dj h with h|⟨_,_,h⟩
 ·exact g6 h
 rcases dj h with h|⟨_,_,h⟩
 ·exact g6 h
 rcases dj h with h|⟨_,_,h⟩
 ·exact X2 h
 rcases dj h with h|⟨_,_,h⟩
 ·exact g6 h
 simp_all
theorem X3: ∀ {r l:LB},(∀b∈r,b.kids=[aF b]/\Fm (aF b)/\av b.face/\b.face.length<1073741824)->mq r= .ok l->bk l/\bB l<=201/\aJ l<=r.length*20001/\l.length=r.length:=by
 intro r
 induction r with
 |nil=>
  intro l _ h
  injection h with h;grind [bk,bB,aJ]
 |cons b r ih=>
  intro l hr h
  obtain ⟨f,h0,h⟩:=am h
  obtain ⟨u,h1,h⟩:=am h
  obtain ⟨l',h2,h⟩:=am h
  injection h with h;subst h
  obtain ⟨b1,b2,b3,b4⟩:=hr b (by simp)
  obtain ⟨i1,i2,i3,i4⟩:=ih (fun b hb=>hr b (by simp [hb])) h2
  obtain ⟨a1,a2,a3,a4⟩:=C1 b2 h1
  obtain ⟨g1,rfl⟩:=ju h0
  have hf:=km g1
  have:=hf.len
  refine ⟨?_, ?_, ?_,by simp [i4]⟩
  ·rw [bk,g7,aK,aK]
   exact ⟨⟨⟨hf.2,by omega,by simp⟩,a1,trivial⟩,i1⟩
  all_goals grind [bB,lx,bj,aJ,js,aD]
theorem abY {l l':LB} (h:bk l) (h':bk l'):bk (l++l'):=by
 grind [L8]
theorem VG (l l':LB):bB (l++l')=max (bB l) (bB l'):=by
 induction l<;>grind [bB]
theorem afI (l l':LB):aJ (l++l')=aJ l+aJ l':=by
 induction l<;>grind [aJ]
theorem abZ:av [⟨0,1⟩]:=fun c hc=>by grind [L9]
theorem Eh (hk:F3 k) {t a:Tm} {sys:LB} (ht:Fm t) (ha:Fm a) (hs:SyF sys) {x:Tm} (h:it t a sys= .ok x):In k x/\0<=x.kind:=by
 obtain ⟨t',h1,h⟩:=am h
 obtain ⟨a',h2,h⟩:=am h
 obtain ⟨l,h3,h⟩:=am h
 obtain ⟨a2,h4,h⟩:=am h
 injection h with h;subst h
 have f1:=lh (by omega) ht h1
 have f2:=lh (by omega) ha h2
 have f4:=lh (by omega) ha h4
 obtain ⟨i1,i2,i3,i4⟩:=X3 hs.kid h3
 have:=hs.len;have:=f1.dep;have:=f2.dep;have:=f4.dep;have:=f1.siz;have:=f2.siz;have:=f4.siz
 have hm:sys.length*20001<=20000*20001:=Nat.mul_le_mul_right _ hs.len
 refine ⟨⟨?_,hk.fd ?_, ?_⟩,(by decide:(0:Int)<=15)⟩
 ·rw [OkT,aK,aK,aK]
  refine ⟨⟨by unfold aI;omega,by unfold aI;omega,by simp,fun c hc=>(by cases hc),by simp,by simp,by grind⟩,⟨f1.ok,f2.ok,trivial⟩,abY i1 ?_⟩
  rw [bk,bk,g7,aK,aK]
  exact ⟨⟨⟨abZ,by simp,by simp⟩,f4.ok,trivial⟩,trivial⟩
 all_goals grind [ap,bj,VG,bB,lx,aG,aD,afI,aJ,js]
theorem vK (hk:F3 k) (J:Tm×Int->OS S) {a:Tm} {q:Int×Int×BA×LT} {sys:LB} {c:Int} (hc:c≠0) (hsl:sys.length<1073741824):
  ∀ (r p acc:LB) (m:Nat),sys=p++r->0<m->acc.length<1073741824->kS k J a q sys m c acc (p.length:Int)=J (noT,c):=by
 intro r p acc m h hm ha
 obtain ⟨m,rfl⟩: ∃j,m=j+1:=⟨m-1,by omega⟩
 have hr: ∀ (b:Br Tm) (f:Unit->OS S),ag (bH 1099511627776 acc.length [b].length) f=f ():=fun b f=>dm (by grind) f
 cases r with
 |nil=>grind [kS,rk,ak,aM,ao,qP,lZ]
 |cons x r=>
  obtain ⟨e1,e2,e3,e4⟩:=bL h (by omega)
  grind [kS,rk,au,ew,aM,ao,qP,lZ]
theorem aau (hk:F3 k) (J:Tm×Int->OS S) {a:Tm} (ha:Fm a) {q:Int×Int×BA×LT} {sys:LB} (hsl:sys.length<1073741824) (hs: ∀b∈sys,b.kids=[aF b]/\Fm (aF b)/\av b.face/\b.face.length<1073741824):
  ∀ (r p acc:LB) (m:Nat),sys=p++r->r.length<m->acc.length+r.length<1073741823->
   kS k J a q sys m 0 acc (p.length:Int)=eE (bE (mq r) fun l=>bE (cG 0 2 a) fun a2=> .ok (l++[.mk [⟨0,1⟩] [a2]])) (fun l=>fV k (.mk q.1 q.2.1 q.2.2.1 [] q.2.2.2 (acc++l)) 0 fun z=>J (z.1,z.2.1)) fun e=>J (noT,e):=by
 intro r
 induction r with
 |nil=>
  intro p acc m h hm hacc
  obtain ⟨m,rfl,hm'⟩:=ax hm
  have hr: ∀ (b:Br Tm) (f:Unit->OS S),ag (bH 1099511627776 acc.length [b].length) f=f ():=fun b f=>dm (by grind) f
  have hup: ∀g:Tm×Int->OS S,gV k a 0 2 0 g=g (tE (cG 0 2 a)):=fun g=>GJ hk ha (by omega) (by omega) g
  simp only [kS,rk,eL h,ak,ao hk.fu,aM,hup,hr,mq,bO]
  cases hu:cG 0 2 a with
  |error e=>
   have he:=g6 hu
   show fV k _ e _=J (noT,e)
   grind [lZ]
  |ok a2=>rfl
 |cons x r ih=>
  intro p acc m h hm hacc
  obtain ⟨m,rfl,hm'⟩:=ax hm
  obtain ⟨e1,e2,e3,e4⟩:=bL h (by omega)
  obtain ⟨x1,x2,x3,x4⟩:=hs x (by grind)
  have hg:ar x.kids 0=some (aF x):=by rw [x1];rfl
  have hr: ∀ (b:Br Tm) (f:Unit->OS S),ag (bH 1099511627776 acc.length [b].length) f=f ():=fun b f=>dm (by grind) f
  have hrow: ∀g:LC×Int->OS S,mg k x.face 0 g=g (du x.face 0 1):=fun g=>Pm hk x3 x4 g
  simp only [kS,rk,e1,au,e2,bD,ao hk.fu,ew,eI,show decide ((0:Int)=0)=true from rfl,dL,ak,aM,hrow,hg,hr]
  rw [mq,dk,dk]
  by_cases h1:(du x.face 0 1).2=0
  ·rw [qW h1,dB,h1,GA hk x2 BI,dk]
   cases h2:g_ [⟨3,0⟩] (aF x) with
   |error e=>
    have he:=rd h2
    rw [e3]
    exact vK hk J (show e≠0 by omega) hsl r (p++[x]) _ m e4 (by grind) (by grind)
   |ok u=>
    rw [dB,e3]
    refine (ih (p++[x]) (acc++[.mk (du x.face 0 1).1 [u]]) m e4 hm' (by grind)).trans ?_
    rw [dk,dk]
    refine gI (fun l _=> ?_) fun _ _=>rfl
    grind [dk,dB]
  ·rw [tZ h1,BL h1 hk,e3]
   exact vK hk J h1 hsl r (p++[x]) _ m e4 (by grind) (by grind)
theorem aem (hk:F3 k) {t a:Tm} {sys:LB} (ht:In k t) (ha:In k a) (hs:In k (cE sys)) (J:Tm×Int->OS S):yN k t a sys J=J (tE (dK [t,a,cE sys] (it t a sys))):=by
 have hin: ∀x∈[t,a,cE sys],In k x:=fun x hx=>by
  grind
 have hfm:dX [t,a,cE sys]=0-> ∀x∈[t,a,cE sys],Fm x:=fun h=>pc (fun x hx=>(hin x hx).1) h
 have hsl:sys.length<1073741824:=hs.1.node.2.2.2.2.2.2
 have hb: ∀g:Int->OS S,m6 k [t,a,.mk 15 0 aw [] [.mk 3 0 aw [] [] [],.mk 3 0 aw [] [] []] sys] g=g (dX [t,a,cE sys]):=fun g=>BM hk hin (by simp) g
 simp only [yN,GU,ao hk.fu,aM,Po hk.fu,hb,eJ,wT hk (fun h=>hfm h t (by simp)) (show (0:Int)<=0/\(0:Int)<=1000000 by omega) (show (0:Int)<=1/\(1:Int)<9223372036854775808 by omega),
  wT hk (fun h=>hfm (B7 h) a (by simp)) (show (0:Int)<=0/\(0:Int)<=1000000 by omega) (show (0:Int)<=1/\(1:Int)<9223372036854775808 by omega)]
 unfold dK
 have hfuel:sys.length<k:=by omega
 by_cases h0:dX [t,a,cE sys]=0
 ·have fl:=hfm h0 t (by simp)
  have fa:=hfm h0 a (by simp)
  have sy:=pm (hfm h0 (cE sys) (by simp))
  have hlen:=sy.len
  rw [h0,if_pos rfl,w8]
  have hret:J (tE (ic (it t a sys)))=eE (it t a sys) (fun t=>fV k t 0 fun z=>J (z.1,z.2.1)) fun e=>J (noT,e):=by
   unfold ic
   rw [kA _ J,dk]
   refine gI (fun t ht=> ?_) fun _ _=>rfl
   rw [<-kA _ J]
   exact ((GD hk (t:=t) (c:=0) (fun _=>(Eh hk fl fa sy ht).1) J).trans rfl).symm
  rw [hret]
  unfold it
  rw [dk]
  cases h1:cG 0 1 t with
  |error e=>
   have he:=g6 h1
   show kS k J a _ sys k (eD e 0 1 a).2 [] 0=J (noT,e)
   rw [nR (show e≠0 by omega)]
   exact vK hk J (show e≠0 by omega) hsl sys [] [] k rfl (by omega) (by simp)
  |ok t'=>
   rw [dB,dk]
   show kS k J a (15,0,aw,[t',(eD 0 0 1 a).1]) sys k (eD 0 0 1 a).2 [] 0=_
   rw [w8]
   cases h2:cG 0 1 a with
   |error e=>
    have he:=g6 h2
    exact vK hk J (show e≠0 by omega) hsl sys [] [] k rfl (by omega) (by simp)
   |ok a'=>
    rw [dB]
    refine (aau hk J fa hsl sy.kid sys [] [] k rfl hfuel (by grind)).trans ?_
    rw [dk,dk]
    refine gI (fun l _=> ?_) fun _ _=>rfl
    rw [dk,dk]
    rfl
 ·rw [if_neg h0,nR h0]
  show kS k J a _ sys k (eD (dX [t,a,cE sys]) 0 1 a).2 [] 0=_
  rw [nR h0]
  exact vK hk J h0 hsl sys [] [] k rfl (by omega) (by simp)
def mM (c:Int) (x:Except Int Tm):Tm×Int:=if c=0 then tE x else (noT,c)
theorem qy (x:Except Int Tm):mM 0 x=tE x:=rfl
theorem ti {c:Int} (h:c≠0) (x:Except Int Tm):mM c x=(noT,c):=if_neg h
theorem nP (t:Tm) (e c:Int) (J:Tm×Int->OS S):kN k t e c J=J (if c=0 then (if e=0 then (t,0) else (noT,e)) else (noT,c)):=by
 simp only [kN,aM]
 by_cases hc:c=0
 ·subst hc
  rw [show ((0:Int)==0)=true from rfl,au,if_pos rfl]
  by_cases he:e=0
  ·subst he;rfl
  ·rw [mb he,ef,au,if_neg he];rfl
 ·rw [mb hc,ak,if_neg hc,ef,au];rfl
theorem ZV (x:Except Int Tm) (hx: ∀e,x= .error e->e≠0) (c:Int):(if c=0 then (if (tE x).2=0 then ((tE x).1,(0:Int)) else (noT,(tE x).2)) else (noT,c))=mM c x:=by
 unfold mM
 split
 ·cases x with
  |ok t=>rfl
  |error e=>rw [if_neg (show (tE (.error e)).2≠0 from hx e rfl)];rfl
 ·rfl
theorem tn {f:(Tm×Int->OS S)->OS S} {x:Except Int Tm} (c:Int) (hf:c=0-> ∀g,f g=g (tE x)) (hx: ∀e,x= .error e->e≠0) (J:Tm×Int->OS S):
  (ac (!(c==0)) (J (noT,c)) (f fun r=>J (if c=0 then (if r.2=0 then (r.1,0) else (noT,r.2)) else (noT,c))))=J (mM c x):=by
 by_cases hc:c=0
 ·subst hc
  rw [show (!((0:Int)==0))=false from rfl,ak,hf rfl,<-ZV x hx 0]
 ·rw [mb hc,ef,au,ti hc]
theorem LU {x:Except Int Tm} (h: ∀e,x= .error e->0<e/\e<=1000): ∀e,x= .error e->e≠0:=fun e he=>by have:=h e he;omega
theorem mN {a b:Int} {t:Tm}: ∀e,cJ a b t= .error e->0<e/\e<=1000:=fun e h=>JA (fun e h=>g6 h) h
theorem w6 {i:Int} {r:LC} {t:Tm}: ∀e,bX i r t= .error e->0<e/\e<=1000:=fun e h=>JA (fun e h=>B3 h) h
theorem Pi (hk:F3 k) {t:Tm} {r:LC} {c:Int} (ht:c=0->In k t) (hr:RF r) (J:Tm×Int->OS S):ve k t r c J=J (mM c (bX 0 r t)):=by
 simp only [ve,ao hk.fu,fE,aM,nP]
 exact tn c (fun h g=>Gz hk (ht h) (i:=0) (by decide) hr g) (LU w6) J
theorem ae0 (hk:F3 k) {t:Tm} {c:Int} (ht:c=0->In k t) (J:Tm×Int->OS S):zF k t c J=J (mM c (bX 0 [⟨0,0⟩] t)):=by
 simp only [zF,ao hk.fu,m8,aM,Pi hk ht lV]
theorem mI (hk:F3 k) {t:Tm} {a b c:Int} (ht:c=0->In k t) (ha:0<=a/\a<1000) (hb:0<=b/\b<1000) (J:Tm×Int->OS S):j_ k t a b c J=J (mM c (cJ a b t)):=by
 simp only [j_,ao hk.fu,fE,aM,nP]
 exact tn c (fun h g=>aeh hk (ht h) (vb:=a) (db:=b) (by omega) (by omega) g) (LU mN) J
def dM (c:Int) (t:Tm):Tm×Int:=if c=0 then (if dl t=0 then (t,0) else (noT,dl t)) else (noT,c)
def pf (x:Except Int Tm):Tm×Bool×Int:=match x with
 | .ok t=>if dl t=0 then (t,true,0) else (noT,false,dl t)
 | .error e=>(noT,false,e)
theorem aeY (hk:F3 k) {t:Tm} {c:Int} (ht:In k t) (J:Tm×Bool×Int×Int->OS S):mi k t c J=J ((dM c t).1,(dM c t).2==0,(dM c t).2,(dM c t).2):=by
 simp only [mi,ao hk.fu,fE,aM,nP,lY ht.1 ht.2.1 ht.dep]
 have:OkT (dM c t).1/\Fd k (ap (dM c t).1):=by
  unfold dM
  split
  ·split
   ·exact ⟨ht.1,ht.2.1⟩
   ·exact ⟨(mz hk).1,(mz hk).2.1⟩
  ·exact ⟨(mz hk).1,(mz hk).2.1⟩
 exact oY (dM c t).1 this.1 _ this.2
theorem VC {t:Tm} (g:Tm×Bool×Int->OS S):g ((dM 0 t).1,(dM 0 t).2==0,(dM 0 t).2)=g (pf (.ok t)):=by
 unfold dM pf
 simp only [if_true]
 split
 ·rfl
 ·rename_i h;rw [mb h]
theorem IL {c:Int} (h:c≠0) {t:Tm} (g:Tm×Bool×Int->OS S):g ((dM c t).1,(dM c t).2==0,(dM c t).2)=g (pf (.error c)):=by
 unfold dM pf
 rw [if_neg h,mb h]
end Go.Proofs.YtgajalidbabccaaGreatDoor
namespace Go.Proofs.YtgajalidbabccaaGreatDoor
open Go PI
set_option maxRecDepth 20000
abbrev En:=Nat->Prop
def hp (c:Cl) (j:Nat):Prop:=c.pos.toNat.testBit j=true
def hn (c:Cl) (j:Nat):Prop:=c.neg.toNat.testBit j=true
theorem YD (a b:Cl) (j:Nat):hp (iR a b) j↔hp a j\/hp b j:=by
 simp_all [hp,iR,ku]
theorem Yz (a b:Cl) (j:Nat):hn (iR a b) j↔hn a j\/hn b j:=by
 simp_all [hn,iR,ku]
theorem Gf {c:Cl} (h:RC c) {j:Nat} (hj:hp c j):j<24:=pI (by have:=h.1;omega) hj
theorem Ge {c:Cl} (h:RC c) {j:Nat} (hj:hn c j):j<24:=pI (by have:=h.2;omega) hj
theorem Qg {s:Int} {n:Nat} (hn:n<24) (j:Nat):(i_ s (n:Int)).toNat.testBit j=(s.toNat.testBit j&&decide (j<24)&& !decide (j=n)):=by
 unfold i_
 rw [if_pos (by omega),gQ,gQ,tp,Nat.testBit_and,nW,Nat.testBit_two_pow]
 grind
def kH (P:En) (n:Nat) (A:Prop):En:=fun j=>(j≠n/\P j)\/(j=n/\A)
theorem YE (n:Nat) (hn24:n<24) (j:Nat): ¬hp (nl n) j:=by
 unfold hp nl;simp
theorem YA (n:Nat) (hn24:n<24) (j:Nat):hn (nl n) j↔j=n:=by
 grind [hn,nl,Qb]
theorem YF (n:Nat) (hn24:n<24) (j:Nat):hp (pl n) j↔j=n:=by
 grind [hp,pl,Qb]
theorem YB (n:Nat) (hn24:n<24) (j:Nat): ¬hn (pl n) j:=by
 unfold hn pl;simp
def pT (n x:Nat):Nat:=if n<x then x-1 else x
theorem zR {s:Int} {n:Nat} (hn24:n<24) (h:0<=s/\s<16777216) (y:Nat):(oa s (n:Int)).toNat.testBit y=true↔ ∃x,s.toNat.testBit x=true/\x≠n/\pT n x=y:=by
 have hs:s.toNat<16777216:=by omega
 have hM:s.toNat&&&M24=s.toNat:=by
  apply Nat.eq_of_testBit_eq
  grind [nW,pI]
 unfold oa
 rw [gQ]
 unfold n_
 rw [if_pos (by omega),gQ,hM,Nat.testBit_or,C_,Nat.testBit_mul_two_pow,Nat.testBit_div_two_pow,Bool.or_eq_true,af,af,decide_eq_true_eq,decide_eq_true_eq]
 unfold pT
 grind
theorem KB {s:Int} {n b:Nat} (h:0<=s/\s<16777216) (h0:(eP s n b).2=0) (y:Nat):(eP s n b).1.toNat.testBit y=true↔ ∃x,s.toNat.testBit x=true/\il n b x=y:=by
 have hs:s.toNat<16777216:=by omega
 unfold eP at h0 ⊢
 rw [if_neg (by omega)] at h0 ⊢
 simp only [gQ] at h0 ⊢
 rw [Kz] at h0 ⊢
 split at h0<;>grind [il,Db,GM,mem_bitsN,pI]
theorem aa9 {c:Cl} {n b:Nat} (h0:(gK c n b).2=0):(eP c.pos n b).2=0/\(eP c.neg n b).2=0/\(gK c n b).1=⟨(eP c.pos n b).1,(eP c.neg n b).1⟩:=by
 grind [gK]
theorem Yd {n b:Nat}: ∀ {l h:LC},(dO (iP n b) h l).2=0->(dO (iP n b) h l).1=h++l.map (fun c=>(gK c n b).1)/\ ∀c∈l,(gK c n b).2=0:=by
 intro l
 induction l<;>grind [dO,iP]
def RX (fa:Bool) (f:LC):Prop:=RF f/\(fa=true-> ∀c∈f,eW c=false)
def wv (fa:Bool) (f:LC) (i:Int) (r:LC):LC×Int:=if fa then kY f i r else kZ f i r
theorem acS {fa:Bool} {f r:LC} {i:Int} (hf:av f) (hr:av r) (h:(wv fa f i r).2=0):RX fa (wv fa f i r).1:=by
 unfold wv at h ⊢
 cases fa
 ·exact ⟨Ms hr h,fun h=>by cases h⟩
 ·have:=Mr hf hr h
  exact ⟨this.1,fun _=>this.2⟩
def te (f:LC) (n:Nat):Prop:= ∀c∈f,¬hp c n/\ ¬hn c n
def same (n:Nat) (P P':En):Prop:= ∀j,j≠n->(P j↔P' j)
theorem same.symm {n:Nat} {P P':En} (h:same n P P'):same n P' P:=fun j hj=>(h j hj).symm
def YS (P:En) (n:Nat):En:=fun x=>x≠n/\P (pT n x)
theorem agL {f:LC} {n:Nat}:pi f n=true↔ ¬te f n:=by
 grind [pi,te,hp,hn]
theorem has_dims {f:LC} {n:Nat}:ie (ml f) (n:Int)=true↔n<24/\ ¬te f n:=by
 grind [ie,ml,gQ,zQ,agL]
theorem IJ {f:LC} (hf:RF f) {i:Int} (hi:24<=i):co i f=f:=by
 have: ∀c∈f,lr i c=c:=fun c hc=>by
  obtain ⟨p,q⟩:=c
  obtain ⟨h1,h2⟩:=hf.rc hc
  grind [lr,oa,n_,UF]
 unfold co
 rw [show f.map (lr i)=f from (List.map_congr_left this).trans (List.map_id f),hf.1]
theorem afG (j:Nat):hp ⟨6,0⟩ j↔j=1\/j=2:=by
 show (6:Nat).testBit j=true↔_
 grind [Nat]
theorem QF (p:Int) (j:Nat): ¬hn ⟨p,0⟩ j:=by
 grind [hn]
abbrev Uo:=Bool->Int->LC->LC->Prop
abbrev Un:=Int->LC->LC->Prop
mutual
def pF (pl:Bool):Tm->Prop
 | .mk kd n nm r ks sys=>RX (decide (kd=14)) r/\pD pl ks/\uk pl sys
def pD (pl:Bool):LT->Prop
 |[]=>True
 |t::l=>pF pl t/\pD pl l
def uk (pl:Bool):LB->Prop
 |[]=>True
 |b::l=>Ib pl b/\uk pl l
def Ib (pl:Bool):Br Tm->Prop
 | .mk f ks=>(RX true f/\(pl=true->f≠[]))/\pD pl ks
end
section
variable {pl:Bool} {c vb db kd:Int} {fo fa:fZ} {Ro Ro':Uo} {Rb Rb':Un}
end
theorem AP {d:Int} (h:0<=d): ∃n:Nat,d=n:=⟨d.toNat,by omega⟩
theorem Ya {r:LC} {fa:Bool} {d:Int} {f:LC} (h:gX 0 r fa d []= .ok f):f=[]:=by
 grind [JC]
variable {S:Type} {k:Nat}
def Fp (sys:LB):Bool:=sys.any fun b=>(b.face.length:Int)==0
mutual
def qH:Tm->Bool
 | .mk _ _ _ _ ks sys=> !Fp sys&&(qI ks&&AV sys)
def qI:LT->Bool
 |[]=>true
 |t::l=>qH t&&qI l
def AV:LB->Bool
 |[]=>true
 |b::l=>Mi b&&AV l
def Mi:Br Tm->Bool
 | .mk _ ks=>qI ks
end
theorem OX {f:LC} (hf:av f) (h:cm f=true):RX true f:=by
 have:=(kB hf).1 h
 exact ⟨this.1,fun _=>this.2⟩
theorem Fz {vars dims kd n nm r ks sys} (hok:OkT (.mk kd n nm r ks sys)) (h:dS vars dims (.mk kd n nm r ks sys)=true):RX (decide (kd=14)) r/\ ∀b∈sys,RX true b.face:=by
 obtain ⟨o1,o2,o3,o4,o5,o6,o7⟩:=hok.node
 unfold dS at h
 simp only [af,decide_eq_true_eq] at h
 obtain ⟨⟨a1,a2,a3,a4⟩,a5⟩:=h
 have r0:r.length=0->RX (decide (kd=14)) r:=fun h=>by
  have:=List.length_eq_zero_iff.1 h;subst this;exact ⟨jq,fun _ c hc=>by cases hc⟩
 have nosys:fJ kd=0-> ∀b∈sys,RX true b.face:=fun h=>by
  grind
 split at a5
 ·rename_i c
  simp only [af,decide_eq_true_eq] at a5
  exact ⟨r0 a5.1,nosys (by subst c;decide)⟩
 split at a5
 ·rename_i c
  simp only [af,decide_eq_true_eq] at a5
  exact ⟨r0 a5.1,nosys (by subst c;decide)⟩
 split at a5
 ·rename_i c
  rw [af] at a5
  exact ⟨⟨(lX o4).1 a5.1,fun h=>by grind⟩,nosys (by rcases c with rfl|rfl|rfl<;>decide)⟩
 split at a5
 ·rename_i c
  rw [af] at a5
  subst c
  exact ⟨OX o4 a5.1,nosys (by decide)⟩
 ·simp only [af,decide_eq_true_eq] at a5
  refine ⟨r0 a5.2,fun b hb=> ?_⟩
  have:=dU.1 a5.1 b hb
  unfold aR at this
  simp only [af] at this
  exact OX (hok.br hb).1.1 this.2.1
theorem Ux {bd pl:Bool} (t:Tm): ∀ {vars dims:Int},OkT t->aE bd vars dims t=true->(pl=true->qH t=true)->pF pl t:=by
 induction t using ik with
 |h kd n nm r ks sys ih1 ih2=>
  intro vars dims hok h hp
  rw [aE,af,af,af] at h
  obtain ⟨_,a,b,c⟩:=h
  obtain ⟨hr,hb⟩:=Fz hok a
  have hok':=hok
  rw [OkT] at hok'
  obtain ⟨_,ok,os⟩:=hok'
  rw [qH] at hp
  simp only [af,jd] at hp
  have hk: ∀ {l:LT} {i:Nat},(∀x∈l,∀ {vars dims:Int},OkT x->aE bd vars dims x=true->(pl=true->qH x=true)->pF pl x)->aK l->bK bd vars dims kd i l=true->(pl=true->qI l=true)->pD pl l:=by
   intro l
   induction l<;>grind [bK,pD,qI,aK]
  have hm: ∀ {l:LT},(∀x∈l,∀ {vars dims:Int},OkT x->aE bd vars dims x=true->(pl=true->qH x=true)->pF pl x)->aK l->dn bd vars dims kd l=true->(pl=true->qI l=true)->pD pl l:=by
   intro l
   induction l<;>grind [dn,pD,qI,aK]
  have hs: ∀ {l:LB},(∀b∈l,∀x∈b.kids,∀ {vars dims:Int},OkT x->aE bd vars dims x=true->(pl=true->qH x=true)->pF pl x)->bk l->(∀b∈l,RX true b.face)->aL bd vars dims kd l=true->(pl=true->Fp l=false/\AV l=true)->uk pl l:=by
   intro l
   induction l with
   |nil=>grind [uk]
   |cons b l ih=>
    intro h1 h2 h3 h4 h5
    obtain ⟨f,ks'⟩:=b
    rw [bk] at h2
    rw [g7] at h2
    rw [aL,g8,af] at h4
    rw [Fp,List.any_cons,Bool.or_eq_false_iff,AV,Mi,af] at h5
    rw [uk,Ib]
    refine ⟨⟨⟨h3 ⟨f,ks'⟩ (by simp),fun e he=> ?_⟩,hm (h1 ⟨f,ks'⟩ (by simp)) h2.1.2 h4.1 fun e=>(h5 e).2.1⟩,ih (fun b hb=>h1 b (by simp [hb])) h2.2 (fun b hb=>h3 b (by simp [hb])) h4.2 fun e=>⟨(h5 e).1.2,(h5 e).2.2⟩⟩
    grind
  grind [pF]
theorem Fm.pl {t:Tm} {pl:Bool} (h:Fm t) (hp:pl=true->qH t=true):pF pl t:=by
 have:=h.2
 unfold dl at this
 split at this
 ·simp_all
 split at this
 ·simp_all
 split at this
 ·rename_i h3;exact Ux t h.1 h3 hp
 omega
theorem Uv {kd d:Int}: ∀ {l:LT} {i:Nat} {x:Tm},24<=d->bK false (-1) d kd i l=true->x∈l->aE false (-1) 24 x=true:=by
 intro l
 induction l with
 |nil=>intro i x _ _ h;cases h
 |cons t l ih=>
  intro i x hd h hx
  rw [bK,af] at h
  rcases eh.1 hx with rfl|hx
  ·have:=h.1
   rw [HT,ra x (by have:=jA kd i;omega) (f_ 24)] at this;exact this
  ·exact ih hd h.2 hx
theorem Fm.kid {t x:Tm} (h:Fm t) (hx:x∈t.kids):Fm x:=by
 obtain ⟨h1,h2,h3⟩:=jm h.2
 have hd:=iL hx
 have hs:aG x<=aG t:=by have:=tU t;have:=qT hx;omega
 refine ⟨h.1.ki hx,pX (by omega) (by omega) ?_⟩
 obtain ⟨kd,n,nm,r,ks,sys⟩:=t
 rw [aE] at h3
 simp only [Bool.false_and,ef,Bool.true_and,af] at h3
 exact Uv (f_ 24) h3.2.1 hx
theorem Fm.brk {t x:Tm} {b:Br Tm} (h:Fm t) (hb:b∈t.sys) (hx:x∈b.kids):Fm x:=by
 obtain ⟨h1,h2,h3⟩:=jm h.2
 have hd:=ji hb hx
 have hs:aG x<=aG t:=by have:=tU t;have:=BS hb;have:=qT hx;omega
 refine ⟨(h.1.bi hb).2 x hx,pX (by omega) (by omega) ?_⟩
 obtain ⟨kd,n,nm,r,ks,sys⟩:=t
 rw [aE] at h3
 simp only [Bool.false_and,ef,Bool.true_and,af] at h3
 have:=h3.2.2
 rw [lk,dU] at this
 have:=dU.1 (this b hb) x hx
 rw [ra x (by have:=jM kd;omega) (f_ 24)] at this;exact this
theorem Fm.own {t:Tm} (h:Fm t):dS (-1) 24 t=true:=by
 have h3:=(jm h.2).2.2
 cases t
 rw [aE] at h3
 simp only [Bool.false_and,ef,Bool.true_and,af] at h3
 exact h3.1
theorem Fm.nk {t:Tm} (h:Fm t):jJ t.kind=t.kids.length:=by
 have:=h.own
 cases t
 unfold dS at this
 simp only [af,decide_eq_true_eq] at this
 exact this.1.1
theorem Fm.n0 {t:Tm} (h:Fm t) (hk:t.kind≠1):t.n=0:=by
 have:=h.own
 cases t
 unfold dS at this
 simp only [af,decide_eq_true_eq] at this
 exact this.1.2.1.resolve_left hk
theorem Fm.r14 {t:Tm} (h:Fm t) (hk:t.kind=14):RX true t.r:=by
 have:=Fz (kd:=t.kind) (n:=t.n) (nm:=t.name) (r:=t.r) (ks:=t.kids) (sys:=t.sys) (by cases t;exact h.1) (by have:=h.own;cases t;exact this)
 have h1:=this.1
 rw [hk] at h1;exact h1
theorem Fm.face {t:Tm} {b:Br Tm} (h:Fm t) (hb:b∈t.sys):RX true b.face:=by
 have:=Fz (kd:=t.kind) (n:=t.n) (nm:=t.name) (r:=t.r) (ks:=t.kids) (sys:=t.sys) (by cases t;exact h.1) (by have:=h.own;cases t;exact this)
 exact this.2 b hb
theorem jI {α:Type} {l:List α} {n:Nat} {i:Int} (hi:i=n) {x:α} (h:l[n]? =some x):ar l i=some x:=by subst hi;rw [JN];exact h
section
variable {hd:Tm->Int->(Int->OS S)->OS S} {t:Tm} {n:Int}
end
section
variable {hd:Tm->Int->(Int->OS S)->OS S} {t:Tm} {n:Int}
end
theorem Fm.r1 {t:Tm} (h:Fm t) (hk:t.kind=1):t.r=[]:=by
 have:=h.own
 obtain ⟨kd,n,nm,r,ks,sys⟩:=t
 have hk:kd=1:=hk
 subst hk
 unfold dS at this
 simp only [af,decide_eq_true_eq,if_true] at this
 exact List.length_eq_zero_iff.1 this.2.1
section
variable {hd:Tm->Int->Tm->Int->Int->(Pan Int Tm->OS S)->OS S} {t u:Tm} {n v d:Int}
end
section
variable {hd:Tm->(Int->OS S)->OS S} {t:Tm}
end
abbrev F4 (k:Nat):Prop:=4294970296<=k
theorem F4.f3 (h:F4 k):F3 k:=by have:4294970296<=k:=h;unfold F3;omega
abbrev jv (r:LC) (l a:Tm):Tm:= .mk 14 0 aw r [l,a] []
theorem t6 {t:Tm} (h:t.kids.length=2): ∃a b,t.kids=[a,b]:=by
 match h':t.kids,h with
 |[a,b],_=>exact ⟨a,b,rfl⟩
theorem ab2 {t:Tm} (h:t.kids.length=1): ∃a,t.kids=[a]:=by
 match h':t.kids,h with
 |[a],_=>exact ⟨a,rfl⟩
theorem Fm.sy {t:Tm} (h:Fm t) (hk:t.kind=15):(∀b∈t.sys,b.kids=[aF b]/\Fm (aF b)/\RX true b.face)/\t.sys.length<=20000:=by
 have ho:=h.own
 refine ⟨fun b hb=> ?_, ?_⟩
 ·have hl:b.kids.length=1:=by
   obtain ⟨kd,n,nm,r,ks,sys⟩:=t
   have hk:kd=15:=hk
   subst hk
   have ho:(_&&(sys.all (aR 15 24)&&_))=true:=ho
   simp only [af] at ho
   have:=dU.1 ho.2.1 b hb
   unfold aR at this
   simp only [af,decide_eq_true_eq] at this
   have h1:=this.1
   have:fJ 15=1:=rfl
   omega
  obtain ⟨f,ks⟩:=b
  match ks,hl with
  |[a],_=>exact ⟨rfl,h.brk hb (by simp [aF]),h.face hb⟩
 ·have h1:=h.siz
  have h2:=tU t
  have: ∀ {l:LB},(∀b∈l,b.kids≠[])->l.length<=aJ l:=by
   intro l
   induction l with
   |nil=>intro _;simp
   |cons b l ih=>
    intro hl
    have:=ih fun b hb=>hl b (by simp [hb])
    have hb:=hl b (by simp)
    obtain ⟨f,ks⟩:=b
    cases ks with
    |nil=>exact absurd rfl hb
    |cons a ks=>rw [aJ,js,aD,er];have:=pb a;omega
  have:=this (l:=t.sys) fun b hb=>by
   intro he
   obtain ⟨kd,n,nm,r,ks,sys⟩:=t
   have hk:kd=15:=hk
   subst hk
   have ho:(_&&(sys.all (aR 15 24)&&_))=true:=ho
   simp only [af] at ho
   have:=dU.1 ho.2.1 b hb
   unfold aR at this
   simp only [af,decide_eq_true_eq] at this
   have h1:=this.1
   rw [he] at h1
   have:fJ 15=1:=rfl
   simp at h1;omega
  omega
def tX {α:Type} (c:Int) (x:Except Int α):Except Int α:=if c=0 then x else .error c
theorem jS {α:Type} (x:Except Int α):tX 0 x=x:=rfl
theorem lc {α:Type} {c:Int} (h:c≠0) (x:Except Int α):tX c x= .error c:=if_neg h
structure Sm (n:Nat) (t:Tm):Prop where
 ok:OkT t
 siz:aG t<=n
 dep:ap t<=300
theorem Fm.sm {t:Tm} (h:Fm t):Sm 20000 t:=⟨h.ok,h.siz,by have:=h.dep;omega⟩
theorem Sm.mono {n m:Nat} {t:Tm} (h:Sm n t) (hnm:n<=m):Sm m t:=⟨h.ok,by have:=h.siz;omega,h.dep⟩
theorem abT:Sm 20000 noT:=⟨LY,by unfold noT;rw [aG,aD,aJ];omega,by unfold noT;rw [ap,bj,bB];omega⟩
theorem Sm.isIn {n:Nat} {t:Tm} (h:Sm n t) (hk:F3 k) (hn:n<1099511627776):In k t:=⟨h.ok,hk.fd (by have:=h.dep;omega),by have:=h.siz;omega⟩
structure Bs' (n:Nat) (l:LB):Prop where
 ok:bk l
 siz:aJ l<=l.length*n
 dep:bB l<=301
theorem Vf (n:Nat):Bs' n []:=⟨by rw [bk];trivial,by rw [aJ];simp,by rw [bB];omega⟩
theorem l6 {kd:Int} (hkd:0<=kd/\kd<=28) {r:LC} (hr:av r/\r.length<1073741824) {ks:LT} {sys:LB} {n m:Nat} (hks: ∀x∈ks,OkT x/\ap x<=299) (hl:ks.length<1000) (hz:aD ks<=n) (hs:bk sys) (hsl:sys.length<1073741824) (hsd:bB sys<=299) (hsz:aJ sys<=m):Sm (n+m+1) (.mk kd 0 aw r ks sys):=by
 have hd:bj ks<=299:=by
  have: ∀ {l:LT},(∀x∈l,ap x<=299)->bj l<=299:=by
   intro l
   induction l with
   |nil=>intro _;rw [bj];omega
   |cons t l ih=>intro h;rw [bj];have:=h t (by simp);have:=ih fun x hx=>h x (by simp [hx]);omega
  exact this fun x hx=>(hks x hx).2
 refine ⟨?_, ?_, ?_⟩
 ·rw [OkT]
  exact ⟨⟨by unfold aI;omega,by unfold aI;omega,by decide,hr.1,hr.2,by omega,hsl⟩,okK_iff.2 fun x hx=>(hks x hx).1,hs⟩
 ·rw [aG];omega
 ·rw [ap];omega
theorem tV {r:LC} (hr:av r/\r.length<1073741824) {n m:Nat} {l a:Tm} (hl:Sm n l) (ha:Sm m a) (h1:ap l<=299) (h2:ap a<=299):Sm (n+m+1) (jv r l a):=by
 have:=l6 (kd:=14) (by omega) hr (ks:=[l,a]) (sys:=[]) (n:=n+m) (m:=0) (fun x hx=>by
  simp at hx
  rcases hx with rfl|rfl
  ·exact ⟨hl.ok,h1⟩
  ·exact ⟨ha.ok,h2⟩) (by simp) (by rw [aD,aD,aD];have:=hl.siz;have:=ha.siz;omega) (by rw [bk];trivial) (by simp) (by rw [bB];omega) (by rw [aJ];omega)
 exact this
theorem r_ {t:Tm} {a b:Tm} (h:t.kids=[a,b]):t.kids.getD 0 noT=a/\t.kids.getD 1 noT=b:=by rw [h];exact ⟨rfl,rfl⟩
theorem g5 {fa:Bool} {f:LC} (h:RX fa f):av f/\f.length<1073741824:=⟨h.1.2,by have:=h.1.len;omega⟩
theorem sn {t:Tm} (h:Fm t) {kd:Int} (hk:t.kind=kd) {n:Nat} (hn:jJ kd=n):t.kids.length=n:=by
 have:=h.nk
 rw [hk,hn] at this;omega
theorem Ap {t a b:Tm} (h:t.kids=[a,b]):ar t.kids 0=some a/\ar t.kids 1=some b:=by rw [h];exact ⟨rfl,rfl⟩


section
variable {hd:Tm->Int->Tm->Int->Int->(Tm->OS S)->OS S} {t u:Tm} {n v d:Int}
end

theorem ae2 (hk:F3 k) {t a:Tm} {sys:LB} {c:Int} (ht:c=0->In k t/\In k a/\In k (cE sys)) (hx: ∀e,dK [t,a,cE sys] (it t a sys)= .error e->e≠0) (J:Tm×Int->OS S):zH k t a sys c J=J (mM c (dK [t,a,cE sys] (it t a sys))):=by
 simp only [zH,ao hk.fu,fE,aM,nP]
 exact tn c (fun h g=>aem hk (ht h).1 (ht h).2.1 (ht h).2.2 g) hx J
theorem aeX (hk:F3 k) {line a:Tm} {sys:LB} {c:Int} (ht:c=0->In k line/\In k a/\In k (cE sys)) (hx: ∀e,dK [line,a,cE sys] (jh line a sys)= .error e->e≠0) (J:Tm×Int->OS S):vd k line a sys c J=J (mM c (dK [line,a,cE sys] (jh line a sys))):=by
 simp only [vd,ao hk.fu,fE,aM,nP]
 exact tn c (fun h g=>aei hk (ht h).1 (ht h).2.1 (ht h).2.2 g) hx J

def P1:LT->Except Int (LT)
 |[]=> .ok []
 |y::l=>bE (cG 0 1 y) fun y'=>bE (P1 l) fun l'=> .ok (y'::l')
abbrev z8 (kd:Int) (p:Tm) (l:LT) (a:Tm):Tm:= .mk kd 0 aw [] (p::l++[a]) []
def Jo (kd:Int) (b:Tm) (mid:LT):LB->Except Int (LB)
 |[]=> .ok []
 |y::l=>bE (P1 mid) fun m=>bE (Jo kd b mid l) fun l'=> .ok (.mk y.face [z8 kd b m (aF y)]::l')
def lK (t:Tm):Tm:=t.kids.getD (t.kids.length-1) noT
def AM (t:Tm):LT:=(t.kids.take (t.kids.length-1)).drop 1


end Go.Proofs.YtgajalidbabccaaGreatDoor
namespace Go.Proofs.YtgajalidbabccaaGreatDoor
open Go PI
set_option maxRecDepth 20000
def bZ (Φ:Nat->Prop) (f:LC):Prop:= ∀c∈f,∀j,hp c j\/hn c j->Φ j
theorem kU {Φ Ψ:Nat->Prop} {f:LC} (h:bZ Φ f) (hi: ∀j,Φ j->Ψ j):bZ Ψ f:=fun c hc j hj=>hi j (h c hc j hj)
theorem iQ (Φ:Nat->Prop):bZ Φ []:=fun c hc=>by cases hc
theorem E3 {Φ:Nat->Prop} {f g:LC} (h:bZ Φ f) (hs: ∀c∈g,c∈f):bZ Φ g:=fun c hc=>h c (hs c hc)
theorem abq {Φ:Nat->Prop} {f g:LC} (h:bZ Φ f) (h':bZ Φ g):bZ Φ (f++g):=fun c hc=>(eu.1 hc).elim (h c) (h' c)
theorem qw {Φ:Nat->Prop} {f:LC} (h:bZ Φ f):bZ Φ (dE f).1:=by
 unfold dE
 split
 ·split
  ·exact iQ _
  ·exact E3 h fun c hc=>(mem_mins.1 hc).1
 ·exact iQ _
theorem KC {Φ:Nat->Prop} {f g:LC} (h:bZ Φ f) (h':bZ Φ g):bZ Φ (meets f g):=fun c hc j hj=>by
 unfold meets at hc
 obtain ⟨a,ha,hc⟩:=List.mem_flatMap.1 hc
 obtain ⟨b,hb,rfl⟩:=dA.1 hc
 rw [YD,Yz] at hj
 rcases hj with (hj|hj)|(hj|hj)
 ·exact h a ha j (.inl hj)
 ·exact h' b hb j (.inl hj)
 ·exact h a ha j (.inr hj)
 ·exact h' b hb j (.inr hj)
theorem lits_one {Φ:Nat->Prop} {c:Cl}:bZ Φ [c]↔ ∀j,hp c j\/hn c j->Φ j:=⟨fun h=>h c (by simp),fun h d hd=>by simp at hd;subst hd;exact h⟩
theorem AG {Φ:Nat->Prop} {f g:LC} (h:bZ Φ f) (h':bZ Φ g):bZ Φ (iO f g).1:=qw (abq h h')
theorem E2 {Φ:Nat->Prop} {f g:LC} (h:bZ Φ f) (h':bZ Φ g):bZ Φ (iV f g).1:=qw (KC h h')
theorem E0 {Φ:Nat->Prop} {f:LC} (h:bZ Φ f):bZ Φ (qr f).1:=qw (E3 h fun c hc=>(yE hc).1)
theorem EZ {Φ:Nat->Prop} {step:LC->Cl->LC×Int}: ∀ {l h:LC},(∀c∈l,∀h,bZ Φ h->bZ Φ (step h c).1)->bZ Φ h->bZ Φ (dO step h l).1:=by
 intro l
 induction l with
 |nil=>intro h _ hh;exact hh
 |cons c l ih=>
  intro h hs hh
  unfold dO
  split
  ·exact ih (fun d hd=>hs d (by simp [hd])) (hs c (by simp) h hh)
  ·first|exact iQ _|exact hs c (by simp) h hh
theorem abv {Φ:Nat->Prop} {c:Cl} (hc:RC c) (h: ∀j,hp c j\/hn c j->Φ j):bZ Φ (qE c).1:=by
 refine qw fun d hd j hj=> ?_
 have hl: ∀ {s:Int} {x:Int},x∈lL s-> ∃n:Nat,n<24/\s.toNat.testBit n=true/\x=n:=by
  intro s x hx
  unfold lL ints at hx
  obtain ⟨n,hn,rfl⟩:=dA.1 hx
  have:=mem_bitsN.1 hn
  exact ⟨n,this.1,this.2,rfl⟩
 unfold tr at hd
 rcases eu.1 hd with hd|hd
 ·obtain ⟨x,hx,rfl⟩:=dA.1 hd
  obtain ⟨n,h1,h2,rfl⟩:=hl hx
  rcases hj with hj|hj
  ·exact absurd hj (YE n h1 j)
  ·rw [(YA n h1 j).1 hj];exact h n (.inl h2)
 ·obtain ⟨x,hx,rfl⟩:=dA.1 hd
  obtain ⟨n,h1,h2,rfl⟩:=hl hx
  rcases hj with hj|hj
  ·rw [(YF n h1 j).1 hj];exact h n (.inr h2)
  ·exact absurd hj (YB n h1 j)
theorem abu {Φ:Nat->Prop} {f:LC} (hf:RF f) (h:bZ Φ f):bZ Φ (gL f).1:=
 EZ (fun c hc g hg=>E2 hg (abv (hf.rc hc) (h c hc))) (lits_one.2 fun j hj=>by rcases hj with hj|hj<;>simp [hp,hn] at hj)
theorem Yl {c:Cl} {n:Nat} (hn24:n<24) {j:Nat} (h:hp (fW n c) j\/hn (fW n c) j):(hp c j\/hn c j)/\j≠n:=by
 unfold hp hn fW at h
 rw [Qg hn24,Qg hn24] at h
 simp only [af,jd,decide_eq_false_iff_not] at h
 exact h.elim (fun h=>⟨.inl h.1.1,h.2⟩) fun h=>⟨.inr h.1.1,h.2⟩
theorem abw {fa:Bool} {Φ:Nat->Prop} {n:Nat} (hn24:n<24) {f r:LC} (hr:RF r) (h:bZ (fun j=>j≠n->Φ j) f) (h':bZ Φ r):bZ Φ (wv fa f n r).1:=by
 have hg: ∀c∈f,bZ Φ [fW n c]:=fun c hc=>lits_one.2 fun j hj=>by
  obtain ⟨h1,h2⟩:=Yl hn24 hj
  exact h c hc j h1 h2
 have hz:bZ Φ (gL r).1:=abu hr h'
 unfold wv
 cases fa
 ·show bZ Φ (kZ f n r).1
  unfold kZ
  split
  ·refine EZ (fun c hc g hh=> ?_) (iQ _)
   have hA:bZ Φ (jO n r c).1:=by
    unfold jO
    split
    ·exact E2 (hg c hc) h'
    ·exact hg c hc
   have hB:bZ Φ (lR n r c (jO n r c).1).1:=by
    unfold lR
    split
    ·split
     ·exact E2 hA hz
     ·exact iQ _
    ·exact hA
   unfold mD
   split
   ·split
    ·exact AG hh hB
    ·exact iQ _
   ·exact iQ _
  ·exact iQ _
 ·show bZ Φ (kY f n r).1
  unfold kY
  split
  ·refine EZ (fun c hc g hh=> ?_) (iQ _)
   have hG: ∀ {q:LC×Int},bZ Φ q.1->bZ Φ (kw n c g q).1:=fun hq=>by
    unfold kw
    split
    ·split
     ·exact AG hh (E0 (KC (hg c hc) hq))
     ·exact iQ _
    ·exact iQ _
   unfold iW
   split
   ·refine hG ?_
    unfold lQ
    split
    ·exact E0 h'
    ·exact iQ _
   ·split
    ·refine hG ?_
     unfold mA
     split
     ·split
      ·exact E0 hz
      ·exact iQ _
     ·exact iQ _
    ·exact AG hh (hg c hc)
  ·exact iQ _
theorem abr {Φ:Nat->Prop} {f:LC} (hf:RF f) {n:Nat} (hn24:n<24) (h:bZ (fun x=>x≠n->Φ (pT n x)) f):bZ Φ (co n f):=by
 unfold co
 refine qw fun c hc j hj=> ?_
 obtain ⟨d,hd,rfl⟩:=dA.1 hc
 rcases hj with hj|hj
 ·obtain ⟨x,hx,he,rfl⟩:=(zR hn24 (hf.rc hd).1 j).1 hj
  exact h d hd x (.inl hx) he
 ·obtain ⟨x,hx,he,rfl⟩:=(zR hn24 (hf.rc hd).2 j).1 hj
  exact h d hd x (.inr hx) he
theorem E1 {Φ:Nat->Prop} {f:LC} (hf:RF f) {n b:Nat} (h0:(du f n b).2=0) (h:bZ (fun x=>Φ (il n b x)) f):bZ Φ (du f n b).1:=by
 unfold du at h0 ⊢
 rw [if_pos hf.right] at h0 ⊢
 split at h0
 case isFalse h1=>exact absurd h0 h1
 rename_i h1
 rw [if_pos h1]
 obtain ⟨e1,e2⟩:=Yd h1
 refine qw ?_
 rw [e1,eF]
 intro c hc j hj
 obtain ⟨d,hd,rfl⟩:=dA.1 hc
 obtain ⟨q1,q2,q3⟩:=aa9 (e2 d hd)
 rw [q3] at hj
 rcases hj with hj|hj
 ·obtain ⟨x,hx,rfl⟩:=(KB (hf.rc hd).1 q1 j).1 hj
  exact h d hd x (.inl hx)
 ·obtain ⟨x,hx,rfl⟩:=(KB (hf.rc hd).2 q2 j).1 hj
  exact h d hd x (.inr hx)
theorem jL {f:LC} (hf:RF f) {d:Int}:bM f d=true↔bZ (fun j=>(j:Int)<d) f:=by
 unfold bM
 rw [decide_eq_true_eq]
 have: ∀i:Nat,i∈jB (mm f)↔i<24/\ ∃c∈f,hp c i\/hn c i:=fun i=>by
  rw [mem_bitsN,zQ]
  unfold pi hp hn
  simp only [af,List.any_eq_true,Bool.or_eq_true,decide_eq_true_eq]
  exact ⟨fun h=>⟨h.1,h.2.1⟩,fun h=>⟨h.1,h.2,h.1⟩⟩
 constructor
 ·intro h c hc j hj
  exact h j ((this j).2 ⟨hj.elim (Gf (hf.rc hc)) (Ge (hf.rc hc)),c,hc,hj⟩)
 ·intro h i hi
  obtain ⟨_,c,hc,hj⟩:=(this i).1 hi
  exact h c hc i hj
theorem AJ {f g:LC} {d b D:Int} (hf:RF f) (hd:0<=d) (hb:0<=b) (hl:bM f D=true) (h:eB d b f= .ok g):bM g (D+b)=true:=by
 have rg:=wL hf h
 obtain ⟨n,rfl⟩:=AP hd
 obtain ⟨m,rfl⟩:=AP hb
 rw [jL hf] at hl
 rw [jL rg]
 unfold eB at h
 split at h
 ·injection h with h;subst h
  exact kU hl fun j hj=>by omega
 ·obtain ⟨h0,rfl⟩:=ju h
  exact E1 hf h0 (kU hl fun j hj=>by unfold il;split<;>omega)
theorem oP {f:LC} {d e:Int} (hf:RF f) (h:bM f d=true) (hde:d<=e):bM f e=true:=by
 rw [jL hf] at h ⊢
 exact kU h fun j hj=>by omega
theorem KF {fa:Bool} {r f g:LC} {n D:Int} (hf:RF f) (hr:RF r) (hn:0<=n) (hnD:n<=D) (hl:bM f (D+1)=true) (hlr:bZ (fun j=>j≠0/\(j:Int)<D-n+1) r) (h:gX 0 r fa n f= .ok g):bM g D=true:=by
 obtain ⟨n,rfl⟩:=AP hn
 rw [vC] at h
 obtain ⟨m,h1,h⟩:=am h
 injection h with h;subst h
 have rm:=wM hf h1
 rw [Int.zero_add]
 by_cases hn24:n<24
 ·have hm:bZ (fun j=>j≠n->((j:Int)<D+1)) m/\(te f n->m=f)/\(¬te f n->bZ (fun j=>j≠n/\(j:Int)<D+1) m):=by
   rw [jL hf] at hl
   unfold b7 at h1
   rw [Int.zero_add] at h1
   split at h1
   ·rename_i hh
    obtain ⟨s,es,h1⟩:=am h1
    obtain ⟨h0,rfl⟩:=ju es
    obtain ⟨h2,rfl⟩:=ju h1
    have hls:bZ (fun j=>j≠n/\(j:Int)<D+1) (du r 0 n).1:=E1 (n:=0) hr h0 (kU hlr fun j hj=>by unfold il;rw [if_neg (by omega)];omega)
    have:=abw (fa:=fa) (f:=f) hn24 (km h0) (kU hl fun j hj (hne:j≠n)=>⟨hne,hj⟩) hls
    exact ⟨kU this fun j hj _=>hj.2,fun h=>absurd h (has_dims.1 hh).2,fun _=>this⟩
   ·rename_i hh
    injection h1 with h1;subst h1
    exact ⟨kU hl fun j hj _=>hj,fun _=>rfl,fun h=>absurd (has_dims.2 ⟨hn24,h⟩) hh⟩
  rw [jL (Du rm.len)]
  refine abr rm hn24 ?_
  by_cases hk:te f n
  ·have e:=hm.2.1 hk
   subst e
   refine kU hm.1 fun x hx hxn=> ?_
   have:=hx hxn
   unfold pT;split<;>omega
  ·refine kU (hm.2.2 hk) fun x hx _=> ?_
   have:=hx.1;have:=hx.2
   unfold pT;split<;>omega
 ·rw [IJ rm (by omega)]
  have:m=f:=by
   unfold b7 at h1
   rw [Int.zero_add,if_neg (fun h=>hn24 (has_dims.1 h).1)] at h1
   injection h1 with h1;exact h1.symm
  subst this
  rw [jL rm] at hl ⊢
  refine fun c hc j hj=> ?_
  have:j<24:=hj.elim (Gf (rm.rc hc)) (Ge (rm.rc hc))
  omega
mutual
def aO:Tm->Int
 | .mk kd _ _ _ ks sys=>max (dD kd 0 ks) (dw sys)
def dD (kd:Int) (i:Nat):LT->Int
 |[]=>0
 |t::l=>max (bJ kd i+aO t) (dD kd (i+1) l)
def dw:LB->Int
 |[]=>0
 |b::l=>max (jy b) (dw l)
def jy:Br Tm->Int
 | .mk _ ks=>dN ks
def dN:LT->Int
 |[]=>0
 |t::l=>max (1+aO t) (dN l)
end
theorem C6 (kd:Int): ∀ (l:LT) (i:Nat),0<=dD kd i l:=by
 intro l
 induction l with
 |nil=>intro i;rw [dD];decide
 |cons t l ih=>intro i;rw [dD];have:=ih (i+1);omega
theorem pH (t:Tm):0<=aO t:=by
 cases t;rw [aO];rename_i kd _ _ _ ks _;have:=C6 kd ks 0;omega
abbrev cr (V D:Int) (t:Tm):Prop:=aE true V D t=true
abbrev xj (bd:Bool) (vb db:Int) (x:Tm):Prop:= ∀ {v d V D:Int} {t':Tm},0<=d->0<=V->OkT x->RowsT x->aE bd V D x=true->(bd=true->D+db+aO x<=24)->dP vb db v d x= .ok t'->aE bd (V+vb) (D+db) t'=true
section
variable {bd:Bool} {vb db kd:Int}
theorem agN {V v:Int} (hV:0<=V) (hvb:0<=vb) (hv:0<=v):cL (V+vb) v=cL V v+vb/\0<=cL V v:=by
 unfold cL;rw [if_neg (by omega),if_neg (by omega)];omega
theorem aft (hvb:0<=vb): ∀ {l l':LT} {i:Nat} {v d V D:Int},(∀x∈l,xj bd vb db x)->0<=d->0<=V->aK l->ep l->bK bd V D kd i l=true->(bd=true->D+db+dD kd i l<=24)->gY vb db v d kd i l= .ok l'->bK bd (V+vb) (D+db) kd i l'=true:=by
 intro l
 induction l with
 |nil=>intro l' i v d V D _ _ _ _ _ _ _ h;rw [gY] at h;injection h with h;subst h;rw [bK]
 |cons t l ih=>
  intro l' i v d V D h hd hV ho hr ha hb hl
  rw [gY] at hl
  obtain ⟨t',e1,hl⟩:=am hl
  obtain ⟨m,e2,hl⟩:=am hl
  injection hl with hl;subst hl
  rw [aK] at ho
  rw [ep] at hr
  rw [bK,af] at ha ⊢
  rw [dD] at hb
  have:=jA kd i;have:=yz kd i
  obtain ⟨q1,q2⟩:=agN (v:=cY kd i) hV hvb (by omega)
  refine ⟨?_,ih (fun x hx=>h x (by simp [hx])) hd hV ho.2 hr.2 ha.2 (fun e=>by have:=hb e;omega) e2⟩
  have:=h t (by simp) (by omega) q2 ho.1 hr.1 ha.1 (fun e=>by have:=hb e;omega) e1
  rw [q1,show D+db+bJ kd i=D+bJ kd i+db by omega];exact this
theorem afx (hvb:0<=vb): ∀ {l l':LT} {v d V D:Int},aN kd<=1->(∀x∈l,xj bd vb db x)->0<=d->0<=V->aK l->ep l->dn bd V D kd l=true->(bd=true->D+db+dN l<=24)->gZ vb db v d kd l= .ok l'->dn bd (V+vb) (D+db) kd l'=true:=by
 intro l
 induction l with
 |nil=>intro l' v d V D _ _ _ _ _ _ _ _ h;rw [gZ] at h;injection h with h;subst h;rw [dn]
 |cons t l ih=>
  intro l' v d V D hm h hd hV ho hr ha hb hl
  rw [gZ] at hl
  obtain ⟨t',e1,hl⟩:=am hl
  obtain ⟨m,e2,hl⟩:=am hl
  injection hl with hl;subst hl
  rw [aK] at ho
  rw [ep] at hr
  rw [dn,af] at ha ⊢
  rw [dN] at hb
  have:=jM kd
  refine ⟨?_,ih hm (fun x hx=>h x (by simp [hx])) hd hV ho.2 hr.2 ha.2 (fun e=>by have:=hb e;omega) e2⟩
  have:=h t (by simp) (by omega) hV ho.1 hr.1 ha.1 (fun e=>by have:=hb e;omega) e1
  rw [show D+db+aN kd=D+aN kd+db by omega];exact this
theorem afz (hvb:0<=vb): ∀ {l l':LB} {v d V D:Int},(∀b∈l,∀x∈b.kids,xj bd vb db x)->0<=d->0<=V->bk l->f8 l->aL bd V D kd l=true->(bd=true->D+db+dw l<=24)->eY vb db v d kd l= .ok l'->aL bd (V+vb) (D+db) kd l'=true:=by
 intro l
 induction l with
 |nil=>intro l' v d V D _ _ _ _ _ _ _ h;rw [eY] at h;injection h with h;subst h;rw [aL]
 |cons b l ih=>
  intro l' v d V D h hd hV ho hr ha hb hl
  rw [eY] at hl
  obtain ⟨b',e1,hl⟩:=am hl
  obtain ⟨m,e2,hl⟩:=am hl
  injection hl with hl;subst hl
  obtain ⟨f,ks⟩:=b
  rw [qv] at e1
  obtain ⟨f',e3,e1⟩:=am e1
  obtain ⟨ks',e4,e1⟩:=am e1
  injection e1 with e1;subst e1
  rw [bk,g7] at ho
  rw [f8,mV] at hr
  rw [aL,g8,af] at ha ⊢
  rw [dw,jy] at hb
  have hb:bd=true->D+db+max (dN ks) (dw l)<=24:=hb
  exact ⟨afx hvb (jM kd).2 (h ⟨f,ks⟩ (by simp)) hd hV ho.1.2 hr.1.2 ha.1 (fun e=>by have:=hb e;show D+db+dN ks<=24;omega) e4,ih (fun b hb=>h b (by simp [hb])) hd hV ho.2 hr.2 ha.2 (fun e=>by have:=hb e;omega) e2⟩
theorem Ky: ∀ {l l':LT} {v d:Int} {i:Nat},gY vb db v d kd i l= .ok l'->l'.length=l.length:=by
 intro l
 induction l<;>grind [gY,->am]
theorem aa5: ∀ {l l':LB} {v d:Int},eY vb db v d kd l= .ok l'->l'.length=l.length:=by
 intro l
 induction l<;>grind [eY,->am]
theorem aa4: ∀ {l l':LT} {v d:Int},gZ vb db v d kd l= .ok l'->l'.length=l.length:=by
 intro l
 induction l<;>grind [gZ,->am]
theorem Ve (hdb:0<=db): ∀ {l l':LB} {v d D:Int},0<=d->bk l->l.all (aR kd D)=true->eY vb db v d kd l= .ok l'->l'.all (aR kd (D+db))=true:=by
 intro l
 induction l with
 |nil=>intro l' v d D _ _ _ h;rw [eY] at h;injection h with h;subst h;rfl
 |cons b l ih=>
  intro l' v d D hd ho ha hl
  rw [eY] at hl
  obtain ⟨b',e1,hl⟩:=am hl
  obtain ⟨m,e2,hl⟩:=am hl
  injection hl with hl;subst hl
  obtain ⟨f,ks⟩:=b
  rw [qv] at e1
  obtain ⟨f',e3,e1⟩:=am e1
  obtain ⟨ks',e4,e1⟩:=am e1
  injection e1 with e1;subst e1
  rw [bk,g7] at ho
  rw [fq,af] at ha ⊢
  refine ⟨?_,ih hd ho.2 ha.2 e2⟩
  have h1:=ha.1
  unfold aR at h1 ⊢
  simp only [af,decide_eq_true_eq] at h1 ⊢
  have hx:=(kB ho.1.1.1).1 h1.2.1
  exact ⟨by rw [aa4 e4];exact h1.1,wK e3 ho.1.1.1 h1.2.1,AJ hx.1 hd hdb h1.2.2 e3⟩
theorem BP (hvb:0<=vb) (hdb:0<=db) (t:Tm):xj bd vb db t:=by
 induction t using ik with
 |h kd n nm r ks sys ih1 ih2=>
  intro v d V D t' hd hV hok hro ha hb h
  have hrx:=hro
  rw [RowsT] at hro
  rw [dP] at h
  split at h
  ·cases h
  obtain ⟨r1,e1,h⟩:=am h
  obtain ⟨ks1,e2,h⟩:=am h
  obtain ⟨sys1,e3,h⟩:=am h
  injection h with h;subst h
  rw [aE] at ha ⊢
  rw [aO] at hb
  obtain ⟨o1,o2,o3,o4,o5,o6,o7⟩:=hok.node
  have hok':=hok
  rw [OkT] at hok'
  have b0:=C6 kd ks 0
  simp only [af] at ha ⊢
  obtain ⟨q1,q2,q3,q4⟩:=ha
  refine ⟨?_, ?_,aft hvb ih1 hd hV hok'.2.1 hro.2.1 q3 (fun e=>by have:=hb e;omega) e2,afz hvb ih2 hd hV hok'.2.2 hro.2.2 q4 (fun e=>by have:=hb e;omega) e3⟩
  ·cases bd with
   |false=>rfl
   |true=>
    have:=hb rfl
    rw [decide_eq_false (by omega)];rfl
  unfold dS at q2 ⊢
  simp only [af,decide_eq_true_eq] at q2 ⊢
  obtain ⟨⟨a1,a2,a3,a4⟩,a5⟩:=q2
  refine ⟨⟨by rw [Ky e2];exact a1, ?_,a3,by rw [aa5 e3];exact a4⟩, ?_⟩
  ·by_cases c:kd=1
   ·exact .inl c
   ·exact .inr (by rw [if_neg (fun h=>c h.1)];exact a2.resolve_left c)
  ·have hlow:=fun h=>AJ (D:=D) hro.1.1 hd hdb h e1
   by_cases c1:kd=1
   ·rw [if_pos c1] at a5 ⊢
    simp only [af,decide_eq_true_eq] at a5 ⊢
    refine ⟨wJ e1 a5.1, ?_, ?_⟩
    ·split<;>omega
    ·split<;>omega
   ·rw [if_neg c1] at a5 ⊢
    by_cases c2:kd=2
    ·rw [if_pos c2] at a5 ⊢
     simp only [af,decide_eq_true_eq] at a5 ⊢
     exact ⟨wJ e1 a5.1,a5.2⟩
    ·rw [if_neg c2] at a5 ⊢
     by_cases c3:kd=13\/kd=21\/kd=26
     ·rw [if_pos c3,af] at a5 ⊢
      exact ⟨Gn e1 o4 a5.1,hlow a5.2⟩
     ·rw [if_neg c3] at a5 ⊢
      by_cases c4:kd=14
      ·rw [if_pos c4,af] at a5 ⊢
       exact ⟨wK e1 o4 a5.1,hlow a5.2⟩
      ·rw [if_neg c4] at a5 ⊢
       simp only [af,decide_eq_true_eq] at a5 ⊢
       exact ⟨Ve hdb hd hok'.2.2 a5.1 e3,wJ e1 a5.2⟩
end
theorem VB {fa:Bool} {f:LC} (hf:RX fa f) {n:Int} (hn:0<=n):RX fa (co n f):=by
 obtain ⟨n,rfl⟩:=AP hn
 by_cases hn24:n<24
 ·refine ⟨Du hf.1.len,fun e c hc=> ?_⟩
  have hm:c∈f.map (lr n):=by
   rw [(vP (yK (j:=n) hf.1.len)).1] at hc
   exact (mem_mins.1 hc).1
  obtain ⟨d,hd,rfl⟩:=dA.1 hm
  refine calm_bits.2 fun j hj=> ?_
  obtain ⟨x,hx,hxn,h1⟩:=(zR hn24 (hf.1.rc hd).1 j).1 hj.1
  obtain ⟨y,hy,hyn,h2⟩:=(zR hn24 (hf.1.rc hd).2 j).1 hj.2
  have:x=y:=by unfold pT at h1 h2;split at h1<;>split at h2<;>omega
  subst this
  exact calm_bits.1 (hf.2 e d hd) x ⟨hx,hy⟩
 ·rw [IJ hf.1 (by omega)];exact hf
theorem Gx {fa:Bool} {r f g:LC} {n:Int} (hf:RX fa f) (hr:RF r) (hn:0<=n) (h:gX 0 r fa n f= .ok g):RX fa g:=by
 rw [vC] at h
 obtain ⟨m,h1,h⟩:=am h
 injection h with h;subst h
 rw [Int.zero_add]
 refine VB ?_ hn
 unfold b7 at h1
 split at h1
 ·obtain ⟨s,es,h1⟩:=am h1
  obtain ⟨h0,rfl⟩:=ju es
  obtain ⟨h2,rfl⟩:=ju h1
  exact acS hf.1.2 (km h0).2 h2
 ·injection h1 with h1;subst h1;exact hf
theorem Ei {r f g:LC} {fa:Bool} {n:Int} (hf:f.length=0) (h:gX 0 r fa n f= .ok g):g.length=0:=by
 rw [List.length_eq_zero_iff.1 hf] at h
 rw [Ya h];rfl
abbrev xl (bd:Bool) (r:LC) (c:Int) (x:Tm):Prop:= ∀ {n V D:Int} {t':Tm},0<=n->n<=D->D-n=c->OkT x->RowsT x->aE bd V (D+1) x=true->cj (gX 0 r false) (gX 0 r true) n x= .ok t'->aE bd V D t'=true
section
variable {bd:Bool} {r:LC} {c kd:Int}
theorem af9: ∀ {l l':LT} {i:Nat} {n V D:Int},(∀x∈l,xl bd r c x)->0<=n->n<=D->D-n=c->aK l->ep l->bK bd V (D+1) kd i l=true->dr (gX 0 r false) (gX 0 r true) n kd i l= .ok l'->bK bd V D kd i l'=true/\l'.length=l.length:=by
 intro l
 induction l with
 |nil=>intro l' i n V D _ _ _ _ _ _ _ h;rw [dr] at h;injection h with h;subst h;exact ⟨by rw [bK],rfl⟩
 |cons t l ih=>
  intro l' i n V D h hn hD hc ho hr ha hl
  rw [dr] at hl
  obtain ⟨t',e1,hl⟩:=am hl
  obtain ⟨m,e2,hl⟩:=am hl
  injection hl with hl;subst hl
  rw [aK] at ho
  rw [ep] at hr
  rw [bK,af] at ha ⊢
  have:=jA kd i
  obtain ⟨q1,q2⟩:=ih (fun x hx=>h x (by simp [hx])) hn hD hc ho.2 hr.2 ha.2 e2
  refine ⟨⟨h t (by simp) (n:=n+bJ kd i) (D:=D+bJ kd i) (by omega) (by omega) (by omega) ho.1 hr.1 ?_ e1,q1⟩,by rw [er,er,q2]⟩
  rw [show D+bJ kd i+1=D+1+bJ kd i by omega];exact ha.1
theorem af_: ∀ {l l':LT} {n V D:Int},(∀x∈l,xl bd r c x)->0<=n->n<=D->D-n=c->aK l->ep l->dn bd V (D+1) kd l=true->dv (gX 0 r false) (gX 0 r true) n kd l= .ok l'->dn bd V D kd l'=true/\l'.length=l.length:=by
 intro l
 induction l with
 |nil=>intro l' n V D _ _ _ _ _ _ _ h;rw [dv] at h;injection h with h;subst h;exact ⟨by rw [dn],rfl⟩
 |cons t l ih=>
  intro l' n V D h hn hD hc ho hr ha hl
  rw [dv] at hl
  obtain ⟨t',e1,hl⟩:=am hl
  obtain ⟨m,e2,hl⟩:=am hl
  injection hl with hl;subst hl
  rw [aK] at ho
  rw [ep] at hr
  rw [dn,af] at ha ⊢
  have:=jM kd
  obtain ⟨q1,q2⟩:=ih (fun x hx=>h x (by simp [hx])) hn hD hc ho.2 hr.2 ha.2 e2
  refine ⟨⟨h t (by simp) (n:=n+aN kd) (D:=D+aN kd) (by omega) (by omega) (by omega) ho.1 hr.1 ?_ e1,q1⟩,by rw [er,er,q2]⟩
  rw [show D+aN kd+1=D+1+aN kd by omega];exact ha.1
theorem aga (hr:RF r) (hlr:bZ (fun j=>j≠0/\(j:Int)<c+1) r): ∀ {l l':LB} {n V D:Int},(∀b∈l,∀x∈b.kids,xl bd r c x)->0<=n->n<=D->D-n=c->bk l->f8 l->aL bd V (D+1) kd l=true->ck (gX 0 r false) (gX 0 r true) n kd l= .ok l'->
  aL bd V D kd l'=true/\(l.length=0->l'.length=0)/\(l.all (aR kd (D+1))=true->l'.all (aR kd D)=true):=by
 intro l
 induction l with
 |nil=>intro l' n V D _ _ _ _ _ _ _ h;rw [ck] at h;injection h with h;subst h;exact ⟨by rw [aL],fun h=>h,fun _=>rfl⟩
 |cons b l ih=>
  intro l' n V D h hn hD hc ho hrw ha hl
  rw [ck] at hl
  obtain ⟨o,e1,hl⟩:=am hl
  obtain ⟨m,e2,hl⟩:=am hl
  injection hl with hl;subst hl
  obtain ⟨f,ks⟩:=b
  rw [bk,g7] at ho
  rw [f8,mV] at hrw
  rw [aL,g8,af] at ha
  obtain ⟨q1,q2,q3⟩:=ih (fun b hb=>h b (by simp [hb])) hn hD hc ho.2 hrw.2 ha.2 e2
  rw [i8] at e1
  obtain ⟨f',e3,e1⟩:=am e1
  split at e1
  ·injection e1 with e1;subst e1
   exact ⟨q1,(fun h=>by cases h),fun h=>by rw [fq,af] at h;exact q3 h.2⟩
  ·obtain ⟨ks',e4,e1⟩:=am e1
   injection e1 with e1;subst e1
   obtain ⟨q4,q5⟩:=af_ (kd:=kd) (h ⟨f,ks⟩ (by simp)) hn hD hc ho.1.2 hrw.1.2 ha.1 e4
   refine ⟨?_,(fun h=>by cases h),fun h=> ?_⟩
   ·show aL bd V D kd (⟨f',ks'⟩::m)=true
    rw [aL,g8,af];exact ⟨q4,q1⟩
   ·show (Br.mk f' ks'::m).all (aR kd D)=true
    rw [fq,af] at h ⊢
    refine ⟨?_,q3 h.2⟩
    have h1:=h.1
    unfold aR at h1 ⊢
    simp only [af,decide_eq_true_eq] at h1 ⊢
    have hx:=(kB ho.1.1.1).1 h1.2.1
    have hx':=Gx (fa:=true) ⟨hx.1,fun _=>hx.2⟩ hr hn e3
    exact ⟨by rw [q5];exact h1.1,RFa.right ⟨hx'.1,hx'.2 rfl⟩,KF hx.1 hr hn hD h1.2.2 (by rw [show D-n+1=c+1 by omega];exact hlr) e3⟩
theorem Ps (hr:RF r) (hlr:bZ (fun j=>j≠0/\(j:Int)<c+1) r) (t:Tm):xl bd r c t:=by
 induction t using ik with
 |h kd k nm r0 ks sys ih1 ih2=>
  intro n V D t' hn hD hc hok hro ha h
  have hrx:=hro
  rw [RowsT] at hro
  rw [cj] at h
  obtain ⟨r1,e1,h⟩:=am h
  obtain ⟨ks1,e2,h⟩:=am h
  obtain ⟨sys1,e3,h⟩:=am h
  injection h with h;subst h
  rw [aE] at ha ⊢
  obtain ⟨o1,o2,o3,o4,o5,o6,o7⟩:=hok.node
  have hok':=hok
  rw [OkT] at hok'
  simp only [af] at ha ⊢
  obtain ⟨q1,q2,q3,q4⟩:=ha
  obtain ⟨k1,k2⟩:=af9 ih1 hn hD hc hok'.2.1 hro.2.1 q3 e2
  obtain ⟨s1,s2,s3⟩:=aga hr hlr ih2 hn hD hc hok'.2.2 hro.2.2 q4 e3
  refine ⟨?_, ?_,k1,s1⟩
  ·cases bd with
   |false=>rfl
   |true=>
    have: ¬D+1>24:=by simpa using q1
    rw [decide_eq_false (by omega)];rfl
  unfold dS at q2 ⊢
  simp only [af,decide_eq_true_eq] at q2 ⊢
  obtain ⟨⟨a1,a2,a3,a4⟩,a5⟩:=q2
  refine ⟨⟨by rw [k2];exact a1,a2,a3,fun h=>s2 (a4 h)⟩, ?_⟩
  have hlow: ∀ {fa:Bool},bM r0 (D+1)=true->gX 0 r fa n r0= .ok r1->bM r1 D=true:=fun hl he=>KF hro.1.1 hr hn hD hl (by rw [show D-n+1=c+1 by omega];exact hlr) he
  by_cases c4:kd=14
  ·subst c4
   rw [if_neg (by decide),if_neg (by decide),if_neg (by decide),if_pos rfl,af] at a5 ⊢
   rw [if_pos rfl] at e1
   have hx:=(kB o4).1 a5.1
   have hx':=Gx (fa:=true) ⟨hx.1,fun _=>hx.2⟩ hr hn e1
   exact ⟨RFa.right ⟨hx'.1,hx'.2 rfl⟩,hlow a5.2 e1⟩
  ·rw [if_neg c4] at e1
   rw [if_neg c4] at a5 ⊢
   by_cases c1:kd=1
   ·rw [if_pos c1] at a5 ⊢
    simp only [af,decide_eq_true_eq] at a5 ⊢
    exact ⟨Ei a5.1 e1,a5.2⟩
   ·rw [if_neg c1] at a5 ⊢
    by_cases c2:kd=2
    ·rw [if_pos c2] at a5 ⊢
     simp only [af,decide_eq_true_eq] at a5 ⊢
     exact ⟨Ei a5.1 e1,a5.2⟩
    ·rw [if_neg c2] at a5 ⊢
     by_cases c3:kd=13\/kd=21\/kd=26
     ·rw [if_pos c3,af] at a5 ⊢
      have hx':=Gx (fa:=false) ⟨hro.1.1,fun h=>by cases h⟩ hr hn e1
      exact ⟨hx'.1.right,hlow a5.2 e1⟩
     ·rw [if_neg c3] at a5 ⊢
      simp only [af,decide_eq_true_eq] at a5 ⊢
      exact ⟨s3 a5.1,Ei a5.2 e1⟩
end
section
variable {vb db kd:Int}
theorem UX: ∀ {l l':LT} {i:Nat} {v d:Int},(∀x∈l,∀ {v d:Int} {t':Tm},dP vb db v d x= .ok t'->aO t'=aO x)->gY vb db v d kd i l= .ok l'->dD kd i l'=dD kd i l:=by
 intro l
 induction l<;>grind [gY,dD,->am]
theorem UY: ∀ {l l':LT} {v d:Int},(∀x∈l,∀ {v d:Int} {t':Tm},dP vb db v d x= .ok t'->aO t'=aO x)->gZ vb db v d kd l= .ok l'->dN l'=dN l:=by
 intro l
 induction l<;>grind [gZ,dN,->am]
theorem UZ: ∀ {l l':LB} {v d:Int},(∀b∈l,∀x∈b.kids,∀ {v d:Int} {t':Tm},dP vb db v d x= .ok t'->aO t'=aO x)->eY vb db v d kd l= .ok l'->dw l'=dw l:=by
 intro l
 induction l with
 |nil=>grind [eY]
 |cons b l ih=>
  intro l' v d h hl
  rw [eY] at hl
  obtain ⟨b',e1,hl⟩:=am hl
  obtain ⟨m,e2,hl⟩:=am hl
  injection hl with hl;subst hl
  obtain ⟨f,ks⟩:=b
  rw [qv] at e1
  obtain ⟨f',e3,e1⟩:=am e1
  obtain ⟨ks',e4,e1⟩:=am e1
  injection e1 with e1;subst e1
  rw [dw,dw,jy,jy,ih (fun b hb=>h b (by simp [hb])) e2,UY (h ⟨f,ks⟩ (by simp)) e4]
theorem yw (t:Tm): ∀ {v d:Int} {t':Tm},dP vb db v d t= .ok t'->aO t'=aO t:=by
 induction t using ik with
 |h kd n nm r ks sys ih1 ih2=>
  intro v d t' h
  rw [dP] at h
  split at h
  ·cases h
  obtain ⟨r1,e1,h⟩:=am h
  obtain ⟨ks1,e2,h⟩:=am h
  obtain ⟨sys1,e3,h⟩:=am h
  injection h with h;subst h
  rw [aO,aO,UX ih1 e2,UZ ih2 e3]
end
theorem uL {a b:Int} {t t':Tm} (h:cG a b t= .ok t'):aO t'=aO t:=by
 obtain ⟨m,h1,h2⟩:=am h
 rw [yw m h2,yw t h1]
variable {S:Type} {k:Nat}
def QH (phi:LC) (en:Cl) (f:LC):Prop:= ∃f1,fj (du phi 0 1)= .ok f1/\fj (iN f1 [en])= .ok f
theorem adN:RC ⟨0,1⟩:=⟨⟨by decide,by decide⟩,by decide,by decide⟩
theorem adO:RC ⟨1,0⟩:=⟨⟨by decide,by decide⟩,by decide,by decide⟩
theorem UD {line a t:Tm} {phi r:LC} {en:Cl} (h:g9 line phi a en r= .ok t):dX [line,a]=0/\cm phi=true/\dl t=0/\lm line phi a en r= .ok t/\
  ∃f l a',QH phi en f/\g_ r line= .ok l/\cG 0 1 a= .ok a'/\t= .mk 14 0 aw f [l,a'] []:=by
 unfold g9 at h
 split at h
 case isFalse=>cases h
 rename_i h1
 split at h
 case isFalse=>cases h
 rename_i h2
 unfold ic at h
 obtain ⟨t',h3,h⟩:=am h
 split at h
 case isFalse=>cases h
 rename_i h4
 injection h with h;subst h
 refine ⟨h1,h2,h4,h3, ?_⟩
 unfold lm at h3
 obtain ⟨f1,e1,h3⟩:=am h3
 obtain ⟨f,e2,h3⟩:=am h3
 obtain ⟨l,e3,h3⟩:=am h3
 obtain ⟨a',e4,h3⟩:=am h3
 injection h3 with h3
 exact ⟨f,l,a',⟨f1,e1,e2⟩,e3,e4,h3.symm⟩
end Go.Proofs.YtgajalidbabccaaGreatDoor
namespace Go.Proofs.YtgajalidbabccaaGreatDoor
open Go PI
set_option maxRecDepth 20000
theorem Pr {V D:Int} {t:Tm} (h:cr V D t):D<=24:=by
 cases t
 unfold cr at h
 rw [aE] at h
 simp only [Bool.true_and,af,jd,decide_eq_false_iff_not] at h
 omega
theorem BR {V D kd:Int} {l:LT} (h1:kd≠1/\kd≠2) (hk:jJ kd=l.length) (hD:D<=24) (ha:bK true V D kd 0 l=true):cr V D (aH kd l):=by
 unfold cr aH
 rw [aE,aL]
 simp only [Bool.true_and,af,jd,decide_eq_false_iff_not,Bool.and_true]
 refine ⟨by omega, ?_,ha⟩
 unfold dS
 simp only [af,decide_eq_true_eq]
 refine ⟨⟨hk,by simp,by simp,fun _=>rfl⟩, ?_⟩
 rw [if_neg h1.1,if_neg h1.2]
 have hl:bM [] D=true:=E5 D [] rfl
 split
 ·rw [hl];rfl
 ·split
  ·rw [hl];rfl
  ·rfl
theorem wU {V D a b:Int} {t t':Tm} (hf:Fm t) (ha:0<=a/\a<=1000) (hb:0<=b) (hV:0<=V) (hs:cr V D t) (hd:D+b+aO t<=24) (h:cG a b t= .ok t'):cr (V+a) (D+b) t':=by
 unfold cG at h
 obtain ⟨m,h1,h2⟩:=am h
 have fm:=nD (by omega) hf h1
 have s1:=BP ha.1 (by decide) t (f_ 0) hV hf.ok hf.rows hs (fun _=>by omega) h1
 have e:aO m=aO t:=yw t h1
 have s2:=BP (f_ 0) hb m (f_ 0) (by omega) fm.ok fm.rows s1 (fun _=>by omega) h2
 rw [eb,eb] at s2;exact s2
theorem afp {V D:Int} {r s:LC} {t t':Tm} (hr:du r 0 1=(s,0)) (hl:bZ (fun j=>j=1\/j=2) s) (hf:Fm t) (hD:0<=D) (hV:0<=V) (hs:cr V (D+1) t) (hd:D+3+aO t<=24) (h:g_ r t= .ok t'):cr V (D+2) t':=by
 have rs:RF s:=by
  have:=km (f:=r) (i:=0) (b:=1) (by rw [hr])
  rw [hr] at this;exact this
 unfold g_ at h
 obtain ⟨m,h1,h⟩:=am h
 unfold eS at h
 rw [hr,qW rfl,bO] at h
 have fm:=nD (by omega) hf h1
 have s1:=BP (f_ 0) (by omega) t (by omega) hV hf.ok hf.rows hs (fun _=>by omega) h1
 rw [eb] at s1
 refine Ps (c:=D+2) rs (kU hl fun j hj=>by omega) m (f_ 0) (by omega) (by omega) fm.ok fm.rows ?_ h
 rw [show D+2+1=D+1+2 by omega];exact s1
theorem Da (j:Nat):((1:Nat).testBit j=true↔j=0)/\((2:Nat).testBit j=true↔j=1)/\((4:Nat).testBit j=true↔j=2):=by
 refine ⟨?_, ?_, ?_⟩
 ·rw [show 1=2^0 from rfl,Nat.testBit_two_pow,decide_eq_true_eq];exact eq_comm
 ·rw [show 2=2^1 from rfl,Nat.testBit_two_pow,decide_eq_true_eq];exact eq_comm
 ·rw [show 4=2^2 from rfl,Nat.testBit_two_pow,decide_eq_true_eq];exact eq_comm
theorem abp:bZ (fun j=>j=1\/j=2) [⟨6,0⟩]:=lits_one.2 fun j hj=>hj.elim (afG j).1 fun h=>absurd h (QF _ _)
theorem all1 {V D kd:Int} {i:Nat} {t:Tm}:bK true V D kd i [t]=true↔aE true (cL V (cY kd i)) (D+bJ kd i) t=true:=by
 rw [bK,bK,Bool.and_true]
theorem all2 {V D kd:Int} {i:Nat} {t u:Tm}:bK true V D kd i [t,u]=true↔aE true (cL V (cY kd i)) (D+bJ kd i) t=true/\aE true (cL V (cY kd (i+1:Nat))) (D+bJ kd (i+1:Nat)) u=true:=by
 rw [bK,af,all1]
theorem gM (V:Int):cL V 0=V:=by unfold cL;split<;>omega
theorem agM {V:Int} (h:0<=V):cL V 1=V+1:=by unfold cL;rw [if_neg (by omega)]
theorem BO {V D:Int} {l a:Tm} {sys:LB} (hD:D<=24) (hl:cr V D l) (ha:cr V D a) (hb:sys.all (aR 15 D)=true) (hs:aL true V D 15 sys=true):cr V D (.mk 15 0 aw [] [l,a] sys):=by
 unfold cr
 rw [aE,hs]
 simp only [Bool.true_and,af,jd,decide_eq_false_iff_not,Bool.and_true]
 refine ⟨by omega, ?_, ?_⟩
 ·show (true&&(sys.all (aR 15 D)&&true))=true
  rw [hb];rfl
 ·rw [all2]
  show aE true (cL V 0) (D+0) l=true/\aE true (cL V 0) (D+0) a=true
  rw [gM,eb];exact ⟨hl,ha⟩
theorem ag4 {V D:Int} {sys:LB} (h:cr V D (cE sys)):sys.all (aR 15 D)=true/\aL true V D 15 sys=true:=by
 unfold cr cE at h
 rw [aE] at h
 simp only [Bool.true_and,af,jd,decide_eq_false_iff_not] at h
 obtain ⟨_,h1,_,h2⟩:=h
 have h1:(true&&(sys.all (aR 15 D)&&true))=true:=h1
 rw [Bool.true_and,Bool.and_true] at h1
 exact ⟨h1,h2⟩
theorem E6 {D:Int} (hD:1<=D):bM [⟨1,0⟩] D=true:=(jL (la adO)).2 (lits_one.2 fun j hj=>by
 rcases hj with hj|hj
 ·have:=(Da j).1.1 hj;omega
 ·exact absurd hj (QF _ _))
theorem XV:cm [⟨1,0⟩]=true:=by decide
theorem Ku {V D:Int} {b:Br Tm} {r:LB} (hb1:b.kids=[aF b]) (h2:aL true V D 15 (b::r)=true):cr V (D+1) (aF b)/\aL true V D 15 r=true:=by
 rw [aL,af] at h2
 refine ⟨?_,h2.2⟩
 have:=h2.1
 obtain ⟨f,ks⟩:=b
 have hb1:ks=[aF ⟨f,ks⟩]:=hb1
 rw [g8,hb1,dn,af] at this
 exact this.1
theorem abz {D:Int} (hD:1<=D):bM [⟨0,1⟩] D=true:=(jL (la adN)).2 (lits_one.2 fun j hj=>by
 rcases hj with hj|hj
 ·simp [hp] at hj
 ·have:=(Da j).1.1 hj;omega)
theorem afr {V D:Int} {t a x:Tm} {sys:LB} (ht:Fm t) (ha:Fm a) (hD:0<=D/\D<=12) (hV:0<=V) (s1:cr V D t) (s2:cr V D a) (s3:cr V D (cE sys)) (sy:SyF sys) (hb:aO t<=8) (hba:aO a<=8) (hbs:dw sys<=8) (h:it t a sys= .ok x):cr V (D+1) x:=by
 unfold it at h
 obtain ⟨t',e1,h⟩:=am h
 obtain ⟨a',e2,h⟩:=am h
 obtain ⟨l,e3,h⟩:=am h
 obtain ⟨a2,e4,h⟩:=am h
 injection h with h;subst h
 obtain ⟨w1,w2⟩:=ag4 s3
 have key: ∀ {sys l:LB},(∀b∈sys,b.kids=[aF b]/\Fm (aF b)/\av b.face/\b.face.length<1073741824)->dw sys<=8->sys.all (aR 15 D)=true->aL true V D 15 sys=true->mq sys= .ok l->l.all (aR 15 (D+1))=true/\aL true V (D+1) 15 l=true:=by
  intro sys
  induction sys with
  |nil=>intro l _ _ _ _ h;rw [mq] at h;injection h with h;subst h;exact ⟨rfl,by rw [aL]⟩
  |cons b r ih=>
   intro l hk hbd h1 h2 h
   rw [mq] at h
   obtain ⟨f,q0,h⟩:=am h
   obtain ⟨u,q1,h⟩:=am h
   obtain ⟨m,q2,h⟩:=am h
   injection h with h;subst h
   rw [fq,af] at h1 ⊢
   obtain ⟨hb1,hfb,hof,_⟩:=hk b (by simp)
   obtain ⟨hkid,h2r⟩:=Ku hb1 h2
   have hbk:1+aO (aF b)<=8/\dw r<=8:=by
    rw [dw] at hbd
    obtain ⟨f,ks⟩:=b
    have hb1:ks=[aF ⟨f,ks⟩]:=hb1
    rw [jy] at hbd
    have:dN ks=max (1+aO (aF ⟨f,ks⟩)) 0:=by rw [hb1,dN,dN];rfl
    omega
   obtain ⟨i1,i2⟩:=ih (fun b hb=>hk b (by simp [hb])) hbk.2 h1.2 h2r q2
   rw [aL,af]
   refine ⟨⟨?_,i1⟩, ?_,i2⟩
   ·have:=h1.1
    unfold aR at this ⊢
    simp only [af] at this ⊢
    have hr:eB 0 1 b.face= .ok f:=by unfold eB;rw [if_neg (by decide)];exact q0
    exact ⟨rfl,wK hr hof this.2.1,AJ ((kB hof).1 this.2.1).1 (by decide) (by decide) this.2.2 hr⟩
   ·rw [g8,dn,dn,Bool.and_true]
    have:=afp (r:=[⟨3,0⟩]) (s:=[⟨6,0⟩]) (by decide) abp hfb hD.1 hV hkid (by omega) q1
    rw [show D+1+aN 15=D+2 by have:aN 15=1:=rfl;omega];exact this
 obtain ⟨k1,k2⟩:=key (fun b hb=>sy.kid b hb) hbs w1 w2 e3
 have u1:=wU ht (by omega) (by omega) hV s1 (by omega) e1
 have u2:=wU ha (by omega) (by omega) hV s2 (by omega) e2
 have u3:=wU ha (by omega) (by omega) hV s2 (by omega) e4
 rw [eb] at u1 u2 u3
 refine BO (by omega) u1 u2 ?_ ?_
 ·rw [List.all_append,k1,fq,Bool.true_and,List.all_nil,Bool.and_true]
  unfold aR
  simp only [af]
  exact ⟨rfl,by decide,abz (by omega)⟩
 ·rw [lk,List.all_append,<-lk,k2,fq,Bool.true_and,List.all_nil,Bool.and_true,fq,List.all_nil,Bool.and_true]
  rw [show D+1+aN 15=D+2 by have:aN 15=1:=rfl;omega];exact u3
theorem abt {Φ:Nat->Prop} {f g:LC} (h:bZ Φ f) (h':bZ Φ g):bZ Φ (iN f g).1:=by
 unfold iN
 split
 ·exact AG h h'
 ·exact iQ _
variable {S:Type} {k:Nat}
theorem UW {t a f y x:Tm} (h:gJ t a f y= .ok x):aO x=max (aO t) (max (1+aO a) (max (aO y) (aO f))):=by
 unfold gJ at h
 obtain ⟨a',e1,h⟩:=am h
 obtain ⟨y',e2,h⟩:=am h
 obtain ⟨f',e3,h⟩:=am h
 injection h with h;subst h
 have b1: ∀kd i,aO (aH kd i)=max (dD kd 0 i) 0:=fun kd i=>by unfold aH;rw [aO,dw]
 have hv:aO (vN 0)=0:=by unfold vN;rw [aO,dD,dw];rfl
 rw [b1,dD,dD,dD,b1,dD,dD,dD,dD,b1,dD,dD,dD,hv,uL e1,uL e2,uL e3]
 have:=pH t;have:=pH a;have:=pH y;have:=pH f
 have e: ∀i,bJ 7 i=0/\bJ 6 i=0:=fun i=>by unfold bJ;constructor<;>rw [if_neg (by omega)]
 have e0:bJ 11 ((0:Nat):Int)=1:=rfl
 have e1:bJ 11 ((0+1:Nat):Int)=0:=rfl
 have e2:bJ 11 ((0+1+1:Nat):Int)=0:=rfl
 simp only [e,e0,e1,e2]
 omega
def kX (t:Tm) (V D:Int):Int:=if V<0\/D<0\/D>24 then 2 else if ap t>200 then 62 else if aG t>20000 then 221 else if aE true V D t then 0 else 100
theorem GI {t:Tm} (ht:In k t) (hk:F3 k) {V D:Int} (hV:V<9223372036854775808) (hD:D<1000000) (J:Int->OS S):rP k t V D J=J (kX t V D):=by
 simp only [rP,ao hk.fu,aM,eC]
 unfold kX
 by_cases h1:V<0
 ·rw [if_pos h1,if_pos (.inl h1)]
 rw [if_neg h1]
 by_cases h2:D<0
 ·rw [if_pos h2,if_pos (.inr (.inl h2))]
 rw [if_neg h2]
 by_cases h3:D>24
 ·rw [if_pos h3,if_pos (.inr (.inr h3))]
 have hdep:=ht.dep
 rw [if_neg h3,if_neg (by omega),Pn ht.1 ht.2.1]
 by_cases h4:ap t>200
 ·rw [if_pos h4,if_pos h4];rfl
 rw [if_neg h4,if_neg h4]
 by_cases h5:aG t>20000
 ·rw [if_pos h5,if_pos h5];rfl
 rw [if_neg h5,if_neg h5,show (!((0:Int)==0))=false from rfl,ak,O3 t ht.1 _ ht.2.1 ⟨by omega,by omega,by omega,by omega⟩]
 cases aE true V D t<;>rfl
theorem OB {t:Tm} {V D:Int} (h:kX t V D=0):0<=V/\0<=D/\cr V D t:=by
 unfold kX at h
 split at h
 ·cases h
 split at h
 ·cases h
 split at h
 ·cases h
 split at h
 ·exact ⟨by omega,by omega,by assumption⟩
 ·cases h
theorem OC {t:Tm} {V D:Int} (h:dl t=0) (hV:0<=V) (hD:0<=D) (hs:cr V D t):kX t V D=0:=by
 have hle:=Pr hs
 obtain ⟨h1,h2,_⟩:=jm h
 unfold kX
 rw [if_neg (by omega),if_neg (by omega),if_neg (by omega),if_pos hs]
theorem qV {l:LT} {x:Except Int Tm} {t:Tm} (h:dK l x= .ok t):dX l=0/\dl t=0/\x= .ok t:=by
 unfold dK at h
 split at h
 case isFalse=>cases h
 rename_i h1
 unfold ic at h
 obtain ⟨t',h3,h⟩:=am h
 split at h
 case isFalse=>cases h
 rename_i h4
 injection h with h;subst h
 exact ⟨h1,h4,h3⟩
theorem afM {l:LT} {x:Except Int Tm} {e:Int} (hx: ∀e,x= .error e->e≠0) (h:dK l x= .error e):e≠0:=by
 unfold dK at h
 split at h
 ·unfold ic at h
  rcases dj h with h|⟨t,_,h⟩
  ·exact hx e h
  ·split at h
   ·cases h
   ·rename_i hne;injection h with h;exact h▸hne
 ·rename_i hne;injection h with h;exact h▸hne
theorem CY {line a:Tm} {phi r:LC} {en:Cl} {e:Int} (h:g9 line phi a en r= .error e):e≠0:=by
 unfold g9 at h
 split at h
 ·split at h
  ·unfold ic at h
   rcases dj h with h|⟨t,_,h⟩
   ·have:=UC h;omega
   ·split at h
    ·cases h
    ·rename_i hne;injection h with h;exact h▸hne
  ·injection h with h;omega
 ·rename_i hne;injection h with h;exact h▸hne
def ou {α:Type} (x:Except Int α):Int:=match x with
 | .ok _=>0
 | .error e=>e
theorem afH {n:Nat}: ∀ {l:LT},(∀x∈l,aG x<=n)->aD l<=l.length*n:=by
 intro l
 induction l with
 |nil=>intro _;rw [aD];simp
 |cons x l ih=>
  intro h
  rw [aD,er,Nat.succ_mul]
  have:=ih fun y hy=>h y (by simp [hy])
  have:=h x (by simp)
  omega
theorem VE {n:Nat}: ∀ {l:LT},(∀x∈l,ap x<=n)->bj l<=n:=by
 intro l
 induction l with
 |nil=>intro _;rw [bj];omega
 |cons x l ih=>intro h;rw [bj];have:=ih fun y hy=>h y (by simp [hy]);have:=h x (by simp);omega
theorem ag3 (hk:F3 k) {n:Nat} (hn:n<=50000000) {l:LB} (h:Bs' n l) (hl:l.length<=20000) (hd:bB l<=299):In k (cE l):=by
 have hz:aJ l<=1000000000000:=fC h.siz (fC (Nat.mul_le_mul hl hn) (by omega))
 have hs:aG noT<=1:=by unfold noT;rw [aG,aD,aJ];omega
 have hdn:ap noT<=1:=by unfold noT;rw [ap,bj,bB];omega
 refine (show Sm (10+1000000000000+1) (cE l) from ?_).isIn hk (by omega)
 unfold cE
 exact l6 (kd:=15) (by omega) (r:=[]) ⟨(fun c hc=>by cases hc),by simp⟩ (fun x hx=>by
  simp at hx
  subst hx
  refine ⟨?_, ?_⟩
  ·rw [OkT,aK,bk];exact ⟨⟨by unfold aI;omega,by unfold aI;omega,by decide,(fun c hc=>by cases hc),by simp,by simp,by simp⟩,trivial,trivial⟩
  ·rw [ap,bj,bB];omega) (by simp) (by rw [aD,aD,aD,aG,aD,aJ];simp) h.ok (by omega) hd hz
theorem B9 (hk:F3 k) {x:Tm} (fx:Fm x):In k (cE x.sys):=by
 obtain ⟨o1,o2,o3,o4,o5,o6,o7⟩:=fx.ok.no
 have hs:bk x.sys:=by have:=fx.ok;cases x;rw [OkT] at this;exact this.2.2
 have hd:bB x.sys<=299:=by have:=fx.dep;cases x;rw [ap] at this;show bB _<=299;simp only [Tm.sys];omega
 have hz:aJ x.sys<=20000:=by have:=fx.siz;cases x;rw [aG] at this;show aJ _<=20000;simp only [Tm.sys];omega
 unfold cE
 exact (l6 (kd:=15) (by omega) (r:=[]) ⟨(fun c hc=>by cases hc),by simp⟩ (n:=10) (fun y hy=>by
  simp at hy
  subst hy
  refine ⟨?_, ?_⟩
  ·rw [OkT,aK,bk];exact ⟨⟨by unfold aI;omega,by unfold aI;omega,by decide,(fun c hc=>by cases hc),by simp,by simp,by simp⟩,trivial,trivial⟩
  ·rw [ap,bj,bB];omega) (by simp) (by rw [aD,aD,aD,aG,aD,aJ];simp) hs (by omega) hd hz).isIn hk (by omega)
theorem BX {l:LT} {x:Except Int Tm} {e:Int} (hx: ∀e,x= .error e->0<e/\e<=1000) (h:dK l x= .error e):e≠0:=afM (fun e h=>by have:=hx e h;omega) h
theorem wV {a b c:Tm} (ha:OkT a) (hb:OkT b) (hc:OkT c) (h:dX [a,b,c]=0):Fm a/\Fm b/\Fm c:=by
 have:=pc (l:=[a,b,c]) (fun x hx=>by
  simp at hx
  rcases hx with rfl|rfl|rfl
  ·exact ha
  ·exact hb
  ·exact hc) h
 exact ⟨this a (by simp),this b (by simp),this c (by simp)⟩

theorem BW {l:LT} {x:Except Int Tm} {e:Int} (hx: ∀e,x= .error e->0<e/\e<=1000) (h:dK l x= .error e):0<e/\e<=1000:=by
 unfold dK at h
 have hs:=afT l
 split at h
 ·unfold ic at h
  rcases dj h with h|⟨t,_,h⟩
  ·exact hx e h
  ·have:=Ej t
   split at h
   ·cases h
   ·rename_i hne;injection h with h;subst h;omega
 ·rename_i hne;injection h with h;subst h;omega
def k1 (b:Br Tm):Tm:=b.kids.getD 1 noT
theorem Fm.gl {t:Tm} (h:Fm t) (hk:t.kind=16):(∀b∈t.sys,b.kids=[aF b,k1 b]/\Fm (aF b)/\Fm (k1 b)/\RX true b.face)/\t.sys.length<=20000/\ ∃a,t.kids=[a]/\Fm a:=by
 have ho:=h.own
 have hall: ∀b∈t.sys,b.kids.length=2:=fun b hb=>by
  obtain ⟨kd,n,nm,r,ks,sys⟩:=t
  have hk:kd=16:=hk
  subst hk
  have ho:(_&&(sys.all (aR 16 24)&&_))=true:=ho
  simp only [af] at ho
  have:=dU.1 ho.2.1 b hb
  grind [aR,fJ]
 refine ⟨fun b hb=> ?_, ?_, ?_⟩
 ·have hl:=hall b hb
  obtain ⟨f,ks⟩:=b
  match ks,hl with
  |[a,c],_=>exact ⟨rfl,h.brk hb (by simp [aF]),h.brk hb (by simp [k1]),h.face hb⟩
 ·have h1:=h.siz
  have h2:=tU t
  have: ∀ {l:LB},(∀b∈l,b.kids.length=2)->l.length<=aJ l:=by
   intro l
   induction l with
   |nil=>simp
   |cons b l ih=>
    intro hl
    have:=ih fun b hb=>hl b (by simp [hb])
    have hb:=hl b (by simp)
    obtain ⟨f,ks⟩:=b
    match ks,hb with
    |a::ks,_=>grind [aJ,js,aD,pb]
  grind
 ·have hn:=h.nk
  rw [hk] at hn
  have e:jJ 16=1:=rfl
  obtain ⟨a,ha⟩:=ab2 (t:=t) (by omega)
  exact ⟨a,ha,h.kid (by grind)⟩
def bY (g:Tm):LB:=g.sys.map fun x=>⟨x.face,[k1 x]⟩
abbrev dC (a:Tm) (es:LB):Tm:= .mk 18 0 aw [] [a] es
abbrev dF:Tm:= .mk 3 0 aw [] [] []
abbrev qQ (u:Tm) (ks:LT):Tm:= .mk u.kind u.n u.name u.r ks u.sys
def ig (es:LB):LB->Except Int (LB)
 |[]=> .ok []
 |x::l=>bE (cG 0 1 (dC dF es)) fun u=>bE (ig es l) fun l'=> .ok (⟨x.face,[qQ u [aF x]]⟩::l')
def iz (b:Tm) (sys:LB):LB->Except Int (LB)
 |[]=> .ok []
 |x::l=>bE (cG 0 1 (k1 x)) fun f=>bE (dK [aF x,b,cE sys] (it (aF x) b sys)) fun w=>bE (iz b sys l) fun l'=> .ok (⟨x.face,[aH 6 [aH 9 [f],w]]⟩::l')
def kR (b:Tm) (sys:LB) (l:LB):LB:=l.map fun x=>⟨x.face,[.mk 15 0 aw [] [aF x,b] sys]⟩
def tl (g b:Tm) (sys l1 l2:LB):Tm:= .mk 17 0 aw [] [.mk 15 0 aw [] [g.kids.getD 0 noT,dC b (bY g)] (l1++l2)] (kR b sys g.sys)
def oQ (t:Tm):Except Int Tm:=
 bE (ig (bY (t.kids.getD 0 noT)) t.sys) fun l1=>bE (iz (t.kids.getD 1 noT) t.sys (t.kids.getD 0 noT).sys) fun l2=> .ok (tl (t.kids.getD 0 noT) (t.kids.getD 1 noT) t.sys l1 l2)
def AL (t:Tm):Tm×Bool×Int:=
 if dl t≠0 then (noT,false,dl t) else
 if t.kind=15/\(t.kids.getD 0 noT).kind=16 then pf (oQ t) else (noT,false,0)
theorem YI {es:LB}: ∀ {l:LB} {e:Int},ig es l= .error e->0<e/\e<=1000:=by
 intro l
 induction l<;>grind [ig,dj,g6]
theorem YK {b:Tm} {sys:LB}: ∀ {l:LB} {e:Int},iz b sys l= .error e->0<e/\e<=1000:=by
 intro l
 induction l<;>grind [iz,dj,g6,BW,Eg]
def gO (n:Nat) (l:LB):Prop:= ∀x∈l,∃t,x.kids=[t]/\Sm n t/\ap t<=299/\av x.face/\x.face.length<1073741824
theorem pK (n:Nat):gO n []:=fun x hx=>by cases hx
theorem rq {n:Nat} {l:LB} {f:LC} {t:Tm} (hf:av f/\f.length<1073741824) (ht:Sm n t) (hd:ap t<=299) (h:gO n l):gO n (⟨f,[t]⟩::l):=fun x hx=>by
 rcases eh.1 hx with rfl|hx
 ·grind
 ·exact h x hx
theorem Dg {n:Nat} {a b:LB} (ha:gO n a) (hb:gO n b):gO n (a++b):=fun x hx=>(eu.1 hx).elim (ha x) (hb x)
def FN (x:Tm):Prop:=Fm x\/x=noT
theorem FN.sm {x:Tm} (h:FN x):Sm 20000 x/\ap x<=200:=by
 rcases h with h|rfl
 ·exact ⟨h.sm,h.dep⟩
 grind [abT,noT,ap,bj,bB]
theorem oA {c:Int} {x:Except Int Tm} (h: ∀t,x= .ok t->Fm t):FN (mM c x).1:=by
 unfold mM
 split
 ·cases x with
  |error e=>exact .inr rfl
  |ok t=>exact .inl (h t rfl)
 ·exact .inr rfl
theorem GP {u a:Tm} (hu:FN u) (ha:Fm a):Sm 50000 (qQ u [a])/\ap (qQ u [a])<=299:=by
 obtain ⟨h1,h2⟩:=hu.sm
 obtain ⟨o1,o2,o3,o4,o5,o6,o7⟩:=h1.ok.no
 have hs:bk u.sys:=by have:=h1.ok;cases u;rw [OkT] at this;exact this.2.2
 have hd:bB u.sys+1<=ap u:=by cases u<;>grind [ap,Tm.sys]
 have hz:aJ u.sys+1<=aG u:=by cases u<;>grind [aG,Tm.sys]
 have:=h1.siz;have:=ha.siz;have:=ha.dep
 refine ⟨⟨?_, ?_, ?_⟩, ?_⟩
 ·rw [OkT,aK,aK];exact ⟨⟨o1,o2,o3,o4,o5,by simp,o7⟩,⟨ha.ok,trivial⟩,hs⟩
 all_goals grind [aG,aD,ap,bj]
theorem tW {kd:Int} (hkd:0<=kd/\kd<=28) {n:Nat} {ks:LT} (h: ∀x∈ks,Sm n x/\ap x<=290) (hl:ks.length<=4):Sm (4*n+1) (aH kd ks)/\ap (aH kd ks)<=291:=by
 have hd:bj ks<=290:=VE fun x hx=>(h x hx).2
 have hz:aD ks<=4*n:=fC (afH fun x hx=>(h x hx).1.siz) (Nat.mul_le_mul_right _ hl)
 unfold aH
 refine ⟨(l6 (kd:=kd) hkd (r:=[]) ⟨(fun c hc=>by cases hc),by simp⟩ (ks:=ks) (sys:=[]) (n:=4*n) (m:=0) (fun x hx=>⟨(h x hx).1.ok,by grind⟩) (by omega) hz (by rw [bk];trivial) (by simp) (by rw [bB];omega) (by rw [aJ];omega)).mono (by omega), ?_⟩
 rw [ap,bB];omega
theorem yD {n:Nat} {l:LB} (h:gO n l):Bs' n l/\bB l<=299:=by
 induction l with
 |nil=>grind [Vf,bB]
 |cons x l ih=>
  obtain ⟨i1,i2⟩:=ih fun x hx=>h x (by simp [hx])
  obtain ⟨t,e,h1,h2,h3,h4⟩:=h x (by simp)
  obtain ⟨f,ks⟩:=x
  have e:ks=[t]:=e
  subst e
  refine ⟨?_, ?_⟩
  ·refine ⟨?_, ?_, ?_⟩
   ·rw [bk,g7,aK,aK];exact ⟨⟨⟨h3,h4,by simp⟩,h1.ok,trivial⟩,i1.ok⟩
   ·rw [aJ,js,aD,aD,er,Nat.succ_mul];have:=i1.siz;have:=h1.siz;omega
   grind [bB,lx,bj]
  grind [bB,lx,bj]
theorem Ec {g:Tm} (fg:Fm g) (hg:g.kind=16):bk (bY g)/\bB (bY g)<=bB g.sys/\aJ (bY g)<=aJ g.sys/\(bY g).length=g.sys.length/\aL false (-1) 24 18 (bY g)=true/\(bY g).all (aR 18 24)=true:=by
 obtain ⟨hx,hl,_⟩:=fg.gl hg
 unfold bY
 generalize g.sys=l at hx
 clear hl
 induction l with
 |nil=>grind [bk,aL]
 |cons x l ih=>
  obtain ⟨i1,i2,i3,i4,i5,i6⟩:=ih fun b hb=>hx b (by simp [hb])
  obtain ⟨q1,q2,q3,q4⟩:=hx x (by simp)
  obtain ⟨f,ks⟩:=x
  have q1:ks=[aF ⟨f,ks⟩,k1 ⟨f,ks⟩]:=q1
  have r1:=g5 q4
  rw [iG]
  refine ⟨?_, ?_, ?_,by simp, ?_, ?_⟩
  ·rw [bk,g7,aK,aK];exact ⟨⟨⟨r1.1,r1.2,by simp⟩,q3.ok,trivial⟩,i1⟩
  ·grind [bB,lx,bj]
  ·grind [aJ,js,aD]
  ·rw [aL,g8,dn,dn,Bool.and_true,af]
   exact ⟨(jm q3.2).2.2,i5⟩
  ·rw [fq,af]
   refine ⟨?_,i6⟩
   unfold aR
   rw [af,af]
   refine ⟨rfl,RFa.right ⟨q4.1,q4.2 rfl⟩, ?_⟩
   rw [jL q4.1]
   exact fun c hc j hj=>by
    have:j<24:=hj.elim (Gf (q4.1.rc hc)) (Ge (q4.1.rc hc))
    omega
theorem uni_ok:OkT dF/\aG dF=1/\ap dF=1:=by
 refine ⟨?_, ?_, ?_⟩
 ·rw [OkT,aK,bk];exact ⟨⟨by unfold aI;omega,by unfold aI;omega,by decide,(fun c hc=>by cases hc),by simp,by simp,by simp⟩,trivial,trivial⟩
 all_goals rfl
theorem agz {g a:Tm} (fg:Fm g) (hg:g.kind=16) (fa:Fm a) (hz:aG a+aJ g.sys+1<=20000) (hd:ap a+1<=200):Fm (dC a (bY g)):=by
 obtain ⟨e1,e2,e3,e4,e5,e6⟩:=Ec fg hg
 obtain ⟨_,hl,_⟩:=fg.gl hg
 have hdg:bB g.sys+1<=ap g:=by cases g<;>grind [ap,Tm.sys]
 have hdd:=fg.dep
 have ho:OkT (dC a (bY g)):=by
  rw [OkT,aK,aK]
  exact ⟨⟨by unfold aI;omega,by unfold aI;omega,by decide,(fun c hc=>by cases hc),by simp,by simp,by omega⟩,⟨fa.ok,trivial⟩,e1⟩
 refine ⟨ho,pX ?_ ?_ ?_⟩
 ·grind [ap,bj]
 ·grind [aG,aD]
 ·rw [aE,e5,bK,bK]
  have e0:cY 18 ((0:Nat):Int)=0:=rfl
  have e7:bJ 18 ((0:Nat):Int)=0:=rfl
  rw [e0,e7,gM,eb,(jm fa.2).2.2]
  have:dS (-1) 24 (dC a (bY g))=true:=by
   show (true&&((bY g).all (aR 18 24)&&true))=true
   grind
  grind
theorem agA:Fm dF:=⟨uni_ok.1,by kernel_rfl⟩
theorem Ae {g:Tm} (fg:Fm g) (hg:g.kind=16):Fm (dC dF (bY g)):=by
 obtain ⟨_,_,a,ha,fa⟩:=fg.gl hg
 have hz:=fg.siz
 have h2:aG g=1+(aG a+0)+aJ g.sys:=by
  obtain ⟨kd,n,nm,r,ks,sys⟩:=g
  have ha:ks=[a]:=ha
  subst ha
  rfl
 grind [pb,agz,agA,uni_ok]
theorem agK {a:Tm} {es:LB} {u:Tm} (h:cG 0 1 (dC a es)= .ok u): ∃a' es',u=dC a' es':=by
 obtain ⟨m,h1,h2⟩:=am h
 have key: ∀ {vb db v d:Int} {x:Tm} {l:LB} {y:Tm},dP vb db v d (dC x l)= .ok y-> ∃x' l',y=dC x' l':=by
  intro vb db v d x l y h
  rw [dP] at h
  split at h
  ·cases h
  obtain ⟨r1,e1,h⟩:=am h
  obtain ⟨ks1,e2,h⟩:=am h
  obtain ⟨sys1,e3,h⟩:=am h
  injection h with h;subst h
  have hr:r1=[]:=List.length_eq_zero_iff.1 (wJ e1 rfl)
  have hk:=Ky e2
  obtain ⟨a',ha⟩: ∃a',ks1=[a']:=by
   match ks1,hk with
   |[a'],_=>simp
  grind
 grind
section
variable {g:Tm}
theorem aeQ (hk:F3 k) (fg:Fm g) (hg:g.kind=16) {x:Br Tm} (hx:x.kids=[aF x]) (c:Int) (J:Br Tm×Int->OS S):
  zn k x (bY g) c J=J (⟨x.face,[qQ (mM c (cG 0 1 (dC dF (bY g)))).1 [aF x]]⟩,(mM c (cG 0 1 (dC dF (bY g)))).2):=by
 have fe:=Ae fg hg
 have hgx:ar x.kids 0=some (aF x):=jI (n:=0) rfl (by grind)
 have hup:cJ 0 1 (dC dF (bY g))=cG 0 1 (dC dF (bY g)):=if_pos fe.2
 simp only [zn,ao hk.fu,aM,eK,na,h_,eX]
 rw [mI hk (fun _=>fe.isIn hk) (by omega) (by omega),hup,hgx]
 rfl
theorem aaC (hk:F3 k) (fg:Fm g) (hg:g.kind=16) (J:LB×Int->OS S) {l:LB} (hx: ∀b∈l,b.kids=[aF b]/\Fm (aF b)/\RX true b.face) (hl:l.length<=20000):
  ∀ (r p acc:LB) (m:Nat) (c:Int),l=p++r->r.length<m->acc.length+r.length<=20000->
   ∃l',sS k J (bY g) l m c (p.length:Int) acc=J (acc++l',ou (tX c (ig (bY g) r)))/\l'.length=r.length/\gO 50000 l'/\ ∀l'',tX c (ig (bY g) r)= .ok l''->l'=l'':=by
 intro r
 induction r with
 |nil=>
  intro p acc m c h hm ha
  obtain ⟨m,rfl,hm'⟩:=ax hm
  refine ⟨[], ?_,rfl,pK _,fun l'' h=> ?_⟩
  ·simp only [sS,xZ,eL h,ak,eN]
   by_cases hc:c=0
   ·subst hc;rfl
   ·rw [lc hc];rfl
  grind [jS,ig,lc]
 |cons x r ih=>
  intro p acc m c h hm ha
  obtain ⟨m,rfl,hm'⟩:=ax hm
  obtain ⟨e1,e2,e3,e4⟩:=bL h (by omega)
  rw [er] at ha
  simp only [sS,xZ,e1,au,e2,bD,ao hk.fu,e3,aeQ hk fg hg (hx x (by grind)).1]
  rw [dm (by grind)]
  obtain ⟨_,x2,x3⟩:=hx x (by grind)
  have hfn:FN (mM c (cG 0 1 (dC dF (bY g)))).1:=oA fun t h=>lh (by omega) (Ae fg hg) h
  obtain ⟨l',h1,h2,hb,h3⟩:=ih (p++[x]) (acc++[⟨x.face,[qQ (mM c (cG 0 1 (dC dF (bY g)))).1 [aF x]]⟩]) m (mM c (cG 0 1 (dC dF (bY g)))).2 e4 hm' (by grind)
  refine ⟨⟨x.face,[qQ (mM c (cG 0 1 (dC dF (bY g)))).1 [aF x]]⟩::l', ?_,by grind,rq (g5 x3) (GP hfn x2).1 (GP hfn x2).2 hb,fun l'' hl''=> ?_⟩
  ·refine h1.trans ?_
   rw [List.append_assoc,List.singleton_append]
   congr 2
   by_cases hc:c=0
   ·subst hc
    rw [qy,jS,ig]
    cases hh:cG 0 1 (dC dF (bY g)) with
    |error e=>
     have he:=g6 hh
     rw [show (tE (.error e)).2=e from rfl,lc (show e≠0 by omega)];rfl
    |ok u=>
     rw [show (tE (.ok u)).2=0 from rfl,jS,bO]
     cases ig (bY g) r<;>rfl
   grind [ti,lc]
  ·by_cases hc:c=0
   ·subst hc
    rw [jS,ig] at hl''
    obtain ⟨u,g1,hl''⟩:=am hl''
    obtain ⟨l2,g2,hl''⟩:=am hl''
    grind [qy,tE,jS]
   grind [lc]
theorem aeR (hk:F3 k) {x:Br Tm} (hx:x.kids=[aF x,k1 x]) (f0:Fm (aF x)) (f1:Fm (k1 x)) {b t:Tm} (fb:Fm b) (ft:Fm t) (c:Int) (J:Br Tm×Int->OS S):
  zo k x b t c J=J (⟨x.face,[aH 6 [aH 9 [(mM c (cG 0 1 (k1 x))).1],(mM (mM c (cG 0 1 (k1 x))).2 (dK [aF x,b,cE t.sys] (it (aF x) b t.sys))).1]]⟩,(mM (mM c (cG 0 1 (k1 x))).2 (dK [aF x,b,cE t.sys] (it (aF x) b t.sys))).2):=by
 have g0:ar x.kids 0=some (aF x):=jI (n:=0) rfl (by grind)
 have g1:ar x.kids 1=some (k1 x):=jI (n:=1) rfl (by grind)
 have hup:cJ 0 1 (k1 x)=cG 0 1 (k1 x):=if_pos f1.2
 simp only [zo,ao hk.fu,aM,eK,m_,eX,g0,g1,bD]
 rw [mI hk (fun _=>f1.isIn hk) (by omega) (by omega),hup,ae2 hk (fun _=>⟨f0.isIn hk,fb.isIn hk,B9 hk ft⟩) (fun e h=>BX (fun e h=>Eg h) h)]
 rfl
theorem aaD (hk:F3 k) {b t:Tm} (fb:Fm b) (ft:Fm t) (J:LB×Int->OS S) {l:LB} (hx: ∀b∈l,b.kids=[aF b,k1 b]/\Fm (aF b)/\Fm (k1 b)/\RX true b.face) (hl:l.length<=20000):
  ∀ (r p acc:LB) (m:Nat) (c:Int),l=p++r->r.length<m->acc.length+r.length<=20000->
   ∃l',sR k J b t l m c (p.length:Int) acc=J (acc++l',ou (tX c (iz b t.sys r)))/\l'.length=r.length/\gO 500000 l'/\ ∀l'',tX c (iz b t.sys r)= .ok l''->l'=l'':=by
 intro r
 induction r with
 |nil=>
  intro p acc m c h hm ha
  obtain ⟨m,rfl,hm'⟩:=ax hm
  refine ⟨[], ?_,rfl,pK _,fun l'' h=> ?_⟩
  ·simp only [sR,xY,eL h,ak,eN]
   by_cases hc:c=0
   ·subst hc;rfl
   ·rw [lc hc];rfl
  grind [jS,iz,lc]
 |cons x r ih=>
  intro p acc m c h hm ha
  obtain ⟨m,rfl,hm'⟩:=ax hm
  obtain ⟨e1,e2,e3,e4⟩:=bL h (by omega)
  rw [er] at ha
  obtain ⟨x1,x2,x3,x4⟩:=hx x (by grind)
  simp only [sR,xY,e1,au,e2,bD,ao hk.fu,aM,e3,aeR hk x1 x2 x3 fb ft]
  rw [dm (by grind)]
  have fA:FN (mM c (cG 0 1 (k1 x))).1:=oA fun t h=>lh (by omega) x3 h
  have fB: ∀c,FN (mM c (dK [aF x,b,cE t.sys] (it (aF x) b t.sys))).1:=fun c=>oA fun w h=>by
   obtain ⟨so,ff,hfe⟩:=qV h
   exact ⟨(Eh hk x2 fb (pm (wV x2.ok fb.ok (B9 hk ft).1 so).2.2) hfe).1.1,ff⟩
  have fB:=fB (mM c (cG 0 1 (k1 x))).2
  generalize hA:mM c (cG 0 1 (k1 x))=A at fA fB ⊢
  generalize hB:mM A.2 (dK [aF x,b,cE t.sys] (it (aF x) b t.sys))=B at fB ⊢
  have q9:=tW (kd:=9) (by omega) (n:=20000) (ks:=[A.1]) (fun x hx=>by simp at hx;subst hx;exact ⟨fA.sm.1,by have:=fA.sm.2;omega⟩) (by simp)
  have q6:=tW (kd:=6) (by omega) (n:=80001) (ks:=[aH 9 [A.1],B.1]) (fun x hx=>by
   simp at hx
   rcases hx with rfl|rfl
   ·refine ⟨q9.1, ?_⟩
    unfold aH;rw [ap,bj,bj,bB];have:=fA.sm.2;omega
   ·exact ⟨fB.sm.1.mono (by omega),by have:=fB.sm.2;omega⟩) (by simp)
  obtain ⟨l',h1,h2,hb,h3⟩:=ih (p++[x]) (acc++[⟨x.face,[aH 6 [aH 9 [A.1],B.1]]⟩]) m B.2 e4 hm' (by grind)
  refine ⟨⟨x.face,[aH 6 [aH 9 [A.1],B.1]]⟩::l', ?_,by grind,rq (g5 x4) (q6.1.mono (by omega)) (by omega) hb,fun l'' hl''=> ?_⟩
  ·refine h1.trans ?_
   rw [List.append_assoc,List.singleton_append]
   congr 2
   subst hB;subst hA
   by_cases hc:c=0
   ·subst hc
    rw [qy,jS,iz]
    cases hh:cG 0 1 (k1 x) with
    |error e=>
     have he:=g6 hh
     rw [show (tE (.error e)).2=e from rfl,ti (show e≠0 by omega),lc (show e≠0 by omega)];rfl
    |ok u=>
     rw [show (tE (.ok u)).2=0 from rfl,qy,bO]
     cases hw:dK [aF x,b,cE t.sys] (it (aF x) b t.sys) with
     |error e=>
      have he:=BX (fun e h=>Eg h) hw
      rw [show (tE (.error e)).2=e from rfl,lc he];rfl
     |ok w=>
      rw [show (tE (.ok w)).2=0 from rfl,jS,bO]
      cases iz b t.sys r<;>rfl
   grind [ti,lc]
  ·by_cases hc:c=0
   ·subst hc
    rw [jS,iz] at hl''
    obtain ⟨u,g1,hl''⟩:=am hl''
    obtain ⟨w,g2,hl''⟩:=am hl''
    obtain ⟨l2,g3,hl''⟩:=am hl''
    grind [qy,tE,jS]
   grind [lc]
end
theorem EO (hk:F3 k) (J:LB->OS S) {l:LB} (hx: ∀b∈l,b.kids=[aF b,k1 b]) (hl:l.length<=20000):
  ∀ (r p acc:LB) (m:Nat),l=p++r->r.length<m->acc.length+r.length<=20000->
   sV k J l m (p.length:Int) acc=J (acc++r.map fun x=>⟨x.face,[k1 x]⟩):=by
 intro r
 induction r with
 |nil=>
  intro p acc m h hm ha
  obtain ⟨m,rfl,hm'⟩:=ax hm
  grind [sV,ya,ak]
 |cons x r ih=>
  intro p acc m h hm ha
  obtain ⟨m,rfl,hm'⟩:=ax hm
  obtain ⟨e1,e2,e3,e4⟩:=bL h (by omega)
  rw [er] at ha
  have g1:ar x.kids 1=some (k1 x):=jI (n:=1) rfl (by grind)
  simp only [sV,ya,e1,au,e2,bD,ao hk.fu,e3,DO,g1,aM,eX]
  grind [dm]
theorem aaE (hk:F3 k) (J:LB->OS S) {b t:Tm} {l:LB} (hx: ∀b∈l,b.kids=[aF b,k1 b]) (hl:l.length<=20000):
  ∀ (r p acc:LB) (m:Nat),l=p++r->r.length<m->acc.length+r.length<=20000->
   sQ k J t b l m (p.length:Int) acc=J (acc++kR b t.sys r):=by
 intro r
 induction r with
 |nil=>
  intro p acc m h hm ha
  obtain ⟨m,rfl,hm'⟩:=ax hm
  grind [sQ,xX,ak,kR]
 |cons x r ih=>
  intro p acc m h hm ha
  obtain ⟨m,rfl,hm'⟩:=ax hm
  obtain ⟨e1,e2,e3,e4⟩:=bL h (by omega)
  rw [er] at ha
  have g0:ar x.kids 0=some (aF x):=jI (n:=0) rfl (by grind)
  simp only [sQ,xX,e1,au,e2,bD,ao hk.fu,e3,DK,g0,aM,eX,h_]
  rw [dm (by grind),ih (p++[x]) _ m e4 hm' (by grind),List.append_assoc];rfl
theorem afL {t x b:Tm} (ft:Fm t) (fx:Fm x) (fb:Fm b):Sm 60001 (.mk 15 0 aw [] [x,b] t.sys)/\ap (.mk 15 0 aw [] [x,b] t.sys)<=299:=by
 obtain ⟨o1,o2,o3,o4,o5,o6,o7⟩:=ft.ok.no
 have hs:bk t.sys:=by have:=ft.ok;cases t;rw [OkT] at this;exact this.2.2
 have hd:bB t.sys+1<=ap t:=by cases t<;>grind [ap,Tm.sys]
 have hz:aJ t.sys+1<=aG t:=by cases t<;>grind [aG,Tm.sys]
 have:=ft.siz;have:=ft.dep;have:=fx.siz;have:=fx.dep;have:=fb.siz;have:=fb.dep
 refine ⟨(l6 (kd:=15) (by omega) (r:=[]) ⟨(fun c hc=>by cases hc),by simp⟩ (ks:=[x,b]) (sys:=t.sys) (n:=40000) (m:=20000) (fun y hy=>by
  simp at hy
  rcases hy with rfl|rfl
  ·exact ⟨fx.ok,by omega⟩
  ·exact ⟨fb.ok,by omega⟩) (by simp) (by grind [aD]) hs o7 (by omega) (by omega)), ?_⟩
 grind [ap,bj]
theorem YL {t b:Tm} (ft:Fm t) (fb:Fm b): ∀ {l:LB},(∀b∈l,Fm (aF b)/\RX true b.face)->gO 60001 (kR b t.sys l):=by
 intro l
 induction l with
 |nil=>intro _;exact pK _
 |cons x l ih=>
  intro h
  obtain ⟨h1,h2⟩:=h x (by simp)
  have q:=afL ft h1 fb
  exact rq (g5 h2) q.1 q.2 (ih fun x hx=>h x (by simp [hx]))
theorem LQ (hk:F3 k) {t g b a:Tm} {l1 l2:LB} (ft:Fm t) (fg:Fm g) (hg:g.kind=16) (ha:g.kids.getD 0 noT=a) (fa:Fm a) (fb:Fm b) (h1:gO 50000 l1) (n1:l1.length<=20000) (h2:gO 500000 l2) (n2:l2.length<=20000):In k (tl g b t.sys l1 l2):=by
 obtain ⟨hx,hl,_⟩:=fg.gl hg
 obtain ⟨e1,e2,e3,e4,_,_⟩:=Ec fg hg
 have hdg:bB g.sys+1<=ap g:=by cases g<;>grind [ap,Tm.sys]
 have hzg:aJ g.sys+1<=aG g:=by cases g<;>grind [aG,Tm.sys]
 have:=fg.dep;have:=fg.siz
 have bd:=fb.dep;have bz:=fb.siz;have ad:=fa.dep;have az:=fa.siz
 have u1:Sm 40001 (dC b (bY g))/\ap (dC b (bY g))<=202:=by
  refine ⟨l6 (kd:=18) (by omega) (r:=[]) ⟨(fun c hc=>by cases hc),by simp⟩ (ks:=[b]) (sys:=bY g) (n:=20000) (m:=20000) (fun y hy=>by simp at hy;subst hy;exact ⟨fb.ok,by omega⟩) (by simp) (by grind [aD]) e1 (by omega) (by omega) (by omega), ?_⟩
  grind [ap,bj]
 obtain ⟨b1,b2⟩:=yD (n:=500000) (Dg (fun x hx=>by obtain ⟨t,q1,q2,q3⟩:=h1 x hx;exact ⟨t,q1,q2.mono (by omega),q3⟩) h2)
 have hz:aJ (l1++l2)<=40000*500000:=fC b1.siz (Nat.mul_le_mul_right _ (by grind))
 have h15:=l6 (kd:=15) (by omega) (r:=[]) ⟨(fun c hc=>by cases hc),by simp⟩ (ks:=[a,dC b (bY g)]) (sys:=l1++l2) (n:=60001) (m:=40000*500000) (fun y hy=>by
  simp at hy
  rcases hy with rfl|rfl
  ·exact ⟨fa.ok,by omega⟩
  ·exact ⟨u1.1.ok,by omega⟩) (by simp) (by rw [aD,aD,aD];have:=u1.1.siz;omega) b1.ok (by grind) b2 hz
 obtain ⟨c1,c2⟩:=yD (YL ft fb (l:=g.sys) fun x hx'=>⟨(hx x hx').2.1,(hx x hx').2.2.2⟩)
 have hlen:(kR b t.sys g.sys).length=g.sys.length:=by grind [kR]
 have hz3:aJ (kR b t.sys g.sys)<=20000*60001:=fC c1.siz (Nat.mul_le_mul_right _ (by omega))
 unfold tl
 rw [ha]
 have hd15:ap (.mk 15 0 aw [] [a,dC b (bY g)] (l1++l2))<=300:=h15.dep
 refine ⟨?_,hk.fd ?_, ?_⟩
 ·rw [OkT,aK,aK]
  exact ⟨⟨by unfold aI;omega,by unfold aI;omega,by decide,(fun c hc=>by cases hc),by simp,by simp,by omega⟩,⟨h15.ok,trivial⟩,c1.ok⟩
 all_goals grind [ap,bj,aG,aD]
theorem aeP (hk:F3 k) {t:Tm} (ht:In k t) (J:Tm×Bool×Int->OS S):u5 k t J=J (AL t):=by
 have hfu:4294968296<=k:=hk
 simp only [u5,ao hk.fu,aM,lY ht.1 ht.2.1 ht.dep]
 unfold AL
 by_cases h0:dl t=0
 case neg=>rw [mb h0,ef,au,if_pos h0];rfl
 rw [h0,show (!((0:Int)==0))=false from rfl,ak,if_neg (by simp)]
 have ft:Fm t:=⟨ht.1,h0⟩
 by_cases h15:t.kind=15
 case neg=>rw [beq_false_of_ne h15,ef,au,if_neg (fun h=>h15 h.1)];rfl
 rw [h15,show (!((15:Int)==15))=false from rfl,ak]
 obtain ⟨g,b,hkd⟩:=t6 (sn ft h15 (n:=2) rfl)
 obtain ⟨g0,g1⟩:=Ap hkd
 obtain ⟨d0,d1⟩:=r_ hkd
 have fg:Fm g:=ft.kid (by grind)
 have fb:Fm b:=ft.kid (by grind)
 obtain ⟨sy,syl⟩:=ft.sy h15
 rw [g0,bD,d0]
 by_cases h16:g.kind=16
 case neg=>rw [beq_false_of_ne h16,ef,au,if_neg (fun h=>h16 h.2)];rfl
 rw [h16,show (!((16:Int)==16))=false from rfl,ak,oY t ht.1 _ ht.2.1,g0,bD,g1,bD,bD,if_pos ⟨rfl,rfl⟩]
 obtain ⟨hx,hl,a,hak,fa⟩:=fg.gl h16
 have ga:ar g.kids 0=some a:=jI (n:=0) rfl (by grind)
 have had:g.kids.getD 0 noT=a:=by grind
 have hes: ∀q:LB->OS S,pP k g q=q (bY g):=fun q=>by
  simp only [pP,ao hk.fu,zu,B1]
  exact EO hk q (fun b hb=>(hx b hb).1) hl g.sys [] [] k rfl (by omega) (by grind)
 rw [hes]
 obtain ⟨l1,i1,i2,i3,i4⟩:=aaC hk fg h16 (fun r8=>DN k g.sys b t r8.2 fun r9=>ag (bH 1099511627776 r8.1.length r9.1.length) fun x10=>ag (ar g.kids 0) fun x11=>na k b (bY g) fun r12=>h_ k 15 (r8.1++r9.1) [x11,(Tm.mk r12.1 r12.2.1 r12.2.2.1 [] r12.2.2.2.1 r12.2.2.2.2)] fun r13=>va k g.sys t b fun r14=>h_ k 17 r14 [(Tm.mk r13.1 r13.2.1 r13.2.2.1 [] r13.2.2.2.1 r13.2.2.2.2)] fun r15=>mi k (Tm.mk r15.1 r15.2.1 r15.2.2.1 [] r15.2.2.2.1 r15.2.2.2.2) r9.2 fun r16=>J (r16.1,r16.2.1,r16.2.2.1)) (l:=t.sys) sy syl t.sys [] [] k 0 rfl (by omega) (by grind)
 refine aq (b:=_) ?_ (i1.trans ?_)
 ·rfl
 rw [eF,jS]
 rw [jS] at i4
 obtain ⟨l2,j1,j2,j3,j4⟩:=aaD hk fb ft (fun r9=>ag (bH 1099511627776 l1.length r9.1.length) fun x10=>ag (ar g.kids 0) fun x11=>na k b (bY g) fun r12=>h_ k 15 (l1++r9.1) [x11,(Tm.mk r12.1 r12.2.1 r12.2.2.1 [] r12.2.2.2.1 r12.2.2.2.2)] fun r13=>va k g.sys t b fun r14=>h_ k 17 r14 [(Tm.mk r13.1 r13.2.1 r13.2.2.1 [] r13.2.2.2.1 r13.2.2.2.2)] fun r15=>mi k (Tm.mk r15.1 r15.2.1 r15.2.2.1 [] r15.2.2.2.1 r15.2.2.2.2) r9.2 fun r16=>J (r16.1,r16.2.1,r16.2.2.1)) (l:=g.sys) hx hl g.sys [] [] k (ou (ig (bY g) t.sys)) rfl (by omega) (by grind)
 refine aq (b:=_) ?_ (j1.trans ?_)
 ·rfl
 rw [eF]
 dsimp only
 rw [dm (by omega),ga,bD]
 simp only [na,h_,ao hk.fu,aM,va,Hm]
 have hin:=LQ hk ft fg h16 had fa fb i3 (by omega) j3 (by omega)
 have h3:=fun q:LB->OS S=>aaE hk q (b:=b) (t:=t) (fun b hb=>(hx b hb).1) hl g.sys [] [] k rfl (by omega) (by grind)
 refine (h3 _).trans ?_
 rw [eF]
 rw [show (Tm.mk 17 0 aw [] [Tm.mk 15 0 aw [] [a,Tm.mk 18 0 aw [] [b] (bY g)] (l1++l2)] (kR b t.sys g.sys))=tl g b t.sys l1 l2 from by grind [tl],aeY hk hin]
 unfold oQ
 rw [d0,d1]
 cases q1:ig (bY g) t.sys with
 |error e=>
  have he:=YI q1
  rw [show ou (.error e:Except Int (LB))=e from rfl,lc (show e≠0 by omega),rf]
  exact IL (show e≠0 by omega) J
 |ok m1=>
  have:=i4 m1 q1
  subst this
  rw [show ou (.ok l1:Except Int (LB))=0 from rfl,jS,bO]
  rw [q1,show ou (.ok l1:Except Int (LB))=0 from rfl,jS] at j4
  cases q2:iz b t.sys g.sys with
  |error e=>
   have he:=YK q2
   rw [show ou (.error e:Except Int (LB))=e from rfl,rf]
   exact IL (show e≠0 by omega) J
  |ok m2=>
   simp_all [ou,bO,VC]
section
variable {x1 x2:Int} {x3:BA} {x4:LC} {x5:LT} {x6 sys:LB}
end
theorem afK {x y:Tm} {l:LB} {n m:Nat} (hx:Sm n x) (hy:Sm n y) (dx:ap x<=290) (dy:ap y<=290) (hn:n<=1000000) (hb:gO m l) (hm:m<=1000000) (hl:l.length<=40000):Sm 50000000000 (.mk 15 0 aw [] [x,y] l):=by
 obtain ⟨b1,b2⟩:=yD hb
 have hz:aJ l<=40000*1000000:=fC b1.siz (Nat.mul_le_mul hl hm)
 exact (l6 (kd:=15) (by omega) (r:=[]) ⟨(fun c hc=>by cases hc),by simp⟩ (ks:=[x,y]) (sys:=l) (n:=2000000) (m:=40000*1000000) (fun z hz=>by
  simp at hz
  rcases hz with rfl|rfl
  ·exact ⟨hx.ok,by omega⟩
  ·exact ⟨hy.ok,by omega⟩) (by simp) (by rw [aD,aD,aD];have:=hx.siz;have:=hy.siz;omega) b1.ok (by omega) b2 hz).mono (by omega)
section
variable {x1 x2:Int} {x3:BA} {x4:LC} {x5:LT} {x6 sys:LB}
end
def parts (kd:Int) (sys:LB):LB:=sys.map fun x=>⟨x.face,[aH kd [aF x]]⟩
theorem afJ {kd:Int} (hkd:0<=kd/\kd<=28) {a:Tm} (fa:FN a):Sm 80001 (aH kd [a])/\ap (aH kd [a])<=201:=by
 have h:=tW (kd:=kd) hkd (n:=20000) (ks:=[a]) (fun x hx=>by simp at hx;subst hx;exact ⟨fa.sm.1,by have:=fa.sm.2;omega⟩) (by simp)
 refine ⟨h.1, ?_⟩
 unfold aH;rw [ap,bj,bj,bB];have:=fa.sm.2;omega
section
variable {x1 x2:Int} {x3:BA} {x4:LC} {x5:LT} {x6 sys:LB}
theorem X_ (hk:F3 k) {l a:Tm} {s:LB} (hl:In k l) (ha:In k a) (hs:In k (cE s)) (c:Int):FN (mM c (dK [l,a,cE s] (jh l a s))).1:=oA fun t h=>by
 obtain ⟨so,ff,hx⟩:=qV h
 obtain ⟨f1,f2,f3⟩:=wV hl.1 ha.1 hs.1 so
 exact ⟨(Dp hk f1 f2 (pm f3) hx).1.1,ff⟩
end
abbrev tu (r:LC) (u lo hi:Tm):Tm:= .mk 13 0 aw r [u,lo,hi] []
theorem Ma {a b:Int} (ha:0<=a/\a<4294967296) (hb:0<=b/\b<4294967296):av [⟨a,b⟩]/\[(⟨a,b⟩:Cl)].length<1073741824:=⟨fun c hc=>by rw [List.mem_singleton] at hc;subst hc;exact ⟨ha,hb⟩,by simp⟩
section
variable {x1 x2:Int} {x3:BA} {x4:LC} {x5:LT} {x6 sys:LB}
end
section
variable {x1 x2:Int} {x3:BA} {x4:LC} {x5:LT} {x6 sys:LB}
end
theorem Uz (hk:F3 k) {line a y:Tm} {phi r:LC} {en:Cl} (hl:OkT line) (ha:OkT a) (hp:RF phi) (he:cH en) (hr:RF r) (h:g9 line phi a en r= .ok y):Fm y:=by
 unfold g9 at h
 split at h
 case isFalse=>cases h
 rename_i so
 split at h
 case isFalse=>cases h
 unfold ic at h
 obtain ⟨z,h1,h⟩:=am h
 split at h
 case isFalse=>cases h
 rename_i f0
 injection h with h;subst h
 have:=pc (l:=[line,a]) (fun x hx=>by
  grind) so
 exact ⟨(Ih hk (this line (by simp)) (this a (by simp)) hp he h1).1.1,f0⟩
theorem UA {line a:Tm} {phi r:LC} {en:Cl} {e:Int} (h:g9 line phi a en r= .error e):e≠0:=CY h
section
variable {phi:LC} {x1 x2:Int} {x3:BA} {x4:LC} {x5:LT} {x6:LB}
theorem afg (hk:F3 k) {l a:Tm} {c:Int} (hl:In k l) (ha:In k a) (hp:av phi/\phi.length<1073741824) (J:Tm×Int->OS S):zI k l phi a c J=J (mM c (g9 l phi a ⟨0,1⟩ [⟨3,0⟩])):=by
 simp only [zI,ao hk.fu,fE,aM,nP]
 exact tn c (fun h g=>aer hk hl ha hp.1 hp.2 g) (fun e h=>UA h) J
end
set_option maxRecDepth 100000

set_option maxRecDepth 20000
def Q2 (x:Tm):Prop:=Sm 20000 x/\ap x<=200
theorem Q2.isIn {x:Tm} (h:Q2 x) (hk:F3 k):In k x:=h.1.isIn hk (by omega)
theorem Fm.q2 {x:Tm} (h:Fm x):Q2 x:=⟨h.sm,h.dep⟩
theorem Mt:Q2 noT:=(FN.sm (.inr rfl))
theorem acY {c:Int} {x:Except Int Tm} (h: ∀t,x= .ok t->Q2 t):Q2 (mM c x).1:=by
 unfold mM
 split
 ·cases x with
  |error e=>exact Mt
  |ok t=>exact h t rfl
 ·exact Mt
theorem jp {c:Int} {x:Except Int Tm} (hx: ∀e,x= .error e->0<e/\e<=1000) (h:(mM c x).2=0):c=0/\ ∃y,x= .ok y/\(mM c x).1=y:=by
 by_cases hc:c=0
 ·subst hc
  rw [qy] at h ⊢
  cases x with
  |error e=>have:=hx e rfl;have:e=0:=h;omega
  |ok y=>exact ⟨rfl,y,rfl,rfl⟩
 ·rw [ti hc] at h;exact absurd h hc
theorem Al {t y:Tm} {x:Except Int Tm} (h:oy t x= .ok y):dl t=0/\x= .ok y:=by
 unfold oy at h
 split at h
 ·rename_i h0;exact ⟨h0,h⟩
 ·cases h
theorem qX {a b:Int} {t y:Tm} (ht:OkT t) (h:cJ a b t= .ok y):Fm t/\cG a b t= .ok y:=⟨⟨ht,(Al h).1⟩,(Al h).2⟩
theorem tY {i:Int} {r:LC} {t y:Tm} (ht:OkT t) (h:bX i r t= .ok y):Fm t/\eS i r t= .ok y:=⟨⟨ht,(Al h).1⟩,(Al h).2⟩
theorem agj {r:LC} {t y:Tm} (ht:OkT t) (h:bX 0 r t= .ok y):Q2 y:=by
 obtain ⟨h1,h2⟩:=tY ht h
 obtain ⟨q1,q2,q3⟩:=HI h1 h2
 exact ⟨⟨q1,q3,by omega⟩,q2⟩
theorem UB (hk:F3 k) {line a y:Tm} {phi r:LC} {en:Cl} (hl:OkT line) (ha:OkT a) (hp:RF phi) (he:cH en) (hr:RF r) (h:g9 line phi a en r= .ok y):Q2 y:=(Uz hk hl ha hp he hr h).q2
theorem ad1:RF []:=jq
section
variable {phi:LC} {x1 x2:Int} {x3:BA} {x4:LC} {x5:LT} {x6:LB}
end
theorem L_:cH ⟨0,1⟩:=⟨⟨by decide,by decide⟩,⟨by decide,by decide⟩⟩
section
variable {phi:LC} {x1 x2:Int} {x3:BA} {x4:LC} {x5:LT} {x6:LB}
end
end Go.Proofs.YtgajalidbabccaaGreatDoor
