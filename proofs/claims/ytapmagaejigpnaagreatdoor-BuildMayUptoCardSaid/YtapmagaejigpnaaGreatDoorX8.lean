/- BuildMay answers true at every input of bulk at most 1048576, and leaves its arguments as they were: the second form's card. -/
import Derived.Test.YtapmagaejigpnaaGreatDoorX7
import Derived.KernelRfl
namespace Go.Proofs.YtapmagaejigpnaaGreatDoor
open Go PI
set_option linter.unusedVariables false
set_option linter.unusedSimpArgs false
set_option maxRecDepth 20000
section
variable {vb db kd:Int}
theorem Lu: ∀ {l l':List Tm} {i:Nat} {v d:Int},(∀x∈l,∀ {v d:Int} {t':Tm},bH vb db v d x= .ok t'→aD t'=aD x)→dg vb db v d kd i l= .ok l'→bV kd i l'=bV kd i l:=by
 intro l
 induction l<;>grind [dg,bV,→ah]
theorem Lv: ∀ {l l':List Tm} {v d:Int},(∀x∈l,∀ {v d:Int} {t':Tm},bH vb db v d x= .ok t'→aD t'=aD x)→dh vb db v d kd l= .ok l'→cD l'=cD l:=by
 intro l
 induction l<;>grind [dh,cD,→ah]
theorem Lw: ∀ {l l':List (Br Tm)} {v d:Int},(∀b∈l,∀x∈b.kids,∀ {v d:Int} {t':Tm},bH vb db v d x= .ok t'→aD t'=aD x)→cu vb db v d kd l= .ok l'→co l'=co l:=by
 intro l
 induction l with
 |nil=>grind [cu]
 |cons b l ih=>
  intro l' v d h hl
  rw [cu] at hl
  obtain ⟨b',e1,hl⟩:=ah hl
  obtain ⟨m,e2,hl⟩:=ah hl
  injection hl with hl;subst hl
  obtain ⟨f,ks⟩:=b
  rw [jy] at e1
  obtain ⟨f',e3,e1⟩:=ah e1
  obtain ⟨ks',e4,e1⟩:=ah e1
  injection e1 with e1;subst e1
  rw [co,co,iM,iM,ih (fun b hb=>h b (by simp [hb])) e2,Lv (h ⟨f,ks⟩ (by simp)) e4]
theorem vg (t:Tm): ∀ {v d:Int} {t':Tm},bH vb db v d t= .ok t'→aD t'=aD t:=by
 induction t using eW with
 |h kd n nm r ks sys ih1 ih2=>
  intro v d t' h
  rw [bH] at h
  split at h
  ·cases h
  obtain ⟨r1,e1,h⟩:=ah h
  obtain ⟨ks1,e2,h⟩:=ah h
  obtain ⟨sys1,e3,h⟩:=ah h
  injection h with h;subst h
  rw [aD,aD,Lu ih1 e2,Lw ih2 e3]
end
theorem nM {a b:Int} {t t':Tm} (h:bw a b t= .ok t'):aD t'=aD t:=by
 obtain ⟨m,h1,h2⟩:=ah h
 rw [vg m h2,vg t h1]
end Go.Proofs.YtapmagaejigpnaaGreatDoor
namespace Go.Proofs.YtapmagaejigpnaaGreatDoor
open Go PI
set_option maxRecDepth 100000
theorem UX {S:Type} (q:Nat) (ret:Bool→Option S):rT (q+400) ret=ret true:=by kernel_rfl
end Go.Proofs.YtapmagaejigpnaaGreatDoor
namespace Go.Proofs.YtapmagaejigpnaaGreatDoor
open Go PI
set_option linter.unusedVariables false
set_option linter.unusedSimpArgs false
set_option maxRecDepth 20000
variable {S:Type} {k:Nat}
theorem TI (hk:F3 k) (ret:Bool→Option S):rT k ret=ret true:=by
 obtain ⟨q,rfl⟩: ∃q,k=q+400:=⟨k-400,by have:4294968296≤k:=hk;omega⟩
 exact UX q ret
theorem E7:RF [⟨3,0⟩]:=fw ⟨⟨by decide,by decide⟩,by decide,by decide⟩
theorem SL:RF [⟨0,1⟩,⟨2,0⟩]:=by
 refine ⟨by rfl,fun c hc=> ?_⟩
 simp only [List.mem_cons,List.not_mem_nil,or_false] at hc
 rcases hc with rfl|rfl
 ·exact ⟨⟨by decide,by decide⟩,by decide,by decide⟩
 ·exact ⟨⟨by decide,by decide⟩,by decide,by decide⟩
theorem ti:a_ ⟨0,1⟩:=⟨⟨by decide,by decide⟩,by decide,by decide⟩
theorem tj:a_ ⟨1,0⟩:=⟨⟨by decide,by decide⟩,by decide,by decide⟩
theorem S9 (hk:F3 k) {line a:Tm} {phi:List Cl} (hl:In k line) (ha:In k a) (hp:al phi) (hpl:phi.length<1073741824) (ret:Tm×Int→Option S):nR k line phi a ret=ret (tE (iJ line phi a ⟨0,1⟩ [⟨3,0⟩])):=by
 simp only [nR,Gp,aj hk.fu,aF,FH hk hl ha hp hpl ti E7]
theorem SY (hk:F3 k) {line a:Tm} {phi:List Cl} (hl:In k line) (ha:In k a) (hp:al phi) (hpl:phi.length<1073741824) (ret:Tm×Int→Option S):rk k line phi a ret=ret (tE (iJ line phi a ⟨1,0⟩ [⟨0,1⟩,⟨2,0⟩])):=by
 simp only [rk,Gl,aj hk.fu,aF,FH hk hl ha hp hpl tj SL]
theorem Q3:OkT aB:=by
 unfold aB
 rw [OkT,aR,aX]
 exact ⟨⟨by unfold aA;omega,by unfold aA;omega,by show 0<_;omega,fun c hc=>(by cases hc),by simp,by simp,by simp⟩,trivial,trivial⟩
theorem Q2 (hk:F3 k):In k aB:=⟨Q3,hk.fd (by unfold aB;rw [aq,aJ,ba];omega),by unfold aB;rw [ax,ar,ay];omega⟩
end Go.Proofs.YtapmagaejigpnaaGreatDoor
namespace Go.Proofs.YtapmagaejigpnaaGreatDoor
open Go PI
set_option linter.unusedVariables false
set_option linter.unusedSimpArgs false
set_option maxRecDepth 20000
variable {S:Type} {k:Nat}
def xe (sys:List (Br Tm)):Bool:=sys.any fun b=>(b.face.length:Int)==0
mutual
def kN:Tm→Bool
 | .mk _ _ _ _ ks sys=> !xe sys&&(kO ks&&tp sys)
def kO:List Tm→Bool
 |[]=>true
 |t::l=>kN t&&kO l
def tp:List (Br Tm)→Bool
 |[]=>true
 |b::l=>Dl b&&tp l
def Dl:Br Tm→Bool
 | .mk _ ks=>kO ks
end
section
variable {hd:Tm→(Bool→Option S)→Option S} {t:Tm}
end
theorem Fz {f:List Cl} (hf:al f) (h:bB f=true):RX true f:=by
 have:=(eu hf).1 h
 exact ⟨this.1,fun _=>this.2⟩
theorem RO {vars dims kd n nm r ks sys} (hok:OkT (.mk kd n nm r ks sys)) (h:cJ vars dims (.mk kd n nm r ks sys)=true):RX (decide (kd=14)) r∧ ∀b∈sys,RX true b.face:=by
 obtain ⟨o1,o2,o3,o4,o5,o6,o7⟩:=hok.node
 unfold cJ at h
 simp only [Bool.and_eq_true,decide_eq_true_eq] at h
 obtain ⟨⟨a1,a2,a3,a4⟩,a5⟩:=h
 have r0:r.length=0→RX (decide (kd=14)) r:=fun h=>by
  have:=List.length_eq_zero_iff.1 h;subst this;exact ⟨pw,fun _ c hc=>by cases hc⟩
 have nosys:dr kd=0→ ∀b∈sys,RX true b.face:=fun h=>by
  have:=List.length_eq_zero_iff.1 (a4 h);subst this;exact fun b hb=>by cases hb
 split at a5
 ·rename_i c
  simp only [Bool.and_eq_true,decide_eq_true_eq] at a5
  exact ⟨r0 a5.1,nosys (by subst c;decide)⟩
 split at a5
 ·rename_i c
  simp only [Bool.and_eq_true,decide_eq_true_eq] at a5
  exact ⟨r0 a5.1,nosys (by subst c;decide)⟩
 split at a5
 ·rename_i c
  rw [Bool.and_eq_true] at a5
  exact ⟨⟨(gM o4).1 a5.1,fun h=>by rcases c with rfl|rfl|rfl<;>cases h⟩,nosys (by rcases c with rfl|rfl|rfl<;>decide)⟩
 split at a5
 ·rename_i c
  rw [Bool.and_eq_true] at a5
  subst c
  exact ⟨Fz o4 a5.1,nosys (by decide)⟩
 ·simp only [Bool.and_eq_true,decide_eq_true_eq] at a5
  refine ⟨r0 a5.2,fun b hb=> ?_⟩
  have:=List.all_eq_true.1 a5.1 b hb
  unfold bJ at this
  simp only [Bool.and_eq_true] at this
  exact Fz (hok.br hb).1.1 this.2.1
theorem Lg {bd pl:Bool} (t:Tm): ∀ {vars dims:Int},OkT t→az bd vars dims t=true→(pl=true→kN t=true)→jV pl t:=by
 induction t using eW with
 |h kd n nm r ks sys ih1 ih2=>
  intro vars dims hok h hp
  rw [az,Bool.and_eq_true,Bool.and_eq_true,Bool.and_eq_true] at h
  obtain ⟨_,a,b,c⟩:=h
  obtain ⟨hr,hb⟩:=RO hok a
  have hok':=hok
  rw [OkT] at hok'
  obtain ⟨_,ok,os⟩:=hok'
  rw [kN] at hp
  simp only [Bool.and_eq_true,Bool.not_eq_true'] at hp
  have hk: ∀ {l:List Tm} {i:Nat},(∀x∈l,∀ {vars dims:Int},OkT x→az bd vars dims x=true→(pl=true→kN x=true)→jV pl x)→aR l→bt bd vars dims kd i l=true→(pl=true→kO l=true)→jU pl l:=by
   intro l
   induction l<;>grind [bt,jU,kO,aR]
  have hm: ∀ {l:List Tm},(∀x∈l,∀ {vars dims:Int},OkT x→az bd vars dims x=true→(pl=true→kN x=true)→jV pl x)→aR l→b8 bd vars dims kd l=true→(pl=true→kO l=true)→jU pl l:=by
   intro l
   induction l<;>grind [b8,jU,kO,aR]
  have hs: ∀ {l:List (Br Tm)},(∀b∈l,∀x∈b.kids,∀ {vars dims:Int},OkT x→az bd vars dims x=true→(pl=true→kN x=true)→jV pl x)→aX l→(∀b∈l,RX true b.face)→bg bd vars dims kd l=true→(pl=true→xe l=false∧tp l=true)→nn pl l:=by
   intro l
   induction l with
   |nil=>intro _ _ _ _ _;rw [nn];trivial
   |cons b l ih=>
    intro h1 h2 h3 h4 h5
    obtain ⟨f,ks'⟩:=b
    rw [aX] at h2
    rw [eY] at h2
    rw [bg,eZ,Bool.and_eq_true] at h4
    rw [xe,List.any_cons,Bool.or_eq_false_iff,tp,Dl,Bool.and_eq_true] at h5
    rw [nn,zU]
    refine ⟨⟨⟨h3 ⟨f,ks'⟩ (by simp),fun e he=> ?_⟩,hm (h1 ⟨f,ks'⟩ (by simp)) h2.1.2 h4.1 fun e=>(h5 e).2.1⟩,ih (fun b hb=>h1 b (by simp [hb])) h2.2 (fun b hb=>h3 b (by simp [hb])) h4.2 fun e=>⟨(h5 e).1.2,(h5 e).2.2⟩⟩
    have h6:=(h5 e).1.1
    subst he
    cases h6
  rw [jV]
  exact ⟨hr,hk ih1 ok b fun e=>(hp e).2.1,hs ih2 os hb c fun e=>⟨(hp e).1,(hp e).2.2⟩⟩
theorem Fm.pl {t:Tm} {pl:Bool} (h:Fm t) (hp:pl=true→kN t=true):jV pl t:=by
 have:=h.2
 unfold cr at this
 split at this
 ·cases this
 split at this
 ·cases this
 split at this
 ·rename_i h3;exact Lg t h.1 h3 hp
 ·cases this
end Go.Proofs.YtapmagaejigpnaaGreatDoor
namespace Go.Proofs.YtapmagaejigpnaaGreatDoor
open Go PI
set_option linter.unusedVariables false
set_option linter.unusedSimpArgs false
set_option maxRecDepth 20000
variable {S:Type} {k:Nat}
theorem Us (t:Tm):eV 0 [⟨0,0⟩] t=aQ (cR 0 [⟨0,0⟩] false) (cR 0 [⟨0,0⟩] true) 0 t:=by
 unfold eV
 rw [show be [⟨0,0⟩] 0 1=([⟨0,0⟩],0) from by decide,jJ rfl,ao]
def Ih (phi:List Cl) (en:Cl) (f:List Cl):Prop:= ∃f1,cG (be phi 0 1)= .ok f1∧cG (dF f1 [en])= .ok f
theorem Sx:RC ⟨0,1⟩:=⟨⟨by decide,by decide⟩,by decide,by decide⟩
theorem Sy:RC ⟨1,0⟩:=⟨⟨by decide,by decide⟩,by decide,by decide⟩
theorem zY {line a t:Tm} {phi r:List Cl} {en:Cl} (h:iJ line phi a en r= .ok t):bN [line,a]=0∧bB phi=true∧cr t=0∧gV line phi a en r= .ok t∧
  ∃f l a',Ih phi en f∧d6 r line= .ok l∧bw 0 1 a= .ok a'∧t= .mk 14 0 ByteArray.empty f [l,a'] []:=by
 unfold iJ at h
 split at h
 case isFalse=>cases h
 rename_i h1
 split at h
 case isFalse=>cases h
 rename_i h2
 unfold dD at h
 obtain ⟨t',h3,h⟩:=ah h
 split at h
 case isFalse=>cases h
 rename_i h4
 injection h with h;subst h
 refine ⟨h1,h2,h4,h3, ?_⟩
 unfold gV at h3
 obtain ⟨f1,e1,h3⟩:=ah h3
 obtain ⟨f,e2,h3⟩:=ah h3
 obtain ⟨l,e3,h3⟩:=ah h3
 obtain ⟨a',e4,h3⟩:=ah h3
 injection h3 with h3
 exact ⟨f,l,a',⟨f1,e1,e2⟩,e3,e4,h3.symm⟩
end Go.Proofs.YtapmagaejigpnaaGreatDoor
namespace Go.Proofs.YtapmagaejigpnaaGreatDoor
open Go PI
set_option linter.unusedVariables false
set_option linter.unusedSimpArgs false
set_option maxRecDepth 20000
variable {S:Type} {k:Nat}
theorem TW (t:Tm):ax t=1+ar t.kids+ay t.sys:=by cases t;rw [ax];rfl
def iE (most w:Int) (n:Nat):Prop:=1≤w∧w≤2*most+1∧(w≤most→(n:Int)≤w)
def Mo (most:Int):Prop:=0≤most∧most≤1000
section
variable {hd:Tm→Int→(Int→Option S)→Option S} {t:Tm}
theorem Ps (hk:Fu k) (ret:Int→Option S) (rec1:Int→Int→Option S) {v most:Int} (hm0:Mo most) {x:Br Tm} (hv:av t.sys v=some x) (hQ: ∀y∈x.kids,∀n,Mo n→ ∀g,∃w,hd y n g=g w∧iE n w (ax y)) (hl:x.kids.length<1073741824):
  ∀ (r p:List Tm) (m:Nat) (a:Int),x.kids=p++r→r.length<m→1≤a→a≤2*most+1→ ∃w,ie hd k ret rec1 t most v m a (p.length:Int)=rec1 w (IntKind.wrap .i64 (v+1))∧a≤w∧w≤2*most+1∧(w≤most→a+(ar r:Int)≤w):=by
 obtain ⟨hm1,hm2⟩:=hm0
 intro r
 induction r with
 |nil=>
  intro p m a h hm ha ha'
  obtain ⟨m,rfl,hm'⟩:=am hm
  exact ⟨a,by simp only [ie,qN,hv,Option.bind_some,aU h,ad],Int.le_refl _,ha',fun _=>by rw [ar];simp⟩
 |cons y r ih=>
  intro p m a h hm ha ha'
  obtain ⟨m,rfl,hm'⟩:=am hm
  obtain ⟨e1,e2,e3,e4⟩:=aS h (by omega)
  simp only [ie,qN,hv,e1,ag,e2,Option.bind_some,aF,e3]
  by_cases hc:a≤most
  ·rw [decide_eq_true hc,ag,bQ (show-9223372036854775808≤most-a by omega) (by omega)]
   obtain ⟨w,hw,w1,w2,w3⟩:=hQ y (by rw [h];simp) (most-a) ⟨by omega,by omega⟩ (fun r8=>ie hd k ret rec1 t most v m (IntKind.wrap .i64 (a+r8)) (((p++[y]).length:Nat):Int))
   rw [hw,bQ (show-9223372036854775808≤a+w by omega) (by omega)]
   obtain ⟨u,hu,u1,u2,u3⟩:=ih (p++[y]) m (a+w) e4 hm' (by omega) (by omega)
   exact ⟨u,hu,by omega,u2,fun hle=>by rw [ar];have:=u3 hle;have:=w3 (by omega);push_cast;omega⟩
  ·rw [decide_eq_false hc,ad]
   exact ⟨a,rfl,Int.le_refl _,ha',fun h=>absurd h hc⟩
theorem Pr (hk:Fu k) (ret:Int→Option S) {most:Int} (hm0:Mo most) (hQ: ∀b∈t.sys,∀y∈b.kids,∀n,Mo n→ ∀g,∃w,hd y n g=g w∧iE n w (ax y)) (ht:OkT t):
  ∀ (r p:List (Br Tm)) (m:Nat) (a:Int),t.sys=p++r→r.length<m→1≤a→a≤2*most+1→ ∃w,gC hd k ret t most m a (p.length:Int)=ret w∧a≤w∧w≤2*most+1∧(w≤most→a+(ay r:Int)≤w):=by
 obtain ⟨o1,o2,o3,o4,o5,o6,o7⟩:=ht.no
 have hm1:=hm0.1
 have hm2:=hm0.2
 intro r
 induction r with
 |nil=>
  intro p m a h hm ha ha'
  obtain ⟨m,rfl,hm'⟩:=am hm
  exact ⟨a,by simp only [gC,nD,aU h,ad],Int.le_refl _,ha',fun _=>by rw [ay];simp⟩
 |cons x r ih=>
  intro p m a h hm ha ha'
  obtain ⟨m,rfl,hm'⟩:=am hm
  obtain ⟨e1,e2,e3,e4⟩:=aS h (by omega)
  have hx:x∈t.sys:=by rw [h];simp
  have hb:=(ht.bi hx).1
  simp only [gC,nD,e1,ag,e2,Option.bind_some,e3]
  by_cases hc:a≤most
  ·rw [decide_eq_true hc,ag]
   by_cases hf:((x.face.length:Nat):Int)>most
   ·rw [decide_eq_true hf,ag,bQ (show-9223372036854775808≤most+1 by omega) (by omega)]
    exact ⟨_,rfl,by omega,by omega,fun h=>by omega⟩
   ·rw [decide_eq_false hf,ad,bQ (show-9223372036854775808≤a+1 by omega) (by omega),bQ (show-9223372036854775808≤a+1+((x.face.length:Nat):Int) by omega) (by omega)]
    obtain ⟨w,hw,w1,w2,w3⟩:=Ps (t:=t) (most:=most) hk ret (gC hd k ret t most m) hm0 e2 (hQ x hx) hb.2.2 x.kids [] k (a+1+((x.face.length:Nat):Int)) rfl (by have:4294967296≤k:=hk;omega) (by omega) (by omega)
    have hw:ie hd k ret (gC hd k ret t most m) t most (p.length:Int) k (a+1+((x.face.length:Nat):Int)) 0=_:=hw
    rw [hw,e3]
    obtain ⟨u,hu,u1,u2,u3⟩:=ih (p++[x]) m w e4 hm' (by omega) w2
    exact ⟨u,hu,by omega,u2,fun hle=>by rw [ay,jH];have:=u3 hle;have:=w3 (by omega);push_cast;omega⟩
  ·rw [decide_eq_false hc,ad]
   exact ⟨a,rfl,Int.le_refl _,ha',fun h=>absurd h hc⟩
theorem Pq (hk:Fu k) (ret:Int→Option S) {most:Int} (hm0:Mo most) (hQ: ∀y∈t.kids,∀n,Mo n→ ∀g,∃w,hd y n g=g w∧iE n w (ax y)) (hQ': ∀b∈t.sys,∀y∈b.kids,∀n,Mo n→ ∀g,∃w,hd y n g=g w∧iE n w (ax y)) (ht:OkT t):
  ∀ (r p:List Tm) (m:Nat) (a:Int),t.kids=p++r→r.length<m→1≤a→a≤2*most+1→ ∃w,kr hd k ret t most m a (p.length:Int)=ret w∧a≤w∧w≤2*most+1∧(w≤most→a+(ar r:Int)+(ay t.sys:Int)≤w):=by
 obtain ⟨o1,o2,o3,o4,o5,o6,o7⟩:=ht.no
 have hm1:=hm0.1
 have hm2:=hm0.2
 intro r
 have hs:=fun a=>Pr (most:=most) hk ret hm0 hQ' ht t.sys [] k a rfl (by have:4294967296≤k:=hk;omega)
 induction r with
 |nil=>
  intro p m a h hm ha ha'
  obtain ⟨m,rfl,hm'⟩:=am hm
  simp only [kr,nC,aU h,ad]
  obtain ⟨w,hw,w1,w2,w3⟩:=hs a ha ha'
  exact ⟨w,hw,w1,w2,fun hle=>by rw [ar];have:=w3 hle;simp;omega⟩
 |cons y r ih=>
  intro p m a h hm ha ha'
  obtain ⟨m,rfl,hm'⟩:=am hm
  obtain ⟨e1,e2,e3,e4⟩:=aS h (by omega)
  simp only [kr,nC,e1,ag,e2,Option.bind_some,aF,e3]
  by_cases hc:a≤most
  ·rw [decide_eq_true hc,ag,bQ (show-9223372036854775808≤most-a by omega) (by omega)]
   obtain ⟨w,hw,w1,w2,w3⟩:=hQ y (by rw [h];simp) (most-a) ⟨by omega,by omega⟩ (fun r2=>kr hd k ret t most m (IntKind.wrap .i64 (a+r2)) (((p++[y]).length:Nat):Int))
   rw [hw,bQ (show-9223372036854775808≤a+w by omega) (by omega)]
   obtain ⟨u,hu,u1,u2,u3⟩:=ih (p++[y]) m (a+w) e4 hm' (by omega) (by omega)
   exact ⟨u,hu,by omega,u2,fun hle=>by rw [ar];have:=u3 hle;have:=w3 (by omega);push_cast;omega⟩
  ·rw [decide_eq_false hc,ad]
   obtain ⟨w,hw,w1,w2,w3⟩:=hs a ha ha'
   exact ⟨w,hw,w1,w2,fun hle=>by omega⟩
end
theorem yu (t:Tm):OkT t→ ∀ {k:Nat} (most:Int),Mo most→ ∀ (ret:Int→Option S),Fd k (aq t)→ ∃w,du k t most ret=ret w∧iE most w (ax t):=by
 induction t using gb with
 |h t ih1 ih2=>
  intro ht k most hm0 ret hk
  have hm1:=hm0.1
  have hm2:=hm0.2
  obtain ⟨q,rfl,hq,hf⟩:=hk.pos' (d_ t)
  obtain ⟨o1,o2,o3,o4,o5,o6,o7⟩:=ht.no
  have hQ: ∀y∈t.kids,∀n,Mo n→ ∀ (g:Int→Option S),∃w,du q y n g=g w∧iE n w (ax y):=fun y hy n hn g=>ih1 y hy (ht.ki hy) n hn g (hf _ (dT hy))
  have hQ': ∀b∈t.sys,∀y∈b.kids,∀n,Mo n→ ∀ (g:Int→Option S),∃w,du q y n g=g w∧iE n w (ax y):=fun b hb y hy n hn g=>ih2 b hb y hy ((ht.bi hb).2 y hy) n hn g (hf _ (dS hb hy))
  simp only [du,zo]
  have out: ∃w,ret (IntKind.wrap .i64 (most+1))=ret w∧iE most w (ax t):=⟨most+1,by rw [bQ (show-9223372036854775808≤most+1 by omega) (by omega)],by omega,by omega,fun h=>by omega⟩
  by_cases hr:((t.r.length:Nat):Int)>most
  ·rw [decide_eq_true hr,ag];exact out
  ·rw [decide_eq_false hr,ad]
   by_cases hn:((t.name.size:Nat):Int)>most
   ·rw [decide_eq_true hn,ag];exact out
   ·rw [decide_eq_false hn,ad,bQ (show-9223372036854775808≤1+((t.r.length:Nat):Int) by omega) (by omega),bQ (show-9223372036854775808≤1+((t.r.length:Nat):Int)+((t.name.size:Nat):Int) by omega) (by omega)]
    obtain ⟨w,hw,w1,w2,w3⟩:=Pq hq ret hm0 hQ hQ' ht t.kids [] q (1+((t.r.length:Nat):Int)+((t.name.size:Nat):Int)) rfl (by have:4294967296≤q:=hq;omega) (by omega) (by omega)
    exact ⟨w,hw,by omega,w2,fun hle=>by rw [TW];have:=w3 hle;push_cast;omega⟩
theorem Tq (hk:Fu k) {a b:Tm} {sys:List (Br Tm)} (ha:OkT a) (ha':Fd k (aq a)) (hb:OkT b) (hb':Fd k (aq b)) (hs:OkT (.mk 0 0 ByteArray.empty [] [] sys)) (hs':Fd k (aq (.mk 0 0 ByteArray.empty [] [] sys))) (ret:Bool→Option S):
  ∃c,n9 k a b sys ret=ret c∧(c=false→ax a≤150∧ax b≤150∧ax (.mk 0 0 ByteArray.empty [] [] sys)≤150):=by
 simp only [n9,G9,aF]
 have hm:Mo 150:=⟨by omega,by omega⟩
 obtain ⟨w,hw,w1,w2,w3⟩:=yu a ha 150 hm (fun r1=>ab (decide (r1>150)) (ret true) (du k b 150 fun r2=>ab (decide (r2>150)) (ret true) (du k (.mk 0 0 ByteArray.empty [] [] sys) 150 fun r3=>ret (decide (r3>150))))) ha'
 rw [hw]
 by_cases hc:w>150
 ·rw [decide_eq_true hc];exact ⟨true,rfl,fun h=>by cases h⟩
 ·rw [decide_eq_false hc,ad]
  obtain ⟨u,hu,u1,u2,u3⟩:=yu b hb 150 hm (fun r2=>ab (decide (r2>150)) (ret true) (du k (.mk 0 0 ByteArray.empty [] [] sys) 150 fun r3=>ret (decide (r3>150)))) hb'
  rw [hu]
  by_cases hd:u>150
  ·rw [decide_eq_true hd];exact ⟨true,rfl,fun h=>by cases h⟩
  ·rw [decide_eq_false hd,ad]
   obtain ⟨z,hz,z1,z2,z3⟩:=yu _ hs 150 hm (fun r3=>ret (decide (r3>150))) hs'
   rw [hz]
   refine ⟨_,rfl,fun h=> ?_⟩
   have h: ¬z>150:=of_decide_eq_false h
   have:=w3 (by omega);have:=u3 (by omega);have:=z3 (by omega)
   omega
end Go.Proofs.YtapmagaejigpnaaGreatDoor
namespace Go.Proofs.YtapmagaejigpnaaGreatDoor
open Go PI
set_option linter.unusedVariables false
set_option linter.unusedSimpArgs false
set_option maxRecDepth 20000
variable {S:Type} {k:Nat}
theorem FK {l:List Cl} (hl:l.length<1073741824) (ret:List Cl→Option S):mF l ret=ret l:=by
 unfold mF
 rw [bM (by simp;omega)]
section
variable {hd:Tm→(Tm→Option S)→Option S}
theorem Pv (hk:Fu k) (ret:List Tm→Option S) {l:List Tm} (hQ: ∀y∈l,∀g,hd y g=g y) (hl:l.length<1073741824):
  ∀ (r p:List Tm) (m:Nat),l=p++r→r.length<m→mn hd k ret l m p (p.length:Int)=ret l:=by
 intro r
 induction r with
 |nil=>
  intro p m h hm
  obtain ⟨m,rfl,hm'⟩:=am hm
  simp only [mn,qS,aU h,ad]
  rw [h,List.append_nil]
 |cons y r ih=>
  intro p m h hm
  obtain ⟨m,rfl,hm'⟩:=am hm
  obtain ⟨e1,e2,e3,e4⟩:=aS h (by omega)
  have hlen:p.length+r.length+1=l.length:=by rw [h];simp;omega
  simp only [mn,qS,e1,ag,e2,Option.bind_some,aF,e3,hQ y (by rw [h];simp)]
  rw [bM (by simp;omega)]
  exact ih (p++[y]) m e4 hm'
theorem FL (hk:Fu k) {l:List Tm} (hQ: ∀y∈l,∀g,hd y g=g y) (hl:l.length<1073741824) (ret:List Tm→Option S):og hd k l ret=ret l:=by
 simp only [og,zu]
 exact Pv hk ret hQ hl l [] k rfl (by have:4294967296≤k:=hk;omega)
theorem Pw (hk:Fu k) (ret:Tm→Option S) {t:Tm} (ht:OkT t) (hQ: ∀b∈t.sys,∀y∈b.kids,∀g,hd y g=g y) (r1:List Cl) (r2:List Tm):
  ∀ (r p:List (Br Tm)) (m:Nat),t.sys=p++r→r.length<m→mm hd k ret t r1 r2 m p (p.length:Int)=ret (.mk t.kind t.n t.name r1 r2 t.sys):=by
 obtain ⟨o1,o2,o3,o4,o5,o6,o7⟩:=ht.no
 intro r
 induction r with
 |nil=>
  intro p m h hm
  obtain ⟨m,rfl,hm'⟩:=am hm
  simp only [mm,qR,aU h,ad]
  rw [h,List.append_nil]
 |cons y r ih=>
  intro p m h hm
  obtain ⟨m,rfl,hm'⟩:=am hm
  obtain ⟨e1,e2,e3,e4⟩:=aS h (by omega)
  have hy:y∈t.sys:=by rw [h];simp
  have hb:=(ht.bi hy).1
  have hlen:p.length+r.length+1=t.sys.length:=by rw [h];simp;omega
  simp only [mm,qR,e1,ag,e2,Option.bind_some,aF,e3,FK hb.2.1,aj hk,FL hk (hQ y hy) hb.2.2]
  rw [bM (by simp;omega)]
  have:=ih (p++[y]) m e4 hm'
  cases y
  exact this
end
theorem pC (t:Tm):OkT t→ ∀ {k:Nat} (ret:Tm→Option S),Fd k (aq t)→dl k t ret=ret t:=by
 induction t using gb with
 |h t ih1 ih2=>
  intro ht k ret hk
  obtain ⟨q,rfl,hq,hf⟩:=hk.pos' (d_ t)
  obtain ⟨o1,o2,o3,o4,o5,o6,o7⟩:=ht.no
  simp only [dl,zt,FK o5,aj hq,FL hq (fun y hy g=>ih1 y hy (ht.ki hy) g (hf _ (dT hy))) o6]
  have:=Pw hq ret ht (fun b hb y hy g=>ih2 b hb y hy ((ht.bi hb).2 y hy) g (hf _ (dS hb hy))) t.r t.kids t.sys [] q rfl (by have:4294967296≤q:=hq;omega)
  refine Eq.trans this ?_
  cases t;rfl
theorem RN {v d d':Int} (h:24≤d) (h':24≤d') (t:Tm):cJ v d t=cJ v d' t:=by
 have hb: ∀kd,bJ kd d=bJ kd d':=fun kd=>by funext b;unfold bJ;rw [kB h,kB h']
 cases t
 rw [cJ,cJ,hb,kB h,kB h']
theorem u6 (t:Tm): ∀ {v d d':Int},24≤d→24≤d'→az false v d t=az false v d' t:=by
 induction t using gb with
 |h t ih1 ih2=>
  intro v d d' h h'
  rw [p9,p9,RN h h']
  have hK: ∀ (l:List Tm) (i:Nat),(∀x∈l,x∈t.kids)→bt false v d t.kind i l=bt false v d' t.kind i l:=by
   intro l
   induction l with
   |nil=>intro i _;rw [bt,bt]
   |cons x l ih=>
    intro i hl
    rw [bt,bt,ih _ fun y hy=>hl y (by simp [hy]),ih1 x (hl x (by simp)) (d:=d+bj t.kind i) (d':=d'+bj t.kind i) (by have:=e7 t.kind i;omega) (by have:=e7 t.kind i;omega)]
  rw [hK _ _ fun x hx=>hx,la,la]
  have hS:(t.sys.all fun b=>b.kids.all (az false v (d+au t.kind)))=t.sys.all fun b=>b.kids.all (az false v (d'+au t.kind)):=by
   rw [Bool.eq_iff_iff,List.all_eq_true,List.all_eq_true]
   have he: ∀b∈t.sys,∀x∈b.kids,az false v (d+au t.kind) x=az false v (d'+au t.kind) x:=fun b hb x hx=>ih2 b hb x hx (by have:=ei t.kind;omega) (by have:=ei t.kind;omega)
   constructor
   ·intro hh b hb
    rw [List.all_eq_true]
    intro x hx
    rw [←he b hb x hx]
    exact List.all_eq_true.1 (hh b hb) x hx
   ·intro hh b hb
    rw [List.all_eq_true]
    intro x hx
    rw [he b hb x hx]
    exact List.all_eq_true.1 (hh b hb) x hx
  rw [hS]
  simp
end Go.Proofs.YtapmagaejigpnaaGreatDoor
namespace Go.Proofs.YtapmagaejigpnaaGreatDoor
open Go PI
set_option linter.unusedVariables false
set_option linter.unusedSimpArgs false
set_option maxRecDepth 20000
variable {S:Type} {k:Nat}
def aZ (kd:Int) (l:List Tm):Tm:= .mk kd 0 ByteArray.empty [] l []
def vN (n:Int):Tm:= .mk 1 n ByteArray.empty [] [] []
def aO (c a b:Int) (t:Tm):Tm×Int:=if c=0 then tE (bw a b t) else (aB,c)
def cV (p:Tm×Int):Except Int Tm:=if p.2=0 then .ok p.1 else .error p.2
theorem dx {c a b:Int} {t:Tm} (h:c≠0):aO c a b t=(aB,c):=if_neg h
theorem fB {c a b:Int} {t:Tm} (h:(aO c a b t).2=0):c=0:=by
 by_cases hc:c=0
 ·exact hc
 ·rw [dx hc] at h;exact h
theorem gc (a b:Int) (t:Tm):aO 0 a b t=tE (bw a b t):=rfl
theorem f7 (hk:F3 k) {c:Int} {t:Tm} (h:c=0→Fm t) {a b:Int} (ha:0≤a∧a≤1000000) (hb:0≤b∧b<9223372036854775808) (ret:Tm×Int→Option S):bZ k t a b c ret=ret (aO c a b t):=by
 by_cases hc:c=0
 ·subst hc;exact yv hk (h rfl) ha hb ret
 ·rw [kU hc hk,dx hc]
theorem tZ (hk:F3 k) {t:Tm} {c:Int} (h:c=0→In k t) (ret:Tm×Int→Option S):(cE k t c fun r=>ret (r.1,r.2.1))=ret (tE (dD (cV (t,c)))):=by
 by_cases hc:c=0
 ·subst hc
  rw [FM hk (h rfl)]
  show _=ret (tE (dD (.ok t)))
  unfold dD
  rw [ao]
  by_cases h0:cr t=0
  ·rw [if_pos h0,if_pos h0];rfl
  ·rw [if_neg h0,if_neg h0];rfl
 ·rw [f0 hc hk]
  show _=ret (tE (dD (if c=0 then _ else _)))
  rw [if_neg hc];rfl
def df (c:Int) (t a f y:Tm):Tm×Int:=
 (aZ 7 [t,aZ 11 [(aO c 1 1 a).1,(aO (aO c 1 1 a).2 1 0 y).1,aZ 6 [(aO (aO (aO c 1 1 a).2 1 0 y).2 1 0 f).1,vN 0]]],(aO (aO (aO c 1 1 a).2 1 0 y).2 1 0 f).2)
def fL (t a f y:Tm):Except Int Tm:=bE (bw 1 1 a) fun a'=>bE (bw 1 0 y) fun y'=>bE (bw 1 0 f) fun f'=> .ok (aZ 7 [t,aZ 11 [a',y',aZ 6 [f',vN 0]]])
theorem lN {c:Int} (h:c≠0) (t a f y:Tm):(df c t a f y).2=c:=by
 unfold df
 rw [dx h,dx h,dx h]
theorem sI (t a f y:Tm):cV (df 0 t a f y)=fL t a f y:=by
 unfold df fL
 rw [gc]
 cases h1:bw 1 1 a with
 |error e=>
  have he:e≠0:=by have:=cm h1;omega
  show cV (_,(aO (aO e 1 0 y).2 1 0 f).2)=_
  rw [dx he,dx he,fG];exact if_neg he
 |ok a'=>
  rw [ao]
  show cV (aZ 7 [t,aZ 11 [a',(aO 0 1 0 y).1,aZ 6 [(aO (aO 0 1 0 y).2 1 0 f).1,vN 0]]],(aO (aO 0 1 0 y).2 1 0 f).2)=_
  rw [gc]
  cases h2:bw 1 0 y with
  |error e=>
   have he:e≠0:=by have:=cm h2;omega
   show cV (_,(aO e 1 0 f).2)=_
   rw [dx he,fG];exact if_neg he
  |ok y'=>
   rw [ao]
   show cV (aZ 7 [t,aZ 11 [a',y',aZ 6 [(aO 0 1 0 f).1,vN 0]]],(aO 0 1 0 f).2)=_
   rw [gc]
   cases h3:bw 1 0 f with
   |error e=>
    have he:e≠0:=by have:=cm h3;omega
    rw [fG];exact if_neg he
   |ok f'=>rfl
theorem FR (hk:F3 k) {c:Int} {t a f y:Tm} (ha:c=0→Fm a) (hf:c=0→Fm f) (hy:c=0→Fm y) (ret:Int×Int×ByteArray×List Tm×Int→Option S):
  lm k t a f y c ret=ret (7,0,ByteArray.empty,(df c t a f y).1.kids,(df c t a f y).2):=by
 simp only [lm,Gu,aj hk.fu,aF,f7 hk ha (show (0:Int)≤1∧(1:Int)≤1000000 by omega) (show (0:Int)≤1∧(1:Int)<9223372036854775808 by omega),
  f7 hk (fun h=>hy (fB h)) (show (0:Int)≤1∧(1:Int)≤1000000 by omega) (show (0:Int)≤0∧(0:Int)<9223372036854775808 by omega),
  f7 hk (fun h=>hf (fB (fB h))) (show (0:Int)≤1∧(1:Int)≤1000000 by omega) (show (0:Int)≤0∧(0:Int)<9223372036854775808 by omega),dR,ui,bh,eA]
 rfl
def dB (c:Int) (t:Tm):Tm×Int:=(aZ 7 [t,aZ 4 [(aO c 1 0 t).1,aZ 11 [(aO (aO c 1 0 t).2 2 1 t).1,vN 1,vN 0]]],(aO (aO c 1 0 t).2 2 1 t).2)
def lk (t:Tm):Except Int Tm:=bE (bw 1 0 t) fun t1=>bE (bw 2 1 t) fun t2=> .ok (aZ 7 [t,aZ 4 [t1,aZ 11 [t2,vN 1,vN 0]]])
theorem lj {c:Int} (h:c≠0) (t:Tm):(dB c t).2=c:=by
 unfold dB
 rw [dx h,dx h]
theorem LZ (t:Tm):cV (dB 0 t)=lk t:=by
 unfold dB lk
 rw [gc]
 cases h1:bw 1 0 t with
 |error e=>
  have he:e≠0:=by have:=cm h1;omega
  show cV (_,(aO e 2 1 t).2)=_
  rw [dx he,fG];exact if_neg he
 |ok a'=>
  rw [ao]
  show cV (aZ 7 [t,aZ 4 [a',aZ 11 [(aO 0 2 1 t).1,vN 1,vN 0]]],(aO 0 2 1 t).2)=_
  rw [gc]
  cases h2:bw 2 1 t with
  |error e=>
   have he:e≠0:=by have:=cm h2;omega
   rw [fG];exact if_neg he
  |ok y'=>rfl
theorem Tc (hk:F3 k) {c:Int} {t:Tm} (h:c=0→Fm t) (ret:Int×Int×ByteArray×List Tm×Int→Option S):
  nT k t c ret=ret (7,0,ByteArray.empty,(dB c t).1.kids,(dB c t).2):=by
 simp only [nT,Gs,aj hk.fu,aF,f7 hk h (show (0:Int)≤1∧(1:Int)≤1000000 by omega) (show (0:Int)≤0∧(0:Int)<9223372036854775808 by omega),
  f7 hk (fun z=>h (fB z)) (show (0:Int)≤2∧(2:Int)≤1000000 by omega) (show (0:Int)≤1∧(1:Int)<9223372036854775808 by omega),dR,ui,bh,eA]
 rfl
def jf (c:Int) (t a:Tm):Tm×Int:=
 let p1:=aO c 1 0 a
 let p2:=aO p1.2 1 0 a
 let p3:=aO p2.2 2 0 t
 let p4:=aO p3.2 2 0 a
 let p5:=df p4.2 p3.1 p4.1 (vN 1) (vN 0)
 let p6:=dB p5.2 p5.1
 (aZ 7 [aZ 4 [t,p1.1],aZ 4 [p2.1,p6.1]],p6.2)
def lL (t a:Tm):Except Int Tm:=bE (bw 1 0 a) fun a1=>bE (bw 1 0 a) fun y=>bE (bw 2 0 t) fun t'=>bE (bw 2 0 a) fun a'=>bE (fL t' a' (vN 1) (vN 0)) fun x=>bE (lk x) fun c=> .ok (aZ 7 [aZ 4 [t,a1],aZ 4 [y,c]])
theorem NG {c:Int} (h:c≠0) (t a:Tm):(jf c t a).2=c:=by
 unfold jf
 simp only [dx h,lN h,lj h]
theorem A_ {t a f y:Tm} {e:Int} (h:fL t a f y= .error e):0<e∧e≤1000:=by
 rcases aL h with h|⟨_,_,h⟩
 ·exact cm h
 rcases aL h with h|⟨_,_,h⟩
 ·exact cm h
 rcases aL h with h|⟨_,_,h⟩
 ·exact cm h
 ·cases h
theorem HE {p:Tm×Int} {t:Tm} (h:cV p= .ok t):p=(t,0):=by
 unfold cV at h
 split at h
 ·next h0=>injection h with h;exact Prod.ext h h0
 ·cases h
theorem HD {p:Tm×Int} {e:Int} (h:cV p= .error e):p.2=e∧e≠0:=by
 unfold cV at h
 split at h
 ·cases h
 ·next h0=>injection h with h;exact ⟨h,h▸h0⟩
theorem A7 (t a:Tm):cV (jf 0 t a)=lL t a:=by
 unfold jf lL
 simp only [gc]
 cases h1:bw 1 0 a with
 |error e=>
  have he:e≠0:=by have:=cm h1;omega
  rw [fG]
  show cV (_,(dB (df (aO (aO (aO e 1 0 a).2 2 0 t).2 2 0 a).2 _ _ _ _).2 _).2)=_
  simp only [dx he,lN he,lj he]
  exact if_neg he
 |ok a1=>
  simp only [ao,tE,gc,h1]
  cases h3:bw 2 0 t with
  |error e=>
   have he:e≠0:=by have:=cm h3;omega
   rw [fG]
   simp only [tE,dx he,lN he,lj he]
   exact if_neg he
  |ok t'=>
   simp only [ao,tE,gc]
   cases h4:bw 2 0 a with
   |error e=>
    have he:e≠0:=by have:=cm h4;omega
    rw [fG]
    simp only [tE,lN he,lj he]
    exact if_neg he
   |ok a'=>
    simp only [ao,tE]
    rw [←sI]
    cases h5:cV (df 0 t' a' (vN 1) (vN 0)) with
    |error e=>
     obtain ⟨h6,he⟩:=HD h5
     rw [fG,h6,lj he]
     exact if_neg he
    |ok x=>
     rw [ao,HE h5,←LZ]
     cases h7:cV (dB 0 x) with
     |error e=>
      obtain ⟨h8,he⟩:=HD h7
      rw [fG,h8]
      exact if_neg he
     |ok c=>rw [ao,HE h7];rfl
theorem Dg (n:Int) (h:0≤n∧n≤10):OkT (vN n):=by
 unfold vN
 rw [OkT,aR,aX]
 exact ⟨⟨by unfold aA;omega,by unfold aA;omega,by show 0<_;omega,fun c hc=>(by cases hc),by simp,by simp,by simp⟩,trivial,trivial⟩
theorem fm_v0:Fm (vN 0):=⟨Dg 0 (by omega),by rfl⟩
theorem fm_v1:Fm (vN 1):=⟨Dg 1 (by omega),by rfl⟩
theorem tk {kd:Int} (hkd:0≤kd∧kd≤28) {l:List Tm} (hl:l.length<10) (h: ∀x∈l,OkT x):OkT (aZ kd l):=by
 unfold aZ
 rw [OkT,okK_iff,aX]
 exact ⟨⟨by unfold aA;omega,by unfold aA;omega,by show 0<_;omega,fun c hc=>(by cases hc),by simp,by omega,by simp⟩,h,trivial⟩
theorem zX {kd d:Int} (hd:24≤d) {l:List Tm} (ho:cJ (-1) 24 (aZ kd l)=true) (h: ∀x∈l,az false (-1) 24 x=true):az false (-1) d (aZ kd l)=true:=by
 rw [u6 (aZ kd l) hd (show (24:Int)≤24 by omega),p9,ho]
 have hK: ∀ (r:List Tm) (i:Nat),(∀x∈r,az false (-1) 24 x=true)→bt false (-1) 24 kd i r=true:=by
  intro r
  induction r with
  |nil=>intro i _;rw [bt]
  |cons x r ih=>
   intro i hr
   have hb:=e7 kd i
   rw [bt,ih _ fun y hy=>hr y (by simp [hy])]
   have hv:aW (-1) (dj kd i)= -1:=rfl
   rw [hv,u6 x (show (24:Int)≤24+bj kd i by omega) (show (24:Int)≤24 by omega),hr x (by simp)];rfl
 show (!(false&&_)&&(true&&(bt false (-1) 24 kd 0 l&&bg false (-1) 24 kd [])))=true
 rw [hK l 0 h,bg];rfl
def Fd2 (n m:Nat) (t:Tm):Prop:=OkT t∧az false (-1) 24 t=true∧aq t≤n∧ax t≤m
theorem Fd2.fm {n m:Nat} {t:Tm} (h:Fd2 n m t) (hn:n≤200) (hm:m≤20000):Fm t:=⟨h.1,wh (by have:=h.2.2.1;omega) (by have:=h.2.2.2;omega) h.2.1⟩
theorem Fd2.isIn {n m:Nat} {t:Tm} (h:Fd2 n m t) (hk:F3 k) (hn:n≤1000) (hm:m≤1000000):In k t:=⟨h.1,hk.fd (by have:=h.2.2.1;omega),by have:=h.2.2.2;omega⟩
theorem Fm.f2 {t:Tm} (h:Fm t):Fd2 200 20000 t:=⟨h.1,(g9 h.2).2.2,(g9 h.2).1,(g9 h.2).2.1⟩
theorem Fd2.mono {n m n' m':Nat} {t:Tm} (h:Fd2 n m t) (hn:n≤n') (hm:m≤m'):Fd2 n' m' t:=⟨h.1,h.2.1,by have:=h.2.2.1;omega,by have:=h.2.2.2;omega⟩
theorem Fd2.up {n m:Nat} {t t':Tm} (h:Fd2 n m t) {a b:Int} (ha:0≤a∧a≤1000000000) (hl:bw a b t= .ok t'):Fd2 n m t':=by
 obtain ⟨u,h1,h2⟩:=ah hl
 obtain ⟨p1,p2,p3,p4⟩:=wN ha.1 ha.2 t 0 0 u h1
 obtain ⟨q1,q2,q3,q4⟩:=wN (by omega) (by omega) u 0 0 t' h2
 have w:=p4 h.1
 have w2:=q4 w.1
 have ho:=w.2.2 24 24 (by omega) (by omega) h.2.1
 exact ⟨w2.1,w2.2.2 24 24 (by omega) (by omega) ho,by have:=h.2.2.1;omega,by have:=h.2.2.2;omega⟩
theorem ke {kd:Int} (hkd:0≤kd∧kd≤28) {n m:Nat} {a b:Tm} (ho:cJ (-1) 24 (aZ kd [a,b])=true) (ha:Fd2 n m a) (hb:Fd2 n m b):Fd2 (n+1) (2*m+1) (aZ kd [a,b]):=by
 have hx: ∀x∈[a,b],Fd2 n m x:=fun x hx=>by simp at hx;rcases hx with rfl|rfl<;>assumption
 refine ⟨tk hkd (by simp) fun x h=>(hx x h).1,zX (by omega) ho fun x h=>(hx x h).2.1, ?_, ?_⟩
 ·unfold aZ;rw [aq,aJ,aJ,aJ,ba];have:=ha.2.2.1;have:=hb.2.2.1;omega
 ·unfold aZ;rw [ax,ar,ar,ar,ay];have:=ha.2.2.2;have:=hb.2.2.2;omega
theorem A9 {kd:Int} (hkd:0≤kd∧kd≤28) {n m:Nat} {a b c:Tm} (ho:cJ (-1) 24 (aZ kd [a,b,c])=true) (ha:Fd2 n m a) (hb:Fd2 n m b) (hc:Fd2 n m c):Fd2 (n+1) (3*m+1) (aZ kd [a,b,c]):=by
 have hx: ∀x∈[a,b,c],Fd2 n m x:=fun x hx=>by simp at hx;rcases hx with rfl|rfl|rfl<;>assumption
 refine ⟨tk hkd (by simp) fun x h=>(hx x h).1,zX (by omega) ho fun x h=>(hx x h).2.1, ?_, ?_⟩
 ·unfold aZ;rw [aq,aJ,aJ,aJ,aJ,ba];have:=ha.2.2.1;have:=hb.2.2.1;have:=hc.2.2.1;omega
 ·unfold aZ;rw [ax,ar,ar,ar,ar,ay];have:=ha.2.2.2;have:=hb.2.2.2;have:=hc.2.2.2;omega
theorem g8 {n m:Nat} (hn:1≤n) (hm:1≤m) {i:Int} (hi:i=0∨i=1):Fd2 n m (vN i):=by
 have:Fd2 1 1 (vN i):=by
  rcases hi with rfl|rfl
  ·exact ⟨fm_v0.1,by rfl,by show 1≤1;omega,by show 1≤1;omega⟩
  ·exact ⟨fm_v1.1,by rfl,by show 1≤1;omega,by show 1≤1;omega⟩
 exact this.mono hn hm
theorem oC {n m:Nat} (hn:1≤n) (hm:1≤m) {t a f y x:Tm} (ht:Fd2 n m t) (ha:Fd2 n m a) (hf:Fd2 n m f) (hy:Fd2 n m y) (h:fL t a f y= .ok x):Fd2 (n+3) (12*m+9) x:=by
 obtain ⟨a',h1,h⟩:=ah h
 obtain ⟨y',h2,h⟩:=ah h
 obtain ⟨f',h3,h⟩:=ah h
 injection h with h;subst h
 have c1:=ke (kd:=6) (by omega) (by rfl) (hf.up (by omega) h3) (g8 hn hm (.inl rfl))
 have c2:=A9 (kd:=11) (by omega) (by rfl) ((ha.up (by omega) h1).mono (Nat.le_succ n) (show m≤2*m+1 by omega)) ((hy.up (by omega) h2).mono (Nat.le_succ n) (show m≤2*m+1 by omega)) c1
 exact (ke (kd:=7) (by omega) (by rfl) (ht.mono (show n≤n+1+1 by omega) (show m≤3*(2*m+1)+1 by omega)) c2).mono (by omega) (by omega)
theorem L4 {n m:Nat} (hn:1≤n) (hm:1≤m) {t x:Tm} (ht:Fd2 n m t) (h:lk t= .ok x):Fd2 (n+3) (12*m+9) x:=by
 obtain ⟨a',h1,h⟩:=ah h
 obtain ⟨y',h2,h⟩:=ah h
 injection h with h;subst h
 have c1:=A9 (kd:=11) (by omega) (by rfl) (ht.up (by omega) h2) (g8 hn hm (.inr rfl)) (g8 hn hm (.inl rfl))
 have c2:=ke (kd:=4) (by omega) (by rfl) ((ht.up (by omega) h1).mono (Nat.le_succ n) (show m≤3*m+1 by omega)) c1
 exact (ke (kd:=7) (by omega) (by rfl) (ht.mono (show n≤n+1+1 by omega) (show m≤2*(3*m+1)+1 by omega)) c2).mono (by omega) (by omega)
theorem A5 {n m:Nat} (hn:1≤n) (hm:1≤m) {t a x:Tm} (ht:Fd2 n m t) (ha:Fd2 n m a) (h:lL t a= .ok x):Fd2 (n+8) (1000*m+1000) x:=by
 obtain ⟨a1,h1,h⟩:=ah h
 obtain ⟨y,h2,h⟩:=ah h
 obtain ⟨t',h3,h⟩:=ah h
 obtain ⟨a',h4,h⟩:=ah h
 obtain ⟨z,h5,h⟩:=ah h
 obtain ⟨c,h6,h⟩:=ah h
 injection h with h;subst h
 have c1:=oC hn hm (ht.up (by omega) h3) (ha.up (by omega) h4) (g8 hn hm (.inr rfl)) (g8 hn hm (.inl rfl)) h5
 have c2:=L4 (by omega) (by omega) c1 h6
 have c3:=ke (kd:=4) (by omega) (by rfl) ((ha.up (by omega) h2).mono (show n≤n+3+3 by omega) (show m≤12*(12*m+9)+9 by omega)) c2
 have c4:=ke (kd:=4) (by omega) (by rfl) ht (ha.up (by omega) h1)
 exact (ke (kd:=7) (by omega) (by rfl) (c4.mono (show n+1≤n+3+3+1 by omega) (show 2*m+1≤2*(12*(12*m+9)+9)+1 by omega)) c3).mono (by omega) (by omega)
end Go.Proofs.YtapmagaejigpnaaGreatDoor
namespace Go.Proofs.YtapmagaejigpnaaGreatDoor
open Go PI
set_option linter.unusedVariables false
set_option linter.unusedSimpArgs false
set_option maxRecDepth 20000
variable {S:Type} {k:Nat}
def eS (l:List Tm) (x:Except Int Tm):Except Int Tm:=if bN l=0 then dD x else .error (bN l)
theorem Gc {l:List Tm} {p:Tm×Int} {x:Except Int Tm} (h0:bN l=0→cV p=x) (hc:bN l≠0→p.2=bN l):dD (cV p)=eS l x:=by
 unfold eS
 by_cases h:bN l=0
 ·rw [if_pos h,h0 h]
 ·rw [if_neg h]
  unfold cV
  rw [hc h,if_neg h];rfl
theorem we {c:Int} {t a f y:Tm} (h:(df c t a f y).2=0):c=0:=by
 by_cases hc:c=0
 ·exact hc
 ·rw [lN hc] at h;exact h
theorem L0 {c:Int} {t:Tm} (h:(dB c t).2=0):c=0:=by
 by_cases hc:c=0
 ·exact hc
 ·rw [lj hc] at h;exact h
theorem zF {p:Tm×Int} (h:p.2=0):cV p= .ok p.1:=if_pos h
theorem S4 (hk:F3 k) {t a f y:Tm} (ht:In k t) (ha:In k a) (hf:In k f) (hy:In k y) (ret:Tm×Int→Option S):rp k t a f y ret=ret (tE (eS [t,a,f,y] (fL t a f y))):=by
 have hin: ∀x∈[t,a,f,y],In k x:=fun x hx=>by
  simp at hx
  rcases hx with rfl|rfl|rfl|rfl<;>assumption
 have hfm:bN [t,a,f,y]=0→ ∀x∈[t,a,f,y],Fm x:=fun h=>iz (fun x hx=>(hin x hx).1) h
 simp only [rp,Gn,aj hk.fu,aF,pH hk hin (by simp),pC t ht.1 _ ht.2.1,FR hk (fun h=>hfm h a (by simp)) (fun h=>hfm h f (by simp)) (fun h=>hfm h y (by simp))]
 refine (tZ hk (t:=(df (bN [t,a,f,y]) t a f y).1) (fun h=> ?_) ret).trans ?_
 ·have h0:=we h
  have:=zF h
  rw [h0,sI] at this
  rw [h0]
  exact (oC (by omega) (by omega) (hfm h0 t (by simp)).f2 (hfm h0 a (by simp)).f2 (hfm h0 f (by simp)).f2 (hfm h0 y (by simp)).f2 this).isIn hk (by omega) (by omega)
 ·exact congrArg (fun z=>ret (tE z)) (Gc (fun h=>by rw [h];exact sI t a f y) fun h=>lN h t a f y)
theorem HJ {n m:Nat} {c a b:Int} {t:Tm} (h:Fd2 n m t) (ha:0≤a∧a≤1000000000) (hz:(aO c a b t).2=0):Fd2 n m (aO c a b t).1:=by
 have h0:=fB hz
 subst h0
 rw [gc] at hz ⊢
 cases hx:bw a b t with
 |ok t'=>exact h.up ha hx
 |error e=>
  rw [hx] at hz
  have:=cm hx
  have hz:e=0:=hz
  omega
theorem S3 (hk:F3 k) {t a:Tm} (ht:In k t) (ha:In k a) (hst:ax t≤150) (hsa:ax a≤150) (ret:Tm×Int→Option S):rn k t a ret=ret (tE (eS [t,a] (lL t a))):=by
 have hin: ∀x∈[t,a],In k x:=fun x hx=>by
  simp at hx
  rcases hx with rfl|rfl<;>assumption
 have hfm:bN [t,a]=0→ ∀x∈[t,a],Fm x:=fun h=>iz (fun x hx=>(hin x hx).1) h
 have ft:bN [t,a]=0→Fd2 150 150 t:=fun h=>⟨ht.1,(hfm h t (by simp)).f2.2.1,by have:=j9 t;omega,hst⟩
 have fa:bN [t,a]=0→Fd2 150 150 a:=fun h=>⟨ha.1,(hfm h a (by simp)).f2.2.1,by have:=j9 a;omega,hsa⟩
 generalize hc:bN [t,a]=c at ft fa
 have e1: ∀g,bZ k a 1 0 c g=g (aO c 1 0 a):=fun g=>f7 (S:=S) hk (fun h=>(fa h).fm (by omega) (by omega)) (by omega) (by omega) g
 generalize h1:aO c 1 0 a=p1 at e1
 have z1:p1.2=0→c=0:=fun h=>fB (by rw [h1];exact h)
 have e2: ∀g,bZ k a 1 0 p1.2 g=g (aO p1.2 1 0 a):=fun g=>f7 (S:=S) hk (fun h=>(fa (z1 h)).fm (by omega) (by omega)) (by omega) (by omega) g
 generalize h2:aO p1.2 1 0 a=p2 at e2
 have z2:p2.2=0→c=0:=fun h=>z1 (fB (by rw [h2];exact h))
 have e3: ∀g,bZ k t 2 0 p2.2 g=g (aO p2.2 2 0 t):=fun g=>f7 (S:=S) hk (fun h=>(ft (z2 h)).fm (by omega) (by omega)) (by omega) (by omega) g
 have f3:(aO p2.2 2 0 t).2=0→Fd2 150 150 (aO p2.2 2 0 t).1:=fun h=>HJ (ft (z2 (fB h))) (by omega) h
 generalize h3:aO p2.2 2 0 t=p3 at e3 f3
 have z3:p3.2=0→c=0:=fun h=>z2 (fB (by rw [h3];exact h))
 have e4: ∀g,bZ k a 2 0 p3.2 g=g (aO p3.2 2 0 a):=fun g=>f7 (S:=S) hk (fun h=>(fa (z3 h)).fm (by omega) (by omega)) (by omega) (by omega) g
 have f4:(aO p3.2 2 0 a).2=0→Fd2 150 150 (aO p3.2 2 0 a).1:=fun h=>HJ (fa (z3 (fB h))) (by omega) h
 have y4:(aO p3.2 2 0 a).2=0→p3.2=0:=fun h=>fB h
 generalize h4:aO p3.2 2 0 a=p4 at e4 f4 y4
 have e5: ∀g,lm k p3.1 p4.1 (vN 1) (vN 0) p4.2 g=g (7,0,ByteArray.empty,(df p4.2 p3.1 p4.1 (vN 1) (vN 0)).1.kids,(df p4.2 p3.1 p4.1 (vN 1) (vN 0)).2):=
  fun g=>FR (S:=S) hk (fun h=>(f4 h).fm (by omega) (by omega)) (fun _=>fm_v1) (fun _=>fm_v0) g
 have f5:(df p4.2 p3.1 p4.1 (vN 1) (vN 0)).2=0→Fd2 153 1809 (df p4.2 p3.1 p4.1 (vN 1) (vN 0)).1:=fun h=>by
  have h0:=we h
  have:=zF h
  rw [h0,sI] at this
  rw [h0]
  exact oC (by omega) (by omega) (f3 (y4 h0)) (f4 h0) (g8 (by omega) (by omega) (.inr rfl)) (g8 (by omega) (by omega) (.inl rfl)) this
 have k5:(df p4.2 p3.1 p4.1 (vN 1) (vN 0)).1= .mk 7 0 ByteArray.empty [] (df p4.2 p3.1 p4.1 (vN 1) (vN 0)).1.kids []:=rfl
 have x5:(df p4.2 p3.1 p4.1 (vN 1) (vN 0)).2=0→c=0:=fun h=>z3 (y4 (we h))
 generalize h5:df p4.2 p3.1 p4.1 (vN 1) (vN 0)=p5 at e5 f5 k5 x5
 have e6: ∀g,nT k (.mk 7 0 ByteArray.empty [] p5.1.kids []) p5.2 g=g (7,0,ByteArray.empty,(dB p5.2 p5.1).1.kids,(dB p5.2 p5.1).2):=fun g=>by
  rw [←k5];exact Tc (S:=S) hk (fun h=>(f5 h).fm (by omega) (by omega)) g
 have hM:jf c t a=(aZ 7 [aZ 4 [t,p1.1],aZ 4 [p2.1,(dB p5.2 p5.1).1]],(dB p5.2 p5.1).2):=by
  unfold jf
  simp only [h1,h2,h3,h4,h5]
 have k6:(dB p5.2 p5.1).1= .mk 7 0 ByteArray.empty [] (dB p5.2 p5.1).1.kids []:=rfl
 simp only [rn,Gm,aj hk.fu,aF,pH hk hin (by simp),hc,pC t ht.1 _ ht.2.1,e1,e2,e3,e4,bh,eA,dR,ui]
 have e5':=e5
 unfold vN at e5'
 simp only [e5',e6,←k6]
 refine Eq.trans (b:=cE k (jf c t a).1 (jf c t a).2 fun r=>ret (r.1,r.2.1)) (by rw [hM];rfl) ?_
 refine (tZ hk (fun h=> ?_) ret).trans ?_
 ·have hz:c=0:=x5 (L0 (by rw [hM] at h;exact h))
  have:=zF h
  subst hz
  rw [A7] at this
  exact (A5 (by omega) (by omega) (ft rfl) (fa rfl) this).isIn hk (by omega) (by omega)
 ·subst hc
  exact congrArg (fun z=>ret (tE z)) (Gc (fun h=>by rw [h];exact A7 t a) fun h=>NG h t a)
end Go.Proofs.YtapmagaejigpnaaGreatDoor
namespace Go.Proofs.YtapmagaejigpnaaGreatDoor
open Go PI
set_option linter.unusedVariables false
set_option linter.unusedSimpArgs false
set_option maxRecDepth 20000
variable {S:Type} {k:Nat}
structure Gd (x:Except Int Tm):Prop where
 en: ∀e,x= .error e→0<e∧e≤1000
 kd: ∀t,x= .ok t→0≤t.kind
end Go.Proofs.YtapmagaejigpnaaGreatDoor
namespace Go.Proofs.YtapmagaejigpnaaGreatDoor
open Go PI
set_option linter.unusedVariables false
set_option linter.unusedSimpArgs false
set_option maxRecDepth 20000
variable {S:Type} {k:Nat}
section
variable {hd:Tm→(Tm→Option S)→Option S} {t:Tm}
end
def a7 (sys:List (Br Tm)):Tm:= .mk 15 0 ByteArray.empty [] [.mk 3 0 ByteArray.empty [] [] [],.mk 3 0 ByteArray.empty [] [] []] sys
theorem FY (hk:Fu k) (sys:List (Br Tm)) (ret:Int×Int×ByteArray×List Tm×List (Br Tm)→Option S):ln k sys ret=ret (15,0,ByteArray.empty,[.mk 3 0 ByteArray.empty [] [] [],.mk 3 0 ByteArray.empty [] [] []],sys):=by
 simp only [ln,Gv,aj hk,bh,eA]
end Go.Proofs.YtapmagaejigpnaaGreatDoor
namespace Go.Proofs.YtapmagaejigpnaaGreatDoor
open Go PI
set_option linter.unusedVariables false
set_option linter.unusedSimpArgs false
set_option maxRecDepth 20000
variable {S:Type} {k:Nat}
def bP (b:Br Tm):Tm:=b.kids.headD aB
structure SyF (sys:List (Br Tm)):Prop where
 kid: ∀b∈sys,b.kids=[bP b]∧Fm (bP b)∧al b.face∧b.face.length<1073741824
 len:sys.length≤20000
 siz:ay sys≤20000
theorem m9 {sys:List (Br Tm)} (h:Fm (a7 sys)):SyF sys:=by
 obtain ⟨h1,h2,h3⟩:=g9 h.2
 have hz:ax (a7 sys)=3+ay sys:=by unfold a7;rw [ax,ar,ar,ar,ax,ar,ay]
 have hd:ba sys+1≤aq (a7 sys):=by unfold a7;rw [aq];omega
 unfold a7 at h3
 rw [az] at h3
 simp only [Bool.and_eq_true] at h3
 obtain ⟨_,ho,_,hS⟩:=h3
 have ho:(sys.all (bJ 15 24)&&decide (([]:List Cl).length=0))=true:=by
  rw [cJ] at ho
  simp only [Bool.and_eq_true] at ho
  exact (Bool.and_eq_true _ _).symm▸ho.2
 simp only [Bool.and_eq_true] at ho
 have hb:=List.all_eq_true.1 ho.1
 rw [la,List.all_eq_true] at hS
 have hk: ∀b∈sys,b.kids=[bP b]∧Fm (bP b)∧al b.face∧b.face.length<1073741824:=by
  intro b hb'
  have h1':=hb b hb'
  unfold bJ at h1'
  simp only [Bool.and_eq_true,decide_eq_true_eq] at h1'
  have hl:b.kids.length=1:=by have:=h1'.1;rw [show dr 15=1 from rfl] at this;omega
  have hok:=h.1.br (by exact hb':b∈sys)
  match hb2:b.kids,hl with
  |[x],_=>
   have hx:bP b=x:=by unfold bP;rw [hb2];rfl
   have hmem:x∈b.kids:=by rw [hb2];simp
   rw [hx]
   refine ⟨rfl,⟨hok.2 x hmem,wh ?_ ?_ ?_⟩,hok.1.1,hok.1.2.1⟩
   ·have:=vU hmem;have:=Aw hb';omega
   ·have:=yB hmem;have:=F_ hb';omega
   ·have:=List.all_eq_true.1 (hS b hb') x hmem
    rw [←this]
    exact u6 x (by omega) (by decide)
 have hlen: ∀l:List (Br Tm),(∀b∈l,b.kids=[bP b])→l.length≤ay l:=by
  intro l
  induction l with
  |nil=>intro _;simp
  |cons b l ih=>
   intro hl
   rw [ay,jH,hl b (by simp),ar,ar,List.length_cons]
   have:=ih fun b hb=>hl b (by simp [hb])
   have:=yC (bP b)
   omega
 exact ⟨hk,by have:=hlen sys fun b hb=>(hk b hb).1;omega,by omega⟩
def gm (line:Tm):List (Br Tm)→Except Int (List (Br Tm))
 |[]=> .ok []
 |b::r=>bE (d6 [⟨1,0⟩,⟨2,0⟩] line) fun u=>bE (gm line r) fun l=> .ok (.mk b.face [.mk 14 0 ByteArray.empty [⟨1,0⟩] [u,bP b] []]::l)
def iR (line a:Tm) (sys:List (Br Tm)):Except Int Tm:=bE (eV 0 [⟨0,0⟩] line) fun l1=>bE (gm line sys) fun l=> .ok (.mk 15 0 ByteArray.empty [] [l1,aZ 14 [line,a]] l)
theorem SK:RF [⟨1,0⟩,⟨2,0⟩]:=by
 refine ⟨by rfl,fun c hc=> ?_⟩
 simp only [List.mem_cons,List.not_mem_nil,or_false] at hc
 rcases hc with rfl|rfl
 ·exact ⟨⟨by decide,by decide⟩,by decide,by decide⟩
 ·exact ⟨⟨by decide,by decide⟩,by decide,by decide⟩
theorem SJ:RF [⟨0,0⟩]:=fw ⟨⟨by decide,by decide⟩,by decide,by decide⟩
theorem Q_:al [⟨1,0⟩]:=fun c hc=>by simp at hc;subst hc;exact tj
theorem Uo {r:List Cl} {t y:Tm} (ht:Fm t) (h:eV 0 r t= .ok y):OkT y∧aq y≤200∧ax y≤20000:=by
 obtain ⟨w1,w2,w3,w4⟩:=HA h
 have h4:=w4 ht.ok ht.rows
 have:=ht.dep;have:=ht.siz
 exact ⟨h4.1,by omega,by omega⟩
theorem LX {line:Tm}: ∀ {r:List (Br Tm)} {e:Int},gm line r= .error e→0<e∧e≤1000:=by
 intro r
 induction r with
 |nil=>intro e h;cases h
 |cons b r ih=>
  intro e h
  rcases aL h with h|⟨_,_,h⟩
  ·exact lb h
  rcases aL h with h|⟨_,_,h⟩
  ·exact ih h
  ·cases h
theorem LW {line a:Tm} {sys:List (Br Tm)} {e:Int} (h:iR line a sys= .error e):0<e∧e≤1000:=by
 rcases aL h with h|⟨_,_,h⟩
 ·exact zE h
 rcases aL h with h|⟨_,_,h⟩
 ·exact LX h
 ·cases h
theorem LY {line:Tm} (hl:Fm line): ∀ {r l:List (Br Tm)},(∀b∈r,b.kids=[bP b]∧Fm (bP b)∧al b.face∧b.face.length<1073741824)→gm line r= .ok l→aX l∧ba l≤201∧ay l≤r.length*20001+ay r∧l.length=r.length:=by
 intro r
 induction r with
 |nil=>
  intro l _ h
  injection h with h;subst h
  rw [aX,ba,ay]
  exact ⟨trivial,by omega,by omega,rfl⟩
 |cons b r ih=>
  intro l hr h
  obtain ⟨u,h1,h⟩:=ah h
  obtain ⟨l',h2,h⟩:=ah h
  injection h with h;subst h
  obtain ⟨b1,b2,b3,b4⟩:=hr b (by simp)
  obtain ⟨i1,i2,i3,i4⟩:=ih (fun b hb=>hr b (by simp [hb])) h2
  obtain ⟨a1,a2,a3,a4⟩:=va hl h1
  have:=b2.dep
  refine ⟨?_, ?_, ?_,by simp [i4]⟩
  ·rw [aX,eY,aR,aR,OkT,aR,aR,aR,aX]
   refine ⟨⟨⟨b3,b4,by simp⟩,⟨⟨by unfold aA;omega,by unfold aA;omega,by show 0<_;omega,Q_,by simp,by simp,by simp⟩,⟨a1,b2.ok,trivial⟩,trivial⟩,trivial⟩,i1⟩
  ·rw [ba,g0,aJ,aJ,aq,aJ,aJ,aJ,ba];omega
  ·rw [ay,f_,ar,ar,ax,ar,ar,ar,ay,ay,jH,b1,ar,ar,List.length_cons,Nat.add_mul];omega
theorem An (hk:F3 k) {line a:Tm} {sys:List (Br Tm)} (hl:Fm line) (ha:Fm a) (hs:SyF sys) {t:Tm} (h:iR line a sys= .ok t):In k t∧0≤t.kind:=by
 obtain ⟨l1,h1,h⟩:=ah h
 obtain ⟨l,h2,h⟩:=ah h
 injection h with h;subst h
 obtain ⟨a1,a2,a3⟩:=Uo hl h1
 obtain ⟨i1,i2,i3,i4⟩:=LY hl hs.kid h2
 have:=hs.len;have:=hs.siz;have:=hl.dep;have:=ha.dep;have:=hl.siz;have:=ha.siz
 have hm:sys.length*20001≤20000*20001:=Nat.mul_le_mul_right _ hs.len
 refine ⟨⟨?_,hk.fd ?_, ?_⟩,(by decide:(0:Int)≤15)⟩
 ·rw [OkT,aR,aR,aR]
  exact ⟨⟨by unfold aA;omega,by unfold aA;omega,by show 0<_;omega,fun c hc=>(by cases hc),by simp,by simp,by omega⟩,⟨a1,tk (by omega) (by simp) fun x hx=>by
   simp at hx
   rcases hx with rfl|rfl
   ·exact hl.ok
   ·exact ha.ok,trivial⟩,i1⟩
 ·unfold aZ;rw [aq,aJ,aJ,aJ,aq,aJ,aJ,aJ,ba];omega
 ·unfold aZ;rw [ax,ar,ar,ar,ax,ar,ar,ar,ay];omega
theorem Tf (hk:F3 k) {c:Int} {t:Tm} (h:c=0→Fm t) (ret:Tm×Int→Option S):rq k t c ret=ret (if c=0 then tE (eV 0 [⟨0,0⟩] t) else (aB,c)):=by
 simp only [rq,Gt,aj hk.fu,ca,dL,bO,n7,y_,aF]
 by_cases hc:c=0
 ·subst hc
  rw [if_pos rfl,show decide ((0:Int)=0)=true from rfl,Bool.not_true,ad,FE hk (h rfl) (by omega) SJ]
  simp only [jG,if_true]
 ·rw [decide_eq_false hc,Bool.not_false,ag,if_neg hc];rfl
theorem wG (hk:F3 k) (ret:Tm×Int→Option S) {line:Tm} {q:Int×Int×ByteArray×List Tm} {w:Tm} {c:Int} (hc:c≠0) (hw:w.sys.length<1073741824):
  ∀ (r p acc:List (Br Tm)) (m:Nat),w.sys=p++r→0<m→h9 k ret line q w m c acc (p.length:Int)=ret (aB,c):=by
 intro r p acc m h hm
 obtain ⟨m,rfl⟩: ∃j,m=j+1:=⟨m-1,by omega⟩
 cases r with
 |nil=>simp only [h9,lc,aU h,ad,aj hk.fu,f0 hc hk,aF]
 |cons x r=>
  obtain ⟨e1,e2,e3,e4⟩:=aS h (by omega)
  simp only [h9,lc,e1,ag,e2,Option.bind_some,aj hk.fu,ca,dL,bO,decide_eq_false hc,Bool.not_false,f0 hc hk,aF]
theorem Pu (hk:F3 k) (ret:Tm×Int→Option S) {line:Tm} (hl:Fm line) {q:Int×Int×ByteArray×List Tm} {w:Tm} (hw:w.sys.length<1073741824) (hs: ∀b∈w.sys,b.kids=[bP b]):
  ∀ (r p acc:List (Br Tm)) (m:Nat),w.sys=p++r→r.length<m→acc.length+r.length<1073741824→
   h9 k ret line q w m 0 acc (p.length:Int)=eE (gm line r) (fun l=>cE k (.mk q.1 q.2.1 q.2.2.1 [] q.2.2.2 (acc++l)) 0 fun z=>ret (z.1,z.2.1)) fun e=>ret (aB,e):=by
 intro r
 induction r with
 |nil=>
  intro p acc m h hm ha
  obtain ⟨m,rfl,hm'⟩:=am hm
  simp only [h9,lc,aU h,ad,aj hk.fu,aF,gm,bp,List.append_nil]
 |cons x r ih=>
  intro p acc m h hm ha
  obtain ⟨m,rfl,hm'⟩:=am hm
  obtain ⟨e1,e2,e3,e4⟩:=aS h (by omega)
  have hx:=hs x (by rw [h];simp)
  have hg:av x.kids 0=some (bP x):=by rw [hx];rfl
  have hat: ∀g:Tm×Int→Option S,fI k line [⟨1,0⟩,⟨2,0⟩] 0 g=g (tE (d6 [⟨1,0⟩,⟨2,0⟩] line)):=fun g=>yn hk hl SK g
  simp only [h9,lc,e1,ag,e2,Option.bind_some,aj hk.fu,ca,dL,bO,show decide ((0:Int)=0)=true from rfl,Bool.not_true,ad,aF,hat,hg,bh,eA]
  rw [bM (by simp at ha ⊢;omega),gm,a6]
  cases hx2:d6 [⟨1,0⟩,⟨2,0⟩] line with
  |error e=>
   have he:=lb hx2
   rw [e3]
   exact wG hk ret (show e≠0 by omega) hw r (p++[x]) _ m e4 (by simp at hm';omega)
  |ok u=>
   rw [bp,a6,e3]
   refine (ih (p++[x]) (acc++[.mk x.face [.mk 14 0 ByteArray.empty [⟨1,0⟩] [u,bP x] []]]) m e4 hm' (by simp at ha ⊢;omega)).trans ?_
   refine bW (fun l _=> ?_) fun _ _=>rfl
   rw [bp,List.append_assoc];rfl
theorem S0 (hk:F3 k) {line a:Tm} {sys:List (Br Tm)} (hl:In k line) (ha:In k a) (hs:In k (a7 sys)) (ret:Tm×Int→Option S):rl k line a sys ret=ret (tE (eS [line,a,a7 sys] (iR line a sys))):=by
 have hin: ∀x∈[line,a,a7 sys],In k x:=fun x hx=>by
  simp at hx
  rcases hx with rfl|rfl|rfl<;>assumption
 have hfm:bN [line,a,a7 sys]=0→ ∀x∈[line,a,a7 sys],Fm x:=fun h=>iz (fun x hx=>(hin x hx).1) h
 have hsl:sys.length<1073741824:=hs.1.node.2.2.2.2.2.2
 simp only [rl,yF,aj hk.fu,aF,FY hk.fu]
 have hb: ∀g:Int→Option S,gn k [line,a,.mk 15 0 ByteArray.empty [] [.mk 3 0 ByteArray.empty [] [] [],.mk 3 0 ByteArray.empty [] [] []] sys] g=g (bN [line,a,a7 sys]):=fun g=>pH hk hin (by simp) g
 have hc: ∀g:Tm→Option S,dl k (.mk 15 0 ByteArray.empty [] [.mk 3 0 ByteArray.empty [] [] [],.mk 3 0 ByteArray.empty [] [] []] sys) g=g (a7 sys):=fun g=>pC (a7 sys) hs.1 g hs.2.1
 simp only [hb,hc,pC line hl.1 _ hl.2.1,pC a ha.1 _ ha.2.1,Tf hk (fun h=>hfm h line (by simp)),bh,eA]
 unfold eS
 by_cases h0:bN [line,a,a7 sys]=0
 ·have fl:=hfm h0 line (by simp)
  have fa:=hfm h0 a (by simp)
  have sy:=m9 (hfm h0 (a7 sys) (by simp))
  simp only [h0,if_true]
  have hret:ret (tE (dD (iR line a sys)))=eE (iR line a sys) (fun t=>cE k t 0 fun z=>ret (z.1,z.2.1)) fun e=>ret (aB,e):=by
   unfold dD
   rw [eQ _ ret,a6]
   refine bW (fun t ht=> ?_) fun _ _=>rfl
   rw [←eQ _ ret]
   exact ((tZ hk (t:=t) (c:=0) (fun _=>(An hk fl fa sy ht).1) ret).trans rfl).symm
  rw [hret]
  unfold iR
  rw [a6]
  cases h1:eV 0 [⟨0,0⟩] line with
  |error e=>
   have he:=zE h1
   exact wG hk ret (w:=a7 sys) (show e≠0 by omega) hsl sys [] [] k rfl (by have:4294968296≤k:=hk;omega)
  |ok l1=>
   rw [bp,a6]
   refine (Pu hk ret fl (w:=a7 sys) hsl (fun b hb=>(sy.kid b hb).1) sys [] [] k rfl (by have:4294968296≤k:=hk;omega) (by simp;omega)).trans ?_
   exact bW (fun l _=>rfl) fun _ _=>rfl
 ·simp only [if_neg h0]
  exact wG hk ret (w:=a7 sys) h0 hsl sys [] [] k rfl (by have:4294968296≤k:=hk;omega)
end Go.Proofs.YtapmagaejigpnaaGreatDoor
namespace Go.Proofs.YtapmagaejigpnaaGreatDoor
open Go PI
set_option linter.unusedVariables false
set_option linter.unusedSimpArgs false
set_option maxRecDepth 20000
variable {S:Type} {k:Nat}
def gx:List (Br Tm)→Except Int (List (Br Tm))
 |[]=> .ok []
 |b::r=>bE (cG (be b.face 0 1)) fun f=>bE (d6 [⟨3,0⟩] (bP b)) fun u=>bE (gx r) fun l=> .ok (.mk f [u]::l)
def jg (t a:Tm) (sys:List (Br Tm)):Except Int Tm:=bE (bw 0 1 t) fun t'=>bE (bw 0 1 a) fun a'=>bE (gx sys) fun l=>bE (bw 0 2 a) fun a2=> .ok (.mk 15 0 ByteArray.empty [] [t',a'] (l++[.mk [⟨0,1⟩] [a2]]))
theorem NP: ∀ {r:List (Br Tm)} {e:Int},gx r= .error e→0<e∧e≤1000:=by
 intro r
 induction r with
 |nil=>intro e h;cases h
 |cons b r ih=>
  intro e h
  rcases aL h with h|⟨_,_,h⟩
  ·exact zG (oM _ _ _) h
  rcases aL h with h|⟨_,_,h⟩
  ·exact lb h
  rcases aL h with h|⟨_,_,h⟩
  ·exact ih h
  ·cases h
theorem NO {t a:Tm} {sys:List (Br Tm)} {e:Int} (h:jg t a sys= .error e):0<e∧e≤1000:=by
 rcases aL h with h|⟨_,_,h⟩
 ·exact cm h
 rcases aL h with h|⟨_,_,h⟩
 ·exact cm h
 rcases aL h with h|⟨_,_,h⟩
 ·exact NP h
 rcases aL h with h|⟨_,_,h⟩
 ·exact cm h
 ·cases h
theorem NQ: ∀ {r l:List (Br Tm)},(∀b∈r,b.kids=[bP b]∧Fm (bP b)∧al b.face∧b.face.length<1073741824)→gx r= .ok l→aX l∧ba l≤201∧ay l≤r.length*20001∧l.length=r.length:=by
 intro r
 induction r with
 |nil=>
  intro l _ h
  injection h with h;subst h
  rw [aX,ba,ay]
  exact ⟨trivial,by omega,by omega,rfl⟩
 |cons b r ih=>
  intro l hr h
  obtain ⟨f,h0,h⟩:=ah h
  obtain ⟨u,h1,h⟩:=ah h
  obtain ⟨l',h2,h⟩:=ah h
  injection h with h;subst h
  obtain ⟨b1,b2,b3,b4⟩:=hr b (by simp)
  obtain ⟨i1,i2,i3,i4⟩:=ih (fun b hb=>hr b (by simp [hb])) h2
  obtain ⟨a1,a2,a3,a4⟩:=va b2 h1
  obtain ⟨g1,rfl⟩:=eB h0
  have hf:=fg g1
  have:=hf.len
  refine ⟨?_, ?_, ?_,by simp [i4]⟩
  ·rw [aX,eY,aR,aR]
   exact ⟨⟨⟨hf.2,by omega,by simp⟩,a1,trivial⟩,i1⟩
  ·rw [ba,g0,aJ,aJ];omega
  ·rw [ay,f_,ar,ar,List.length_cons,Nat.add_mul];omega
theorem Q8 {l l':List (Br Tm)} (h:aX l) (h':aX l'):aX (l++l'):=by
 rw [okS_iff] at*
 intro b hb
 rcases List.mem_append.1 hb with hb|hb
 ·exact h b hb
 ·exact h' b hb
theorem L8 (l l':List (Br Tm)):ba (l++l')=max (ba l) (ba l'):=by
 induction l with
 |nil=>rw [List.nil_append,ba];omega
 |cons b l ih=>rw [List.cons_append,ba,ba,ih];omega
theorem TV (l l':List (Br Tm)):ay (l++l')=ay l+ay l':=by
 induction l with
 |nil=>rw [List.nil_append,ay];omega
 |cons b l ih=>rw [List.cons_append,ay,ay,ih];omega
theorem Q9:al [⟨0,1⟩]:=fun c hc=>by simp at hc;subst hc;exact ti
theorem Ba (hk:F3 k) {t a:Tm} {sys:List (Br Tm)} (ht:Fm t) (ha:Fm a) (hs:SyF sys) {x:Tm} (h:jg t a sys= .ok x):In k x∧0≤x.kind:=by
 obtain ⟨t',h1,h⟩:=ah h
 obtain ⟨a',h2,h⟩:=ah h
 obtain ⟨l,h3,h⟩:=ah h
 obtain ⟨a2,h4,h⟩:=ah h
 injection h with h;subst h
 have f1:=um (by omega) ht h1
 have f2:=um (by omega) ha h2
 have f4:=um (by omega) ha h4
 obtain ⟨i1,i2,i3,i4⟩:=NQ hs.kid h3
 have:=hs.len;have:=f1.dep;have:=f2.dep;have:=f4.dep;have:=f1.siz;have:=f2.siz;have:=f4.siz
 have hm:sys.length*20001≤20000*20001:=Nat.mul_le_mul_right _ hs.len
 refine ⟨⟨?_,hk.fd ?_, ?_⟩,(by decide:(0:Int)≤15)⟩
 ·rw [OkT,aR,aR,aR]
  refine ⟨⟨by unfold aA;omega,by unfold aA;omega,by show 0<_;omega,fun c hc=>(by cases hc),by simp,by simp,by simp;omega⟩,⟨f1.ok,f2.ok,trivial⟩,Q8 i1 ?_⟩
  rw [aX,aX,eY,aR,aR]
  exact ⟨⟨⟨Q9,by simp,by simp⟩,f4.ok,trivial⟩,trivial⟩
 ·rw [aq,aJ,aJ,aJ,L8,ba,ba,g0,aJ,aJ];omega
 ·rw [ax,ar,ar,ar,TV,ay,ay,f_,ar,ar];omega
theorem oH (hk:F3 k) (ret:Tm×Int→Option S) {a:Tm} {q:Int×Int×ByteArray×List Tm} {sys:List (Br Tm)} {c:Int} (hc:c≠0) (hsl:sys.length<1073741824):
  ∀ (r p acc:List (Br Tm)) (m:Nat),sys=p++r→0<m→acc.length<1073741824→ff k ret a q sys m c acc (p.length:Int)=ret (aB,c):=by
 intro r p acc m h hm ha
 obtain ⟨m,rfl⟩: ∃j,m=j+1:=⟨m-1,by omega⟩
 have hr: ∀ (b:Br Tm) (f:Unit→Option S),Option.bind (aP 1099511627776 acc.length [b].length) f=f ():=fun b f=>bM (by simp;omega) f
 cases r with
 |nil=>simp only [ff,ld,aU h,ad,aj hk.fu,kU hc hk,f0 hc hk,aF,hr]
 |cons x r=>
  obtain ⟨e1,e2,e3,e4⟩:=aS h (by omega)
  simp only [ff,ld,e1,ag,e2,Option.bind_some,aj hk.fu,ca,dL,bO,decide_eq_false hc,Bool.not_false,kU hc hk,f0 hc hk,aF,hr]
theorem PM (hk:F3 k) (ret:Tm×Int→Option S) {a:Tm} (ha:Fm a) {q:Int×Int×ByteArray×List Tm} {sys:List (Br Tm)} (hsl:sys.length<1073741824) (hs: ∀b∈sys,b.kids=[bP b]∧Fm (bP b)∧al b.face∧b.face.length<1073741824):
  ∀ (r p acc:List (Br Tm)) (m:Nat),sys=p++r→r.length<m→acc.length+r.length<1073741823→
   ff k ret a q sys m 0 acc (p.length:Int)=eE (bE (gx r) fun l=>bE (bw 0 2 a) fun a2=> .ok (l++[.mk [⟨0,1⟩] [a2]])) (fun l=>cE k (.mk q.1 q.2.1 q.2.2.1 [] q.2.2.2 (acc++l)) 0 fun z=>ret (z.1,z.2.1)) fun e=>ret (aB,e):=by
 intro r
 induction r with
 |nil=>
  intro p acc m h hm hacc
  obtain ⟨m,rfl,hm'⟩:=am hm
  have hr: ∀ (b:Br Tm) (f:Unit→Option S),Option.bind (aP 1099511627776 acc.length [b].length) f=f ():=fun b f=>bM (by simp at hacc ⊢;omega) f
  have hup: ∀g:Tm×Int→Option S,bZ k a 0 2 0 g=g (tE (bw 0 2 a)):=fun g=>yv hk ha (by omega) (by omega) g
  simp only [ff,ld,aU h,ad,aj hk.fu,aF,hup,hr,gx,ao]
  cases hu:bw 0 2 a with
  |error e=>
   have he:=cm hu
   show cE k _ e _=ret (aB,e)
   rw [f0 (show e≠0 by omega) hk]
  |ok a2=>rfl
 |cons x r ih=>
  intro p acc m h hm hacc
  obtain ⟨m,rfl,hm'⟩:=am hm
  obtain ⟨e1,e2,e3,e4⟩:=aS h (by omega)
  obtain ⟨x1,x2,x3,x4⟩:=hs x (by rw [h];simp)
  have hg:av x.kids 0=some (bP x):=by rw [x1];rfl
  have hr: ∀ (b:Br Tm) (f:Unit→Option S),Option.bind (aP 1099511627776 acc.length [b].length) f=f ():=fun b f=>bM (by simp at hacc ⊢;omega) f
  have hrow: ∀g:List Cl×Int→Option S,gq k x.face 0 g=g (be x.face 0 1):=fun g=>FW hk x3 x4 g
  simp only [ff,ld,e1,ag,e2,Option.bind_some,aj hk.fu,ca,dL,bO,show decide ((0:Int)=0)=true from rfl,Bool.not_true,ad,aF,hrow,hg,hr]
  rw [gx,a6,a6]
  by_cases h1:(be x.face 0 1).2=0
  ·rw [jJ h1,bp,h1,yn hk x2 E7,a6]
   cases h2:d6 [⟨3,0⟩] (bP x) with
   |error e=>
    have he:=lb h2
    rw [e3]
    exact oH hk ret (show e≠0 by omega) hsl r (p++[x]) _ m e4 (by simp at hm';omega) (by simp at hacc ⊢;omega)
   |ok u=>
    rw [bp,e3]
    refine (ih (p++[x]) (acc++[.mk (be x.face 0 1).1 [u]]) m e4 hm' (by simp at hacc ⊢;omega)).trans ?_
    rw [a6,a6]
    refine bW (fun l _=> ?_) fun _ _=>rfl
    rw [a6,bp,a6]
    refine bW (fun a2 _=> ?_) fun _ _=>rfl
    rw [bp,bp,List.append_assoc];rfl
  ·rw [kW h1,tY h1 hk,e3]
   exact oH hk ret h1 hsl r (p++[x]) _ m e4 (by simp at hm';omega) (by simp at hacc ⊢;omega)
theorem S5 (hk:F3 k) {t a:Tm} {sys:List (Br Tm)} (ht:In k t) (ha:In k a) (hs:In k (a7 sys)) (ret:Tm×Int→Option S):nQ k t a sys ret=ret (tE (eS [t,a,a7 sys] (jg t a sys))):=by
 have hin: ∀x∈[t,a,a7 sys],In k x:=fun x hx=>by
  simp at hx
  rcases hx with rfl|rfl|rfl<;>assumption
 have hfm:bN [t,a,a7 sys]=0→ ∀x∈[t,a,a7 sys],Fm x:=fun h=>iz (fun x hx=>(hin x hx).1) h
 have hsl:sys.length<1073741824:=hs.1.node.2.2.2.2.2.2
 have hb: ∀g:Int→Option S,gn k [t,a,.mk 15 0 ByteArray.empty [] [.mk 3 0 ByteArray.empty [] [] [],.mk 3 0 ByteArray.empty [] [] []] sys] g=g (bN [t,a,a7 sys]):=fun g=>pH hk hin (by simp) g
 simp only [nQ,yG,aj hk.fu,aF,FY hk.fu,hb,bh,eA,f7 hk (fun h=>hfm h t (by simp)) (show (0:Int)≤0∧(0:Int)≤1000000 by omega) (show (0:Int)≤1∧(1:Int)<9223372036854775808 by omega),
  f7 hk (fun h=>hfm (fB h) a (by simp)) (show (0:Int)≤0∧(0:Int)≤1000000 by omega) (show (0:Int)≤1∧(1:Int)<9223372036854775808 by omega)]
 unfold eS
 have hfuel:sys.length<k:=by have:4294968296≤k:=hk;omega
 by_cases h0:bN [t,a,a7 sys]=0
 ·have fl:=hfm h0 t (by simp)
  have fa:=hfm h0 a (by simp)
  have sy:=m9 (hfm h0 (a7 sys) (by simp))
  have hlen:=sy.len
  rw [h0,if_pos rfl,gc]
  have hret:ret (tE (dD (jg t a sys)))=eE (jg t a sys) (fun t=>cE k t 0 fun z=>ret (z.1,z.2.1)) fun e=>ret (aB,e):=by
   unfold dD
   rw [eQ _ ret,a6]
   refine bW (fun t ht=> ?_) fun _ _=>rfl
   rw [←eQ _ ret]
   exact ((tZ hk (t:=t) (c:=0) (fun _=>(Ba hk fl fa sy ht).1) ret).trans rfl).symm
  rw [hret]
  unfold jg
  rw [a6]
  cases h1:bw 0 1 t with
  |error e=>
   have he:=cm h1
   show ff k ret a _ sys k (aO e 0 1 a).2 [] 0=ret (aB,e)
   rw [dx (show e≠0 by omega)]
   exact oH hk ret (show e≠0 by omega) hsl sys [] [] k rfl (by omega) (by simp)
  |ok t'=>
   rw [bp,a6]
   show ff k ret a (15,0,ByteArray.empty,[t',(aO 0 0 1 a).1]) sys k (aO 0 0 1 a).2 [] 0=_
   rw [gc]
   cases h2:bw 0 1 a with
   |error e=>
    have he:=cm h2
    exact oH hk ret (show e≠0 by omega) hsl sys [] [] k rfl (by omega) (by simp)
   |ok a'=>
    rw [bp]
    refine (PM hk ret fa hsl sy.kid sys [] [] k rfl hfuel (by simp;omega)).trans ?_
    rw [a6,a6]
    refine bW (fun l _=> ?_) fun _ _=>rfl
    rw [a6,a6]
    exact bW (fun l _=>rfl) fun _ _=>rfl
 ·rw [if_neg h0,dx h0]
  show ff k ret a _ sys k (aO (bN [t,a,a7 sys]) 0 1 a).2 [] 0=_
  rw [dx h0]
  exact oH hk ret h0 hsl sys [] [] k rfl (by omega) (by simp)
theorem HU (hk:F3 k) {sys:List (Br Tm)} (h:In k (.mk 0 0 ByteArray.empty [] [] sys)) (hz:ay sys<1000000000) (hd:Fd k (ba sys+2)):In k (a7 sys):=by
 obtain ⟨h1,h2,h3⟩:=h
 unfold a7
 refine ⟨?_, ?_, ?_⟩
 ·rw [OkT] at h1 ⊢
  refine ⟨⟨by unfold aA;omega,h1.1.2.1,h1.1.2.2.1,h1.1.2.2.2.1,h1.1.2.2.2.2.1,by simp,h1.1.2.2.2.2.2.2⟩, ?_,h1.2.2⟩
  rw [okK_iff]
  intro x hx
  have hx:x=aZ 3 []:=by simp at hx;exact hx
  subst hx
  exact tk (by omega) (by simp) fun x hx=>by cases hx
 ·rw [aq,aJ,aJ,aJ,aq,aJ,ba]
  unfold Fd at*;omega
 ·rw [ax,ar,ar,ar,ax,ar,ay];omega
end Go.Proofs.YtapmagaejigpnaaGreatDoor
namespace Go.Proofs.YtapmagaejigpnaaGreatDoor
open Go PI
set_option linter.unusedVariables false
set_option linter.unusedSimpArgs false
set_option maxRecDepth 20000
theorem t8 {V D:Int} {t:Tm} (h:aG V D t):D≤24:=by
 cases t
 unfold aG at h
 rw [az] at h
 simp only [Bool.true_and,Bool.and_eq_true,Bool.not_eq_true',decide_eq_false_iff_not] at h
 omega
theorem iw {V D kd:Int} {l:List Tm} (h1:kd≠1∧kd≠2) (hk:fO kd=l.length) (hD:D≤24) (ha:bt true V D kd 0 l=true):aG V D (aZ kd l):=by
 unfold aG aZ
 rw [az,bg]
 simp only [Bool.true_and,Bool.and_eq_true,Bool.not_eq_true',decide_eq_false_iff_not,Bool.and_true]
 refine ⟨by omega, ?_,ha⟩
 unfold cJ
 simp only [Bool.and_eq_true,decide_eq_true_eq]
 refine ⟨⟨hk,by simp,by simp,fun _=>rfl⟩, ?_⟩
 rw [if_neg h1.1,if_neg h1.2]
 have hl:bX [] D=true:=B_ D [] rfl
 split
 ·rw [hl];rfl
 ·split
  ·rw [hl];rfl
  ·rfl
theorem pM {V D n:Int} (hn:0≤n) (hV:n<V) (hD:D≤24):aG V D (vN n):=by
 unfold aG vN
 rw [az,bg,bt]
 simp only [Bool.true_and,Bool.and_eq_true,Bool.not_eq_true',decide_eq_false_iff_not,Bool.and_true]
 refine ⟨by omega, ?_⟩
 unfold cJ
 simp only [Bool.and_eq_true,decide_eq_true_eq]
 exact ⟨⟨rfl,by simp,by simp,fun _=>rfl⟩,by simp;omega⟩
theorem eR {V D a b:Int} {t t':Tm} (hf:Fm t) (ha:0≤a∧a≤1000) (hb:0≤b) (hV:0≤V) (hs:aG V D t) (hd:D+b+aD t≤24) (h:bw a b t= .ok t'):aG (V+a) (D+b) t':=by
 unfold bw at h
 obtain ⟨m,h1,h2⟩:=ah h
 have fm:=kA (by omega) hf h1
 have s1:=yy ha.1 (by decide) t (Int.le_refl 0) hV hf.ok hf.rows hs (by omega) h1
 have e:aD m=aD t:=vg t h1
 have s2:=yy (Int.le_refl 0) hb m (Int.le_refl 0) (by omega) fm.ok fm.rows s1 (by omega) h2
 rw [Int.add_zero,Int.add_zero] at s2;exact s2
theorem TR {V D:Int} {t t':Tm} (hf:Fm t) (hD:0≤D) (hs:aG V (D+1) t) (h:eV 0 [⟨0,0⟩] t= .ok t'):aG V D t':=by
 rw [Us] at h
 refine F5 (c:=D) (fw mS) ?_ t (Int.le_refl 0) hD (by omega) hf.ok hf.rows hs h
 exact lits_one.2 fun j hj=>by rcases hj with hj|hj<;>simp [hp,hn] at hj
theorem yx {V D:Int} {r s:List Cl} {t t':Tm} (hr:be r 0 1=(s,0)) (hl:aH (fun j=>j=1∨j=2) s) (hf:Fm t) (hD:0≤D) (hV:0≤V) (hs:aG V (D+1) t) (hd:D+3+aD t≤24) (h:d6 r t= .ok t'):aG V (D+2) t':=by
 have rs:RF s:=by
  have:=fg (f:=r) (i:=0) (b:=1) (by rw [hr])
  rw [hr] at this;exact this
 unfold d6 at h
 obtain ⟨m,h1,h⟩:=ah h
 unfold eV at h
 rw [hr,jJ rfl,ao] at h
 have fm:=kA (by omega) hf h1
 have s1:=yy (Int.le_refl 0) (by omega) t (by omega) hV hf.ok hf.rows hs (by omega) h1
 rw [Int.add_zero] at s1
 refine F5 (c:=D+2) rs (gE hl fun j hj=>by omega) m (Int.le_refl 0) (by omega) (by omega) fm.ok fm.rows ?_ h
 rw [show D+2+1=D+1+2 by omega];exact s1
theorem iO (j:Nat):((1:Nat).testBit j=true↔j=0)∧((2:Nat).testBit j=true↔j=1)∧((4:Nat).testBit j=true↔j=2):=by
 refine ⟨?_, ?_, ?_⟩
 ·rw [show 1=2^0 from rfl,Nat.testBit_two_pow,decide_eq_true_eq];exact eq_comm
 ·rw [show 2=2^1 from rfl,Nat.testBit_two_pow,decide_eq_true_eq];exact eq_comm
 ·rw [show 4=2^2 from rfl,Nat.testBit_two_pow,decide_eq_true_eq];exact eq_comm
theorem B5:aH (fun j=>j=1∨j=2) [⟨6,0⟩]:=lits_one.2 fun j hj=>hj.elim (TU j).1 fun h=>absurd h (na _ _)
theorem Qw:aH (fun j=>j=1∨j=2) [⟨2,0⟩,⟨4,0⟩]:=fun c hc j hj=>by
 simp at hc
 rcases hc with rfl|rfl
 ·exact hj.elim (fun h=> .inl ((iO j).2.1.1 h)) fun h=>absurd h (na _ _)
 ·exact hj.elim (fun h=> .inr ((iO j).2.2.1 h)) fun h=>absurd h (na _ _)
theorem Qv:aH (fun j=>j=1∨j=2) [⟨0,2⟩,⟨4,0⟩]:=fun c hc j hj=>by
 simp at hc
 rcases hc with rfl|rfl
 ·exact hj.elim (fun h=>by simp [hp] at h) fun h=> .inl ((iO j).2.1.1 h)
 ·exact hj.elim (fun h=> .inr ((iO j).2.2.1 h)) fun h=>absurd h (na _ _)
theorem Ld {V D kd:Int} {i:Nat} {t:Tm}:bt true V D kd i [t]=true↔az true (aW V (dj kd i)) (D+bj kd i) t=true:=by
 rw [bt,bt,Bool.and_true]
theorem all2 {V D kd:Int} {i:Nat} {t u:Tm}:bt true V D kd i [t,u]=true↔az true (aW V (dj kd i)) (D+bj kd i) t=true∧az true (aW V (dj kd (i+1:Nat))) (D+bj kd (i+1:Nat)) u=true:=by
 rw [bt,Bool.and_eq_true,Ld]
theorem all3 {V D kd:Int} {i:Nat} {t u w:Tm}:bt true V D kd i [t,u,w]=true↔az true (aW V (dj kd i)) (D+bj kd i) t=true∧az true (aW V (dj kd (i+1:Nat))) (D+bj kd (i+1:Nat)) u=true∧az true (aW V (dj kd (i+1+1:Nat))) (D+bj kd (i+1+1:Nat)) w=true:=by
 rw [bt,Bool.and_eq_true,all2]
theorem dN (V:Int):aW V 0=V:=by unfold aW;split<;>omega
theorem m8 {V:Int} (h:0≤V):aW V 1=V+1:=by unfold aW;rw [if_neg (by omega)]
theorem yw {V D:Int} {r:List Cl} {l a:Tm} (hr:bB r=true) (hlow:bX r D=true) (hD:D≤24) (hl:aG V (D+1) l) (ha:aG V D a):aG V D (.mk 14 0 ByteArray.empty r [l,a] []):=by
 unfold aG
 rw [az,bg]
 simp only [Bool.true_and,Bool.and_eq_true,Bool.not_eq_true',decide_eq_false_iff_not,Bool.and_true]
 refine ⟨by omega, ?_, ?_⟩
 ·show (true&&(bB r&&bX r D))=true
  rw [hr,hlow];rfl
 ·rw [all2]
  show az true (aW V 0) (D+1) l=true∧az true (aW V 0) (D+0) a=true
  rw [dN,Int.add_zero];exact ⟨hl,ha⟩
theorem F0 {V D:Int} {l a:Tm} {sys:List (Br Tm)} (hD:D≤24) (hl:aG V D l) (ha:aG V D a) (hb:sys.all (bJ 15 D)=true) (hs:bg true V D 15 sys=true):aG V D (.mk 15 0 ByteArray.empty [] [l,a] sys):=by
 unfold aG
 rw [az,hs]
 simp only [Bool.true_and,Bool.and_eq_true,Bool.not_eq_true',decide_eq_false_iff_not,Bool.and_true]
 refine ⟨by omega, ?_, ?_⟩
 ·show (true&&(sys.all (bJ 15 D)&&true))=true
  rw [hb];rfl
 ·rw [all2]
  show az true (aW V 0) (D+0) l=true∧az true (aW V 0) (D+0) a=true
  rw [dN,Int.add_zero];exact ⟨hl,ha⟩
theorem HV {V D:Int} {sys:List (Br Tm)} (h:aG V D (a7 sys)):sys.all (bJ 15 D)=true∧bg true V D 15 sys=true:=by
 unfold aG a7 at h
 rw [az] at h
 simp only [Bool.true_and,Bool.and_eq_true,Bool.not_eq_true',decide_eq_false_iff_not] at h
 obtain ⟨_,h1,_,h2⟩:=h
 have h1:(true&&(sys.all (bJ 15 D)&&true))=true:=h1
 rw [Bool.true_and,Bool.and_true] at h1
 exact ⟨h1,h2⟩
theorem QK {D:Int} (hD:1≤D):bX [⟨1,0⟩] D=true:=(ij (fw Sy)).2 (lits_one.2 fun j hj=>by
 rcases hj with hj|hj
 ·have:=(iO j).1.1 hj;omega
 ·exact absurd hj (na _ _))
theorem NK:bB [⟨1,0⟩]=true:=by decide
theorem TK {V D:Int} {line a x:Tm} {sys:List (Br Tm)} (hl:Fm line) (hD:0≤D∧D≤12) (hV:0≤V) (s1:aG V (D+1) line) (s2:aG V D a) (s3:aG V D (a7 sys)) (sy:SyF sys) (hb:aD line≤8) (h:iR line a sys= .ok x):aG V D x:=by
 unfold iR at h
 obtain ⟨l1,e1,h⟩:=ah h
 obtain ⟨l,e2,h⟩:=ah h
 injection h with h;subst h
 obtain ⟨w1,w2⟩:=HV s3
 have key: ∀ {sys l:List (Br Tm)},(∀b∈sys,b.kids=[bP b])→sys.all (bJ 15 D)=true→bg true V D 15 sys=true→gm line sys= .ok l→l.all (bJ 15 D)=true∧bg true V D 15 l=true:=by
  intro sys
  induction sys with
  |nil=>intro l _ _ _ h;rw [gm] at h;injection h with h;subst h;exact ⟨rfl,by rw [bg]⟩
  |cons b r ih=>
   intro l hk h1 h2 h
   rw [gm] at h
   obtain ⟨u,q1,h⟩:=ah h
   obtain ⟨m,q2,h⟩:=ah h
   injection h with h;subst h
   rw [List.all_cons,Bool.and_eq_true] at h1 ⊢
   rw [bg,Bool.and_eq_true] at h2 ⊢
   obtain ⟨i1,i2⟩:=ih (fun b hb=>hk b (by simp [hb])) h1.2 h2.2 q2
   have hb1:=hk b (by simp)
   have hkid:aG V (D+1) (bP b):=by
    have:=h2.1
    obtain ⟨f,ks⟩:=b
    have hb1:ks=[bP ⟨f,ks⟩]:=hb1
    rw [eZ,hb1,b8,Bool.and_eq_true] at this
    exact this.1
   refine ⟨⟨?_,i1⟩, ?_,i2⟩
   ·have:=h1.1
    unfold bJ at this ⊢
    rw [Bool.and_eq_true] at this ⊢
    exact ⟨rfl,this.2⟩
   ·rw [eZ,b8,b8,Bool.and_true]
    refine yw NK (QK (by show 1≤D+au 15;have:au 15=1:=rfl;omega)) (by have:au 15=1:=rfl;omega) ?_ hkid
    have:=yx (r:=[⟨1,0⟩,⟨2,0⟩]) (s:=[⟨2,0⟩,⟨4,0⟩]) (by decide) Qw hl hD.1 hV s1 (by omega) q1
    rw [show D+au 15+1=D+2 by have:au 15=1:=rfl;omega];exact this
 obtain ⟨k1,k2⟩:=key (fun b hb=>(sy.kid b hb).1) w1 w2 e2
 exact F0 (by omega) (TR hl hD.1 s1 e1) (yw (by decide) (B_ _ _ rfl) (by omega) s1 s2) k1 k2
theorem Pi {V D:Int} {b:Br Tm} {r:List (Br Tm)} (hb1:b.kids=[bP b]) (h2:bg true V D 15 (b::r)=true):aG V (D+1) (bP b)∧bg true V D 15 r=true:=by
 rw [bg,Bool.and_eq_true] at h2
 refine ⟨?_,h2.2⟩
 have:=h2.1
 obtain ⟨f,ks⟩:=b
 have hb1:ks=[bP ⟨f,ks⟩]:=hb1
 rw [eZ,hb1,b8,Bool.and_eq_true] at this
 exact this.1
theorem QJ {D:Int} (hD:1≤D):bX [⟨0,1⟩] D=true:=(ij (fw Sx)).2 (lits_one.2 fun j hj=>by
 rcases hj with hj|hj
 ·simp [hp] at hj
 ·have:=(iO j).1.1 hj;omega)
theorem TN {V D:Int} {t a x:Tm} {sys:List (Br Tm)} (ht:Fm t) (ha:Fm a) (hD:0≤D∧D≤12) (hV:0≤V) (s1:aG V D t) (s2:aG V D a) (s3:aG V D (a7 sys)) (sy:SyF sys) (hb:aD t≤8) (hba:aD a≤8) (hbs:co sys≤8) (h:jg t a sys= .ok x):aG V (D+1) x:=by
 unfold jg at h
 obtain ⟨t',e1,h⟩:=ah h
 obtain ⟨a',e2,h⟩:=ah h
 obtain ⟨l,e3,h⟩:=ah h
 obtain ⟨a2,e4,h⟩:=ah h
 injection h with h;subst h
 obtain ⟨w1,w2⟩:=HV s3
 have key: ∀ {sys l:List (Br Tm)},(∀b∈sys,b.kids=[bP b]∧Fm (bP b)∧al b.face∧b.face.length<1073741824)→co sys≤8→sys.all (bJ 15 D)=true→bg true V D 15 sys=true→gx sys= .ok l→l.all (bJ 15 (D+1))=true∧bg true V (D+1) 15 l=true:=by
  intro sys
  induction sys with
  |nil=>intro l _ _ _ _ h;rw [gx] at h;injection h with h;subst h;exact ⟨rfl,by rw [bg]⟩
  |cons b r ih=>
   intro l hk hbd h1 h2 h
   rw [gx] at h
   obtain ⟨f,q0,h⟩:=ah h
   obtain ⟨u,q1,h⟩:=ah h
   obtain ⟨m,q2,h⟩:=ah h
   injection h with h;subst h
   rw [List.all_cons,Bool.and_eq_true] at h1 ⊢
   obtain ⟨hb1,hfb,hof,_⟩:=hk b (by simp)
   obtain ⟨hkid,h2r⟩:=Pi hb1 h2
   have hbk:1+aD (bP b)≤8∧co r≤8:=by
    rw [co] at hbd
    obtain ⟨f,ks⟩:=b
    have hb1:ks=[bP ⟨f,ks⟩]:=hb1
    rw [iM] at hbd
    have:cD ks=max (1+aD (bP ⟨f,ks⟩)) 0:=by rw [hb1,cD,cD];rfl
    omega
   obtain ⟨i1,i2⟩:=ih (fun b hb=>hk b (by simp [hb])) hbk.2 h1.2 h2r q2
   rw [bg,Bool.and_eq_true]
   refine ⟨⟨?_,i1⟩, ?_,i2⟩
   ·have:=h1.1
    unfold bJ at this ⊢
    simp only [Bool.and_eq_true] at this ⊢
    have hr:cj 0 1 b.face= .ok f:=by unfold cj;rw [if_neg (by decide)];exact q0
    exact ⟨rfl,px hr hof this.2.1,td ((eu hof).1 this.2.1).1 (by decide) (by decide) this.2.2 hr⟩
   ·rw [eZ,b8,b8,Bool.and_true]
    have:=yx (r:=[⟨3,0⟩]) (s:=[⟨6,0⟩]) (by decide) B5 hfb hD.1 hV hkid (by omega) q1
    rw [show D+1+au 15=D+2 by have:au 15=1:=rfl;omega];exact this
 obtain ⟨k1,k2⟩:=key (fun b hb=>sy.kid b hb) hbs w1 w2 e3
 have u1:=eR ht (by omega) (by omega) hV s1 (by omega) e1
 have u2:=eR ha (by omega) (by omega) hV s2 (by omega) e2
 have u3:=eR ha (by omega) (by omega) hV s2 (by omega) e4
 rw [Int.add_zero] at u1 u2 u3
 refine F0 (by omega) u1 u2 ?_ ?_
 ·rw [List.all_append,k1,List.all_cons,Bool.true_and,List.all_nil,Bool.and_true]
  unfold bJ
  simp only [Bool.and_eq_true]
  exact ⟨rfl,by decide,QJ (by omega)⟩
 ·rw [la,List.all_append,←la,k2,List.all_cons,Bool.true_and,List.all_nil,Bool.and_true,List.all_cons,List.all_nil,Bool.and_true]
  rw [show D+1+au 15=D+2 by have:au 15=1:=rfl;omega];exact u3
theorem QD {Φ:Nat→Prop} {f g:List Cl} (h:aH Φ f) (h':aH Φ g):aH Φ (dF f g).1:=by
 unfold dF
 split
 ·exact tb h h'
 ·exact dG _
theorem F1 {V D:Int} {line a x:Tm} {phi r s:List Cl} {en:Cl} (hl:Fm line) (ha:Fm a) (hp:bB phi=true) (hpo:al phi) (hlow:bX phi D=true) (hen:a_ en) (hel:aH (fun j=>j=0) [en]) (hr:be r 0 1=(s,0)) (hls:aH (fun j=>j=1∨j=2) s) (hD:0≤D∧D≤12) (hV:0≤V) (s1:aG V (D+1) line) (s2:aG V D a) (hb:aD line≤8) (hba:aD a≤8) (h:gV line phi a en r= .ok x):aG V (D+1) x:=by
 unfold gV at h
 obtain ⟨f1,e1,h⟩:=ah h
 obtain ⟨f,e2,h⟩:=ah h
 obtain ⟨l,e3,h⟩:=ah h
 obtain ⟨a',e4,h⟩:=ah h
 injection h with h;subst h
 have xp:=(eu hpo).1 hp
 have hr1:cj 0 1 phi= .ok f1:=by unfold cj;rw [if_neg (by decide)];exact e1
 have r1:=py xp.1 hr1
 have l1:=td xp.1 (by decide) (by decide) hlow hr1
 obtain ⟨h0,rfl⟩:=eB e2
 have re:al [en]:=fun c hc=>by simp at hc;subst hc;exact hen
 have rj:=BD r1.2 re h0
 have u:=eR ha (by omega) (by omega) hV s2 (by omega) e4
 rw [Int.add_zero] at u
 refine yw (RFa.right rj) ?_ (by omega) ?_ u
 ·rw [ij rj.1]
  rw [ij r1] at l1
  exact QD l1 (gE hel fun j hj=>by subst hj;show ((0:Nat):Int)<D+1;omega)
 ·rw [show D+1+1=D+2 by omega]
  exact yx hr hls hl hD.1 hV s1 (by omega) e3
theorem F4 {V D:Int} {t a f y x:Tm} (ha:Fm a) (hf:Fm f) (hy:Fm y) (hD:0≤D) (hV:0≤V) (s1:aG V D t) (s2:aG V D a) (s3:aG V D f) (s4:aG V D y) (hb:D+1+aD a≤24) (hbf:D+aD f≤24) (hby:D+aD y≤24) (h:fL t a f y= .ok x):aG V D x:=by
 unfold fL at h
 obtain ⟨a',e1,h⟩:=ah h
 obtain ⟨y',e2,h⟩:=ah h
 obtain ⟨f',e3,h⟩:=ah h
 injection h with h;subst h
 have hle:=t8 s1
 have u1:=eR ha (by omega) (by omega) hV s2 (by omega) e1
 have u2:=eR hy (by omega) (by omega) hV s4 (by omega) e2
 have u3:=eR hf (by omega) (by omega) hV s3 (by omega) e3
 rw [Int.add_zero] at u2 u3
 have b11:bj 11 0=1:=rfl
 refine iw (by decide) rfl hle (all2.2 ⟨?_, ?_⟩)
 ·show az true (aW V 0) (D+0) t=true
  rw [dN,Int.add_zero];exact s1
 ·show aG (aW V 1) (D+0) _
  rw [m8 hV,Int.add_zero]
  have:=jW a
  refine iw (by decide) rfl hle (all3.2 ⟨?_, ?_, ?_⟩)
  ·show az true (aW (V+1) 0) (D+1) a'=true
   rw [dN];exact u1
  ·show az true (aW (V+1) 0) (D+0) y'=true
   rw [dN,Int.add_zero];exact u2
  ·show aG (aW (V+1) 0) (D+0) _
   rw [dN,Int.add_zero]
   refine iw (by decide) rfl hle (all2.2 ⟨?_, ?_⟩)
   ·show az true (aW (V+1) 0) (D+0) f'=true
    rw [dN,Int.add_zero];exact u3
   ·show aG (aW (V+1) 0) (D+0) _
    rw [dN,Int.add_zero];exact pM (by decide) (by omega) hle
theorem TL {V D:Int} {t x:Tm} (ht:Fm t) (hD:0≤D) (hV:0≤V) (s1:aG V D t) (hb:D+1+aD t≤24) (h:lk t= .ok x):aG V D x:=by
 unfold lk at h
 obtain ⟨t1,e1,h⟩:=ah h
 obtain ⟨t2,e2,h⟩:=ah h
 injection h with h;subst h
 have hle:=t8 s1
 have u1:=eR ht (by omega) (by omega) hV s1 (by omega) e1
 have u2:=eR ht (by omega) (by omega) hV s1 (by omega) e2
 rw [Int.add_zero] at u1
 refine iw (by decide) rfl hle (all2.2 ⟨?_, ?_⟩)
 ·show az true (aW V 0) (D+0) t=true
  rw [dN,Int.add_zero];exact s1
 ·show aG (aW V 1) (D+0) _
  rw [m8 hV,Int.add_zero]
  refine iw (by decide) rfl hle (all2.2 ⟨?_, ?_⟩)
  ·show az true (aW (V+1) 0) (D+0) t1=true
   rw [dN,Int.add_zero];exact u1
  ·show aG (aW (V+1) 1) (D+0) _
   rw [m8 (by omega),Int.add_zero,show V+1+1=V+2 by omega]
   refine iw (by decide) rfl hle (all3.2 ⟨?_, ?_, ?_⟩)
   ·show az true (aW (V+2) 0) (D+1) t2=true
    rw [dN];exact u2
   ·show aG (aW (V+2) 0) (D+0) _
    rw [dN,Int.add_zero];exact pM (by decide) (by omega) hle
   ·show aG (aW (V+2) 0) (D+0) _
    rw [dN,Int.add_zero];exact pM (by decide) (by omega) hle
end Go.Proofs.YtapmagaejigpnaaGreatDoor
namespace Go.Proofs.YtapmagaejigpnaaGreatDoor
open Go PI
set_option linter.unusedVariables false
set_option linter.unusedSimpArgs false
set_option maxRecDepth 20000
variable {S:Type} {k:Nat}
theorem Lt {t a f y x:Tm} (h:fL t a f y= .ok x):aD x=max (aD t) (max (1+aD a) (max (aD y) (aD f))):=by
 unfold fL at h
 obtain ⟨a',e1,h⟩:=ah h
 obtain ⟨y',e2,h⟩:=ah h
 obtain ⟨f',e3,h⟩:=ah h
 injection h with h;subst h
 have b1: ∀kd i,aD (aZ kd i)=max (bV kd 0 i) 0:=fun kd i=>by unfold aZ;rw [aD,co]
 have hv:aD (vN 0)=0:=by unfold vN;rw [aD,bV,co];rfl
 rw [b1,bV,bV,bV,b1,bV,bV,bV,bV,b1,bV,bV,bV,hv,nM e1,nM e2,nM e3]
 have:=jW t;have:=jW a;have:=jW y;have:=jW f
 have e: ∀i,bj 7 i=0∧bj 6 i=0:=fun i=>by unfold bj;constructor<;>rw [if_neg (by omega)]
 have e0:bj 11 ((0:Nat):Int)=1:=rfl
 have e1:bj 11 ((0+1:Nat):Int)=0:=rfl
 have e2:bj 11 ((0+1+1:Nat):Int)=0:=rfl
 simp only [e,e0,e1,e2]
 omega
theorem TM {V D:Int} {t a x:Tm} (ft:Fd2 150 150 t) (fa:Fd2 150 150 a) (hD:0≤D∧D≤12) (hV:0≤V) (s1:aG V D t) (s2:aG V D a) (hb:aD t≤8) (hba:aD a≤8) (h:lL t a= .ok x):aG V D x:=by
 obtain ⟨a1,h1,h⟩:=ah h
 obtain ⟨y,h2,h⟩:=ah h
 obtain ⟨t',h3,h⟩:=ah h
 obtain ⟨a',h4,h⟩:=ah h
 obtain ⟨z,h5,h⟩:=ah h
 obtain ⟨c,h6,h⟩:=ah h
 injection h with h;subst h
 have mt:=ft.fm (by omega) (by omega)
 have ma:=fa.fm (by omega) (by omega)
 have hle:=t8 s1
 have ft':=ft.up (by omega) h3
 have fa':=fa.up (by omega) h4
 have fz:=oC (by omega) (by omega) ft' fa' (g8 (by omega) (by omega) (.inr rfl)) (g8 (by omega) (by omega) (.inl rfl)) h5
 have u1:=eR ma (by omega) (by omega) hV s2 (by omega) h1
 have u2:=eR ma (by omega) (by omega) hV s2 (by omega) h2
 have u3:=eR mt (by omega) (by omega) hV s1 (by omega) h3
 have u4:=eR ma (by omega) (by omega) hV s2 (by omega) h4
 rw [Int.add_zero] at u1 u2 u3 u4
 have hv: ∀n,aD (vN n)=0:=fun n=>by unfold vN;rw [aD,bV,co];rfl
 have b3:=nM h3
 have b4:=nM h4
 have hv0:=hv 0;have hv1:=hv 1
 have uz:=F4 (fa'.fm (by omega) (by omega)) fm_v1 fm_v0 hD.1 (by omega) u3 u4 (pM (by omega) (by omega) hle) (pM (by omega) (by omega) hle) (by omega) (by omega) (by omega) h5
 have bz:=Lt h5
 rw [b3,b4,hv0,hv1] at bz
 have uc:=TL (fz.fm (by omega) (by omega)) hD.1 (by omega) uz (by omega) h6
 refine iw (by decide) rfl hle (all2.2 ⟨?_, ?_⟩)
 ·show aG (aW V 0) (D+0) _
  rw [dN,Int.add_zero]
  refine iw (by decide) rfl hle (all2.2 ⟨?_, ?_⟩)
  ·show az true (aW V 0) (D+0) t=true
   rw [dN,Int.add_zero];exact s1
  ·show az true (aW V 1) (D+0) a1=true
   rw [m8 hV,Int.add_zero];exact u1
 ·show aG (aW V 1) (D+0) _
  rw [m8 hV,Int.add_zero]
  refine iw (by decide) rfl hle (all2.2 ⟨?_, ?_⟩)
  ·show az true (aW (V+1) 0) (D+0) y=true
   rw [dN,Int.add_zero];exact u2
  ·show az true (aW (V+1) 1) (D+0) c=true
   rw [m8 (by omega),Int.add_zero,show V+1+1=V+2 by omega];exact uc
def dn (t:Tm) (V D:Int):Int:=if V<0∨D<0∨D>24 then 2 else if aq t>200 then 62 else if ax t>20000 then 221 else if az true V D t then 0 else 100
theorem pL {t:Tm} (ht:In k t) (hk:F3 k) {V D:Int} (hV:V<1000000) (hD:D<1000000) (ret:Int→Option S):d8 k t V D ret=ret (dn t V D):=by
 simp only [d8,Ht,aj hk.fu,aF,b9]
 unfold dn
 by_cases h1:V<0
 ·rw [if_pos h1,if_pos (.inl h1)]
 rw [if_neg h1]
 by_cases h2:D<0
 ·rw [if_pos h2,if_pos (.inr (.inl h2))]
 rw [if_neg h2]
 by_cases h3:D>24
 ·rw [if_pos h3,if_pos (.inr (.inr h3))]
 have hdep:=ht.dep
 rw [if_neg h3,if_neg (by omega),FX ht.1 ht.2.1]
 by_cases h4:aq t>200
 ·rw [if_pos h4,if_pos h4];rfl
 rw [if_neg h4,if_neg h4]
 by_cases h5:ax t>20000
 ·rw [if_pos h5,if_pos h5];rfl
 rw [if_neg h5,if_neg h5,show (!((0:Int)==0))=false from rfl,ad,FF t ht.1 _ ht.2.1 ⟨by omega,by omega,by omega,by omega⟩]
 cases az true V D t<;>rfl
theorem ya {t:Tm} {V D:Int} (h:dn t V D=0):0≤V∧0≤D∧aG V D t:=by
 unfold dn at h
 split at h
 ·cases h
 split at h
 ·cases h
 split at h
 ·cases h
 split at h
 ·exact ⟨by omega,by omega,by assumption⟩
 ·cases h
theorem mV {t:Tm} {V D:Int} (h:cr t=0) (hV:0≤V) (hD:0≤D) (hs:aG V D t):dn t V D=0:=by
 have hle:=t8 hs
 obtain ⟨h1,h2,_⟩:=g9 h
 unfold dn
 rw [if_neg (by omega),if_neg (by omega),if_neg (by omega),if_pos hs]
theorem Ac (t:Tm):aD t+1≤(aq t:Int):=by
 induction t using eW with
 |h kd n nm r ks sys ih1 ih2=>
  have hk: ∀ {l:List Tm} {i:Nat},(∀x∈l,aD x+1≤(aq x:Int))→bV kd i l≤aJ l:=by
   intro l
   induction l with
   |nil=>intro i _;rw [bV];omega
   |cons t l ih=>intro i h;rw [bV,aJ];have:=ih (i:=i+1) fun x hx=>h x (by simp [hx]);have:=h t (by simp);have:=e7 kd i;omega
  have hm: ∀ {l:List Tm},(∀x∈l,aD x+1≤(aq x:Int))→cD l≤aJ l:=by
   intro l
   induction l with
   |nil=>intro _;rw [cD];omega
   |cons t l ih=>intro h;rw [cD,aJ];have:=ih fun x hx=>h x (by simp [hx]);have:=h t (by simp);omega
  have hs: ∀ {l:List (Br Tm)},(∀b∈l,∀x∈b.kids,aD x+1≤(aq x:Int))→co l≤ba l:=by
   intro l
   induction l with
   |nil=>intro _;rw [co];omega
   |cons b l ih=>
    intro h
    obtain ⟨f,ks⟩:=b
    rw [co,iM,ba,g0]
    have h1:=ih fun b hb=>h b (by simp [hb])
    have h2:cD ks≤aJ ks:=hm (h ⟨f,ks⟩ (by simp))
    omega
  rw [aD,aq]
  have h1:=hk (i:=0) ih1
  have h2:=hs ih2
  omega
section
variable {hd:Tm→(Int→Option S)→Option S} {t:Tm}
abbrev kY (hd:Tm→(Int→Option S)→Option S) (y:Tm):Prop:=aD y<1099511627776∧ ∀g,hd y g=g (aD y)
theorem BB (a b:Int):(if a>b then a else b)=max b a:=by split<;>omega
theorem Pp (hk:Fu k) (ret:Int→Option S) (rec1:Int→Int→Option S) {v:Int} {x:Br Tm} (hQ: ∀y∈x.kids,kY hd y) (hl:x.kids.length<1073741824):
  ∀ (r p:List Tm) (m:Nat) (a:Int),x.kids=p++r→r.length<m→0≤a→kn hd k ret rec1 t v x m a (p.length:Int)=rec1 (max a (cD r)) (IntKind.wrap .i64 (v+1)):=by
 intro r
 induction r with
 |nil=>
  intro p m a h hm ha
  obtain ⟨m,rfl,hm'⟩:=am hm
  simp only [kn,qJ,aU h,ad,cD]
  rw [show max a 0=a by omega]
 |cons y r ih=>
  intro p m a h hm ha
  obtain ⟨m,rfl,hm'⟩:=am hm
  obtain ⟨e1,e2,e3,e4⟩:=aS h (by omega)
  obtain ⟨q1,q2⟩:=hQ y (by rw [h];simp)
  have:=jW y
  simp only [kn,qJ,e1,ag,e2,Option.bind_some,aF,q2,e3,bQ (show-9223372036854775808≤1+aD y by omega) (by omega),BB]
  rw [ih _ m _ e4 hm' (by omega),cD,Int.max_assoc]
theorem Po (hk:Fu k) (ret:Int→Option S) (hQ: ∀b∈t.sys,∀y∈b.kids,kY hd y) (ht:OkT t):
  ∀ (r p:List (Br Tm)) (m:Nat) (a:Int),t.sys=p++r→r.length<m→0≤a→h_ hd k ret t m a (p.length:Int)=ret (max a (co r)):=by
 obtain ⟨o1,o2,o3,o4,o5,o6,o7⟩:=ht.no
 intro r
 induction r with
 |nil=>
  intro p m a h hm ha
  obtain ⟨m,rfl,hm'⟩:=am hm
  simp only [h_,nz,aU h,ad,co]
  rw [show max a 0=a by omega]
 |cons x r ih=>
  intro p m a h hm ha
  obtain ⟨m,rfl,hm'⟩:=am hm
  obtain ⟨e1,e2,e3,e4⟩:=aS h (by omega)
  have hx:x∈t.sys:=by rw [h];simp
  have:=Pp (t:=t) hk ret (h_ hd k ret t m) (v:=(p.length:Int)) (hQ x hx) (ht.bi hx).1.2.2 x.kids [] k a rfl (by have:=(ht.bi hx).1.2.2;have:4294967296≤k:=hk;omega) ha
  simp only [List.length_nil] at this
  simp only [h_,nz,e1,ag,e2,Option.bind_some]
  refine Eq.trans this ?_
  have e:iM x=cD x.kids:=by cases x;rw [iM]
  rw [e3,ih _ m _ e4 hm' (by have:=Ls x.kids;omega),co,e,Int.max_assoc]
theorem Pn (hk:Fu k) (ret:Int→Option S) (hQ: ∀y∈t.kids,kY hd y) (hQ': ∀b∈t.sys,∀y∈b.kids,kY hd y) (ht:OkT t):
  ∀ (r p:List Tm) (m:Nat) (a:Int),t.kids=p++r→r.length<m→0≤a→mh hd k ret t m (p.length:Int) a=ret (max (max a (bV t.kind p.length r)) (co t.sys)):=by
 obtain ⟨o1,o2,o3,o4,o5,o6,o7⟩:=ht.no
 intro r
 induction r with
 |nil=>
  intro p m a h hm ha
  obtain ⟨m,rfl,hm'⟩:=am hm
  simp only [mh,ny,aU h,ad,bV]
  have hs:=Po hk ret hQ' ht t.sys [] k a rfl (by have:4294967296≤k:=hk;omega) ha
  simp only [List.length_nil] at hs
  refine Eq.trans hs ?_
  rw [show max a 0=a by omega]
 |cons y r ih=>
  intro p m a h hm ha
  obtain ⟨m,rfl,hm'⟩:=am hm
  obtain ⟨e1,e2,e3,e4⟩:=aS h (by omega)
  obtain ⟨q1,q2⟩:=hQ y (by rw [h];simp)
  have:=jW y
  have hb:=e7 t.kind p.length
  have hk':=qX t.kind r (p.length+1)
  have:=ih (p++[y]) m (max a (bj t.kind p.length+aD y)) e4 hm' (by omega)
  simp only [mh,ny,e1,ag,e2,Option.bind_some,aj hk,kT,aF,q2,e3,bQ (show-9223372036854775808≤bj t.kind p.length+aD y by omega) (by omega),BB]
  rw [this,bV,List.length_append,List.length_singleton]
  exact congrArg ret (by omega)
end
theorem yo (t:Tm):OkT t→ ∀ {k:Nat} (ret:Int→Option S),Fd k (aq t)→(aq t:Int)<1099511627776→d7 k t ret=ret (aD t):=by
 induction t using gb with
 |h t ih1 ih2=>
  intro ht k ret hk hdp
  obtain ⟨q,rfl,hq,hf⟩:=hk.pos' (d_ t)
  obtain ⟨o1,o2,o3,o4,o5,o6,o7⟩:=ht.no
  have hQ: ∀y∈t.kids,kY (S:=S) (d7 q) y:=fun y hy=>⟨by have:=Ac y;have:=dT hy;omega,fun g=>ih1 y hy (ht.ki hy) g (hf _ (dT hy)) (by have:=dT hy;omega)⟩
  have hQ': ∀b∈t.sys,∀y∈b.kids,kY (S:=S) (d7 q) y:=fun b hb y hy=>⟨by have:=Ac y;have:=dS hb hy;omega,fun g=>ih2 b hb y hy ((ht.bi hb).2 y hy) g (hf _ (dS hb hy)) (by have:=dS hb hy;omega)⟩
  have:=Pn hq ret hQ hQ' ht t.kids [] q 0 rfl (by have:4294967296≤q:=hq;omega) (Int.le_refl 0)
  simp only [List.length_nil] at this
  simp only [d7,zi]
  refine Eq.trans this ?_
  congr 1
  obtain ⟨kd,n,nm,r,ks,sys⟩:=t
  have h1:=qX kd ks 0
  rw [aD]
  show max (max 0 (bV kd 0 ks)) (co sys)=_
  omega
def gw (a b:Tm) (sys:List (Br Tm)):Bool:=decide (aD a>8)||(decide (aD b>8)||decide (aD (a7 sys)>8))
theorem m0 (hk:F3 k) {a b:Tm} {sys:List (Br Tm)} (ha:In k a) (hb:In k b) (hs:In k (a7 sys)) (ret:Bool→Option S):gX k a b sys ret=ret (gw a b sys):=by
 have h1:=ha.dep;have h2:=hb.dep;have h3:=hs.dep
 have hw:=yo (a7 sys) hs.1 (k:=k) (S:=S)
 unfold a7 at hw h3
 simp only [gX,G8,aF,yo a ha.1 _ ha.2.1 (by omega),yo b hb.1 _ hb.2.1 (by omega),aj hk.fu,n_,zj]
 rw [hw _ hs.2.1 (by omega)]
 unfold gw a7
 cases decide (aD a>8) with
 |true=>rfl
 |false=>
  rw [ad,Bool.false_or]
  cases decide (aD b>8) with
  |true=>rfl
  |false=>rw [ad,Bool.false_or]
theorem lE {a b:Tm} {sys:List (Br Tm)} (h:gw a b sys=false):aD a≤8∧aD b≤8∧co sys≤8:=by
 unfold gw at h
 simp only [Bool.or_eq_false_iff,decide_eq_false_iff_not] at h
 have:=h.2.2
 unfold a7 at this
 rw [aD] at this
 omega
theorem oZ (hk:F3 k) {x:Except Int Tm} {V D:Int} {dp:Bool} {J:Option S} {ret:Bool→Option S} (hen: ∀e,x= .error e→e≠0) (hin: ∀t,x= .ok t→In k t∧(dp=false→dn t V D=0)) (hV:V<1000000) (hD:D<1000000) (hJ:J=ret true) {f:(Bool→Option S)→Option S} (hf: ∀g,f g=g dp):
  ab ((tE x).2==0) (d8 k (tE x).1 V D fun r=>ab (!(r==0)) (f fun r=>ab (!r) (ret false) J) J) J=ret true:=by
 cases x with
 |error e=>
  have:=hen e rfl
  rw [show (tE (.error e)).2=e from rfl,show ((e==0):Bool)=false from by simpa using this,ad];exact hJ
 |ok t=>
  obtain ⟨h1,h2⟩:=hin t rfl
  rw [show tE (.ok t)=(t,0) from rfl]
  simp only [pL h1 hk hV hD,hf]
  cases dp with
  |false=>rw [h2 rfl];exact hJ
  |true=>
   show ab true (ab _ J J) J=_
   rw [ag,hJ]
   cases !(dn t V D==0)<;>rfl
theorem ue {l:List Tm} {x:Except Int Tm} {t:Tm} (h:eS l x= .ok t):bN l=0∧cr t=0∧x= .ok t:=by
 unfold eS at h
 split at h
 case isFalse=>cases h
 rename_i h1
 unfold dD at h
 obtain ⟨t',h3,h⟩:=ah h
 split at h
 case isFalse=>cases h
 rename_i h4
 injection h with h;subst h
 exact ⟨h1,h4,h3⟩
theorem ub {l:List Tm} {x:Except Int Tm} {e:Int} (hx: ∀e,x= .error e→e≠0) (h:eS l x= .error e):e≠0:=by
 unfold eS at h
 split at h
 ·unfold dD at h
  rcases aL h with h|⟨t,_,h⟩
  ·exact hx e h
  ·split at h
   ·cases h
   ·rename_i hne;injection h with h;exact h▸hne
 ·rename_i hne;injection h with h;exact h▸hne
theorem zZ {line a:Tm} {phi r:List Cl} {en:Cl} {e:Int} (h:iJ line phi a en r= .error e):e≠0:=by
 unfold iJ at h
 split at h
 ·split at h
  ·unfold dD at h
   rcases aL h with h|⟨t,_,h⟩
   ·have:=Li h;omega
   ·split at h
    ·cases h
    ·rename_i hne;injection h with h;exact h▸hne
  ·injection h with h;omega
 ·rename_i hne;injection h with h;exact h▸hne
theorem QI {phi:List Cl} {m:Nat} (h:Int.fdiv (dU phi) (2^m)=0):bX phi m=true:=by
 have h2:(dC phi)<2^m:=by
  unfold dU at h
  rw [show ((2:Int)^m)=((2^m:Nat):Int) by push_cast;rfl] at h
  rw [Int.fdiv_eq_ediv_of_nonneg _ (Int.natCast_nonneg _)] at h
  have h':((dC phi/2^m:Nat):Int)=0:=by push_cast;exact_mod_cast h
  have h'':dC phi/2^m=0:=by omega
  have hp:0<2^m:=Nat.pow_pos (by decide)
  rcases Nat.div_eq_zero_iff.1 h'' with h|h
  ·omega
  ·exact h
 unfold bX
 rw [decide_eq_true_eq]
 intro i hi
 have hb:=(mem_bitsN.1 hi).2
 have:2^i≤dC phi:=Nat.ge_two_pow_of_testBit hb
 have:2^i<2^m:=by omega
 have:=(Nat.pow_lt_pow_iff_right (a:=2) (by decide)).1 this
 omega
end Go.Proofs.YtapmagaejigpnaaGreatDoor
namespace Go.Proofs.YtapmagaejigpnaaGreatDoor
open Go PI
set_option linter.unusedVariables false
set_option linter.unusedSimpArgs false
set_option maxRecDepth 20000
variable {S:Type} {k:Nat}
theorem Qz:aH (fun j=>j=0) [⟨0,1⟩]:=lits_one.2 fun j hj=>hj.elim (fun h=>by simp [hp] at h) fun h=>(iO j).1.1 h
theorem QA:aH (fun j=>j=0) [⟨1,0⟩]:=lits_one.2 fun j hj=>hj.elim (fun h=>(iO j).1.1 h) fun h=>absurd h (na _ _)
theorem oB {t:Tm} (h:OkT t) (hf:Fm t) (hz:ax t≤150):Fd2 150 150 t:=⟨h,hf.f2.2.1,by have:=j9 t;omega,hz⟩
theorem NF {t a:Tm} {e:Int} (h:lL t a= .error e):0<e∧e≤1000:=by
 rcases aL h with h|⟨_,_,h⟩
 ·exact cm h
 rcases aL h with h|⟨_,_,h⟩
 ·exact cm h
 rcases aL h with h|⟨_,_,h⟩
 ·exact cm h
 rcases aL h with h|⟨_,_,h⟩
 ·exact cm h
 rcases aL h with h|⟨_,_,h⟩
 ·exact A_ h
 rcases aL h with h|⟨_,_,h⟩
 ·rcases aL h with h|⟨_,_,h⟩
  ·exact cm h
  rcases aL h with h|⟨_,_,h⟩
  ·exact cm h
  ·cases h
 ·cases h
theorem SZ (hk:F3 k) {line t:Tm} {sys:List (Br Tm)} {phi:List Cl} {V D:Int} (hl:In k line) (ht:In k t) (hs:In k (.mk 0 0 ByteArray.empty [] [] sys)) (hp:al phi) (hpl:phi.length<1073741824) (_:aA V) (_:aA D) (ret:Bool→Option S):
  vK k line t sys phi V D ret=ret true:=by
 simp only [vK,zh,aj hk.fu,aF,TI hk,ag,Bool.not_true,ad]
 obtain ⟨c,hc,hsz⟩: ∃c,n9 k line t sys _=_∧_:=Tq hk.fu hl.1 hl.2.1 ht.1 ht.2.1 hs.1 hs.2.1 _
 refine hc.trans ?_
 cases c with
 |true=>rfl
 |false=>
  obtain ⟨z1,z2,z3⟩:=hsz rfl
  have hszz:ay sys≤150:=by rw [ax,ar] at z3;omega
  have hds:ba sys≤150:=by
   have:=j9 (.mk 0 0 ByteArray.empty [] [] sys)
   rw [aq,aJ] at this;omega
  have hw:In k (a7 sys):=HU hk hs (by omega) (hk.fd (by omega))
  have hn:In k (a7 []):=HU hk (Q2 hk) (by rw [ay];decide) (hk.fd (by rw [ba];decide))
  rw [ad]
  simp only [b9]
  split
  ·rfl
  split
  ·rfl
  split
  ·rfl
  split
  ·rfl
  split
  ·rfl
  have hD:0≤D∧D≤12:=by omega
  have hV:0≤V∧V≤1000:=by omega
  rw [m_ (n:=D+1) (by omega) (by omega),pL hl hk (by omega) (by omega)]
  by_cases r1:dn line V (D+1)=0
  case neg=>rw [show (dn line V (D+1)==0)=false from by simpa using r1];rfl
  rw [show (dn line V (D+1)==0)=true from by simpa using r1,Bool.not_true,ad,pL ht hk (by omega) (by omega)]
  by_cases r2:dn t V D=0
  case neg=>rw [show (dn t V D==0)=false from by simpa using r2];rfl
  rw [show (dn t V D==0)=true from by simpa using r2,Bool.not_true,ad]
  simp only [n_,zj]
  have hwr:=pL hw hk (V:=V) (D:=D) (by omega) (by omega) (S:=S)
  unfold a7 at hwr
  rw [hwr]
  by_cases r3:dn (a7 sys) V D=0
  case neg=>unfold a7 at r3;rw [show (dn _ V D==0)=false from by simpa using r3];rfl
  have r3':=r3
  unfold a7 at r3'
  rw [show (dn _ V D==0)=true from by simpa using r3',Bool.not_true,ad,t6 hk.fu hp (by omega)]
  obtain ⟨m,rfl⟩:=o8 hD.1
  rw [eX m (by omega),gf _ (by omega)]
  by_cases r4:Int.fdiv (dU phi) (2^m)=0
  case neg=>
   rw [show min (Int.toNat (m:Int)) 32=m by omega,show ((Int.fdiv (dU phi) (2^m))==0)=false from by simpa using r4];rfl
  rw [show min (Int.toNat (m:Int)) 32=m by omega,show ((Int.fdiv (dU phi) (2^m))==0)=true from by simpa using r4,Bool.not_true,ad]
  have hlow:=QI r4
  obtain ⟨_,_,c1⟩:=ya r1
  obtain ⟨_,_,c2⟩:=ya r2
  obtain ⟨_,_,c3⟩:=ya r3
  have hfuel: ∃q,k=q+1:=⟨k-1,by have:4294968296≤k:=hk;omega⟩
  have j4:mg k ret t V m k=ret true:=by
   obtain ⟨q,hq⟩:=hfuel
   have: ∀j,j=q+1→mg k ret t V m j=ret true:=by
    rintro j rfl
    simp only [mg,vd,aj hk.fu,aF,S4 hk ht ht ht ht]
    cases hx:eS [t,t,t,t] (fL t t t t) with
    |error e=>
     have:e≠0:=ub (fun e h=>by have:=A_ h;omega) hx
     rw [show (tE (.error e)).2=e from rfl,show ((e==0):Bool)=false from by simpa using this];rfl
    |ok x=>
     obtain ⟨so,fx,hx⟩:=ue hx
     have fm:=iz (l:=[t,t,t,t]) (fun x hx=>by simp at hx;subst hx;exact ht.1) so t (by simp)
     have ix:In k x:=(oC (by omega) (by omega) (oB ht.1 fm z2) (oB ht.1 fm z2) (oB ht.1 fm z2) (oB ht.1 fm z2) hx).isIn hk (by omega) (by omega)
     rw [show tE (.ok x)=(x,0) from rfl]
     simp only [beq_self_eq_true,Bool.not_true,ad,pL ix hk (show V<1000000 by omega) (show (m:Int)<1000000 by omega),m0 hk ht ht hn]
     cases hd:gw t t [] with
     |true=>cases dn x V m==0<;>rfl
     |false=>
      obtain ⟨b1,b2,_⟩:=lE hd
      rw [mV fx (by omega) (by omega) (F4 fm fm fm (by omega) (by omega) c2 c2 c2 c2 (by omega) (by omega) (by omega) hx)];rfl
   exact this k hq
  have j3:mf k ret t V m k=ret true:=by
   obtain ⟨q,hq⟩:=hfuel
   have: ∀j,j=q+1→mf k ret t V m j=ret true:=by
    rintro j rfl
    simp only [mf,qI,aj hk.fu,aF,S3 hk ht ht z2 z2]
    refine oZ hk (dp:=gw t t []) (fun e h=>ub (fun e h=>by have:=NF h;omega) h) (fun x hx=> ?_) (by omega) (by omega) j4 (fun g=>m0 hk ht ht hn g)
    obtain ⟨so,fx,hx⟩:=ue hx
    have fm:=iz (l:=[t,t]) (fun x hx=>by simp at hx;subst hx;exact ht.1) so t (by simp)
    have f2:=oB ht.1 fm z2
    refine ⟨(A5 (by omega) (by omega) f2 f2 hx).isIn hk (by omega) (by omega),fun hd=> ?_⟩
    obtain ⟨b1,b2,_⟩:=lE hd
    exact mV fx (by omega) (by omega) (TM f2 f2 (by omega) (by omega) c2 c2 (by omega) (by omega) hx)
   exact this k hq
  have fms:bN [line,t]=0→Fm line∧Fm t:=fun so=>by
   have:=iz (l:=[line,t]) (fun x hx=>by
    simp at hx
    rcases hx with rfl|rfl
    ·exact hl.1
    ·exact ht.1) so
   exact ⟨this line (by simp),this t (by simp)⟩
  have j2:me k ret line t phi V m k=ret true:=by
   obtain ⟨q,hq⟩:=hfuel
   have: ∀j,j=q+1→me k ret line t phi V m j=ret true:=by
    rintro j rfl
    simp only [me,qH,aj hk.fu,aF,SY hk hl ht hp hpl]
    rw [m_ (n:=(m:Int)+1) (by omega) (by omega)]
    refine oZ hk (dp:=gw line t []) (fun e h=>zZ h) (fun x hx=> ?_) (by omega) (by omega) j3 (fun g=>m0 hk hl ht hn g)
    obtain ⟨so,hph,fx,tx,_⟩:=zY hx
    obtain ⟨f1,f2⟩:=fms so
    refine ⟨(u7 hk f1 f2 ((eu hp).1 hph).1 tj tx).1,fun hd=> ?_⟩
    obtain ⟨b1,b2,_⟩:=lE hd
    exact mV fx (by omega) (by omega) (F1 f1 f2 hph hp hlow tj QA (s:=[⟨0,2⟩,⟨4,0⟩]) (by decide) Qv (by omega) (by omega) c1 c2 b1 b2 tx)
   exact this k hq
  have j1:md k ret line t phi V m k=ret true:=by
   obtain ⟨q,hq⟩:=hfuel
   have: ∀j,j=q+1→md k ret line t phi V m j=ret true:=by
    rintro j rfl
    simp only [md,qG,aj hk.fu,aF,S9 hk hl ht hp hpl]
    rw [m_ (n:=(m:Int)+1) (by omega) (by omega)]
    refine oZ hk (dp:=gw line t []) (fun e h=>zZ h) (fun x hx=> ?_) (by omega) (by omega) j2 (fun g=>m0 hk hl ht hn g)
    obtain ⟨so,hph,fx,tx,_⟩:=zY hx
    obtain ⟨f1,f2⟩:=fms so
    refine ⟨(u7 hk f1 f2 ((eu hp).1 hph).1 ti tx).1,fun hd=> ?_⟩
    obtain ⟨b1,b2,_⟩:=lE hd
    exact mV fx (by omega) (by omega) (F1 f1 f2 hph hp hlow ti Qz (s:=[⟨6,0⟩]) (by decide) B5 (by omega) (by omega) c1 c2 b1 b2 tx)
   exact this k hq
  have fmw: ∀ {a b:Tm},In k a→In k b→bN [a,b,a7 sys]=0→Fm a∧Fm b∧Fm (a7 sys):=fun ha hb so=>by
   rename_i a b
   have:=iz (l:=[a,b,a7 sys]) (fun x hx=>by
    simp at hx
    rcases hx with rfl|rfl|rfl
    ·exact ha.1
    ·exact hb.1
    ·exact hw.1) so
   exact ⟨this a (by simp),this b (by simp),this (a7 sys) (by simp)⟩
  have j0:oI k ret line t sys phi V m k=ret true:=by
   obtain ⟨q,hq⟩:=hfuel
   have: ∀j,j=q+1→oI k ret line t sys phi V m j=ret true:=by
    rintro j rfl
    simp only [oI,qF,aj hk.fu,aF,S5 hk ht ht hw]
    rw [m_ (n:=(m:Int)+1) (by omega) (by omega)]
    refine oZ hk (dp:=gw t t sys) (fun e h=>ub (fun e h=>by have:=NO h;omega) h) (fun x hx=> ?_) (by omega) (by omega) j1 (fun g=>m0 hk ht ht hw g)
    obtain ⟨so,fx,hx⟩:=ue hx
    obtain ⟨f1,f2,f3⟩:=fmw ht ht so
    refine ⟨(Ba hk f1 f2 (m9 f3) hx).1,fun hd=> ?_⟩
    obtain ⟨b1,b2,b3⟩:=lE hd
    exact mV fx (by omega) (by omega) (TN f1 f2 (by omega) (by omega) c2 c2 c3 (m9 f3) b1 b2 b3 hx)
   exact this k hq
  rw [S0 hk hl ht hw]
  refine oZ hk (dp:=gw line t sys) (fun e h=>ub (fun e h=>by have:=LW h;omega) h) (fun x hx=> ?_) (by omega) (by omega) j0 (fun g=>m0 hk hl ht hw g)
  obtain ⟨so,fx,hx⟩:=ue hx
  obtain ⟨f1,f2,f3⟩:=fmw hl ht so
  refine ⟨(An hk f1 f2 (m9 f3) hx).1,fun hd=> ?_⟩
  obtain ⟨b1,b2,b3⟩:=lE hd
  exact mV fx (by omega) (by omega) (TK f1 (by omega) (by omega) c1 c2 c3 (m9 f3) b1 hx)
end Go.Proofs.YtapmagaejigpnaaGreatDoor
namespace Go.Proofs.YtapmagaejigpnaaGreatDoor
open Go PI Go.ChangeShapes Go.WideShapes Go.ChangeAt Go.RowKit
set_option linter.unusedVariables false
set_option linter.unusedSimpArgs false
set_option maxRecDepth 100000
theorem Bw {k:Nat} (hk:4296016872≤k) {H:Type} {t:Tm} {d:DataW H} (h:QT t d) (hb:Rows.uptoBulk d≤1048576):In k t:=by
 have h1:=h.1
 have h2:=j9 t
 exact ⟨h.2 (by omega),by unfold Fd;omega,by omega⟩
theorem Ow {k:Nat} (hk:4296016872≤k) {H:Type} {l:List (Br Tm)} {d:DataW H} (h:(ay l+1≤Rows.uptoBulk d∧l.length+1≤Rows.uptoBulk d)∧(Rows.uptoBulk d<1073741824→aX l)) (hb:Rows.uptoBulk d≤1048575):In k (.mk 0 0 ByteArray.empty [] [] l):=by
 have hz:ax (.mk 0 0 ByteArray.empty [] [] l)=1+ay l:=by rw [ax,ar]
 have h1:=h.1
 have h2:=j9 (.mk 0 0 ByteArray.empty [] [] l)
 refine ⟨?_,by unfold Fd;omega,by omega⟩
 rw [OkT,aR]
 exact ⟨⟨by unfold aA;omega,by unfold aA;omega,by show 0<_;omega,fun c hc=>(by cases hc),by simp,by simp,by omega⟩,trivial,h.2 (by omega)⟩
theorem z8 {H:Type} {enc:TypeId×Value→H} {w:World} {spare:Nat→Bool} {held:Bool} {o:Obj} {N:aw} {g:Gh UU} (hN: ∀b o,¬N b o) {W:World} {base:Nat} {v:Value} {d:DataW H} {ps:List MemPlace} (hv:Value.okWide Tryz.prog W .any base 3 v) (h:DataW.Trod enc Tryz.prog w 0 spare held 3 v d ps):
  ∃n:Int,Rep (LL o) w N g v (.int .i64 n)∧aA n:=by
 obtain ⟨n,rfl⟩:=okWide_int Tryz.underlying3 hv
 obtain ⟨q,hq⟩:=h
 obtain ⟨z,hz,hi⟩:=xj hq
 obtain rfl:n=z:=by simpa [Value.cells] using hz
 exact ⟨n,.int _ _,hi⟩
theorem Qc {k:Nat} (hk:4296016872≤k) {o:Obj} (ho:ae o) {t0:Tm} (h0:In k t0) {t1:Tm} (h1:In k t1) {t2:List (Br Tm)} (h2:In k (.mk 0 0 ByteArray.empty [] [] t2)) {t3:List Cl} (h3:al t3) (g3:t3.length<1073741824) {t4:Int} (h4:aA t4) {t5:Int} (h5:aA t5):
  bS (LL o) 8 [.agg (cQ ET.T t0),.agg (cQ ET.T t1),ez t2 .none,ck t3 .none,.int .i64 t4,.int .i64 t5] [] (.ret (.bool true) []):=by
 have hF:F3 k:=by unfold F3;omega
 obtain ⟨j,rfl⟩: ∃j,k=j+1:=⟨k-1,by omega⟩
 obtain ⟨out,hout,hx⟩:=Ut (S:=Out UU) o ho (j+1) [.agg (cQ ET.T t0),.agg (cQ ET.T t1),ez t2 .none,ck t3 .none,.int .i64 t4,.int .i64 t5] [] some (.ret (.bool true) []) (by
  cases t0;cases t1
  exact Eq.trans (by kernel_rfl) (SZ hF h0 h1 h2 h3 g3 h4 h5 fun r=>some (Out.ret (U:=UU) (.bool r) [])))
 injection hx with hx
 exact hx▸hout
theorem Qb (H:Type) (enc:TypeId×Value→H) (W:World) (base:Nat) (args:Array Value) (ds gs:List (DataW H)) (before:List MemPlace)
  (hval: ∀ (j:Nat) t v,Tryz.f8.params[j]? =some t→args[j]? =some v→Value.okWide Tryz.prog W .any base t v)
  (hW:DataW.Whole enc Tryz.prog Tryz.f8.params.toList Rows.buildMaySpec.vars false W args.toList ds gs before) (hL:laidMetH Tryz.prog Rows.buildMayRow.laid W) (hb:Rows.uptoBulkAll (ds++gs)≤1048576):
  Calls Tryz.prog 8 args W fun e W'=> ∃v,e= .returned v∧Rows.buildMaySpec.post enc Tryz.prog Tryz.f8 false true false false W args v W':=by
 have hW':=hW
 obtain ⟨p,q,hA0,hV,rfl,hfz,hnd⟩:=hW
 have hA:DataW.TrodAll enc Tryz.prog W 0 (fun _=>true) true Tryz.f8.params.toList args.toList ds p:=hA0
 rw [Tryz.params8] at hA hval
 obtain ⟨v0,vs0,d0,ds0,p0,q0,hargs,rfl,rfl,h0,r0⟩:=trodAll_cons hA
 obtain ⟨v1,vs1,d1,ds1,p1,q1,rfl,rfl,rfl,h1,r1⟩:=trodAll_cons r0
 obtain ⟨v2,vs2,d2,ds2,p2,q2,rfl,rfl,rfl,h2,r2⟩:=trodAll_cons r1
 obtain ⟨v3,vs3,d3,ds3,p3,q3,rfl,rfl,rfl,h3,r3⟩:=trodAll_cons r2
 obtain ⟨v4,vs4,d4,ds4,p4,q4,rfl,rfl,rfl,h4,r4⟩:=trodAll_cons r3
 obtain ⟨v5,vs5,d5,ds5,p5,q5,rfl,rfl,rfl,h5,r5⟩:=trodAll_cons r4
 obtain ⟨rfl,rfl,rfl⟩:=trodAll_nil r5
 obtain rfl:args= #[v0,v1,v2,v3,v4,v5]:=by cases args;simp_all
 obtain ⟨rfl,rfl⟩:=trodVars_none hV
 obtain ⟨o,ho,hh⟩:=Un hL
 simp only [List.append_nil,Rows.uptoBulkAll,Nat.add_zero] at hb
 obtain ⟨t0,e0,k0⟩:=z_ (o:=o) (g:=gB UU 0 fun _=>0) mC h0
 obtain ⟨t1,e1,k1⟩:=z_ (o:=o) (g:=gB UU 0 fun _=>0) mC h1
 obtain ⟨t2,e2,k2⟩:=Lo (o:=o) (g:=gB UU 0 fun _=>0) mC (hval 2 24 v2 rfl rfl) h2
 obtain ⟨t3,e3,k3,m3⟩:=Ln (o:=o) (g:=gB UU 0 fun _=>0) mC (hval 3 22 v3 rfl rfl) h3
 obtain ⟨t4,e4,k4⟩:=z8 (o:=o) (g:=gB UU 0 fun _=>0) mC (hval 4 3 v4 rfl rfl) h4
 obtain ⟨t5,e5,k5⟩:=z8 (o:=o) (g:=gB UU 0 fun _=>0) mC (hval 5 3 v5 rfl rfl) h5
 have b0:=nO d0
 have b1:=nO d1
 have b3:=nO d3
 have b4:=nO d4
 have b5:=nO d5
 have hk:(4296016872:Nat)≤4296016872:=Nat.le_refl _
 generalize hkk:(4296016872:Nat)=k at hk
 have hok:=Qc (k:=k) (by omega) ho (Bw (by omega) k0 (by omega)) (Bw (by omega) k1 (by omega)) (Ow (by omega) k2 (by omega)) k3 (by omega) k4 k5
 refine (LJ hok (Oa hh rfl rfl fun j p hj=> ?_)).mono ?_
 ·match j,hj with
  |0,hj=>cases hj;exact e0
  |1,hj=>cases hj;exact e1
  |2,hj=>cases hj;exact e2
  |3,hj=>cases hj;exact e3
  |4,hj=>cases hj;exact e4
  |5,hj=>cases hj;exact e5
  |j+6,hj=>simp at hj
 ·rintro e W' ⟨rfl,hkept⟩
  refine ⟨_,rfl,RQ rfl rfl (fun t ht=> ?_) rfl hW' hkept⟩
  rw [Tryz.params8] at ht
  have ht':t=26∨t=26∨t=24∨t=22∨t=3∨t=3:=by simpa using ht
  rcases ht' with rfl|rfl|rfl|rfl|rfl|rfl<;>exact of_decide_eq_true (by kernel_rfl)
noncomputable def wI (os:Os):World:=
 {World.holding Tryz.prog os ⟨#[],#[],[]⟩ with heap:=(World.holding Tryz.prog os ⟨#[],#[],[]⟩).heap.modify 0 fun
   | .cells _ t frozen=> .cells (Lib.deBruijn32tab.map fun n:Nat=>Value.int .u8 n).toArray t frozen
   |o=>o}
def If:Value:= .agg #[.int .i64 0,.int .i64 0,.string ByteArray.empty,.slice none 0 0,.slice none 0 0,.slice none 0 0]
def zeroArgs:Array Value:= #[If,If,.slice none 0 0,.slice none 0 0,.int .i64 0,.int .i64 0]
def Ie {H:Type}:DataW H:= .agg [.lit (.int .i64 0),.lit (.int .i64 0),.lit (.string []),.nil,.nil,.nil]
theorem P9 (os:Os):laidMet Tryz.prog Rows.buildMayRow.laid ((wI os).forCall (fun _ _=>0) ⟨#[],zeroArgs,[]⟩).memory:=
 laidMet_of_run' 8 (by kernel_rfl) (by kernel_rfl)
theorem Sz (os:Os) {H:Type} (enc:TypeId×Value→H): ∃places,DataW.whole enc Tryz.prog ((wI os).forCall (fun _ _=>0) ⟨#[],zeroArgs,[]⟩).memory Tryz.f8.params.toList Rows.buildMaySpec.vars false zeroArgs.toList 8=some ([Ie,Ie,.nil,.nil,.lit (.int .i64 0),.lit (.int .i64 0)],[],places):=
 ⟨[],by kernel_rfl⟩
theorem Qs (os:Os) (started:os.Started) (H:Type) (enc:TypeId×Value→H) (F:Stop.Interp):
  ReturnsInHanded {} Tryz.checked os 8 .any ((Rows.OpenSpec.upto Rows.buildMaySpec).preRow enc Tryz.prog Tryz.f8 Rows.buildMayUptoRow.domain false Rows.buildMayUptoRow.laid) (((Rows.OpenSpec.upto Rows.buildMaySpec).at F).post enc Tryz.prog Tryz.f8 false true false false):=by
 obtain ⟨places,hx⟩:=Sz os enc
 refine returnsInHanded_of_row (C:=Tryz.checked) (s:=Rows.OpenSpec.upto Rows.buildMaySpec) own started (by kernel_rfl) Tryz.func8
  (witness_row_at (enc:=enc) (C:=Tryz.checked) false (wI os) zeroArgs rfl (by kernel_rfl) (by kernel_rfl) (by kernel_rfl)
   (OpenSpec.preRow_of_cond 8 hx (by kernel_rfl) (fun k hk=>by cases hk;kernel_rfl) (by kernel_rfl) (P9 os))) ?_
 intro W base args ds gs before hval hW _ hcond _ hL _ _
 exact Qb H enc W base args ds gs before hval hW hL (of_decide_eq_true (hcond _ rfl))
theorem TJ:Rows.BuildMayUptoSaid:=
 OpenClaim.holds_of_cond 8 Tryz.f8 rfl rfl rfl rfl rfl rfl rfl ⟨rfl,rfl,rfl,rfl,rfl⟩ rfl rfl rfl rfl rfl (by kernel_rfl) Tryz.func8 (by kernel_rfl)
  (of_decide_eq_true (by kernel_rfl)) (by unfold Func.isWrapper;first|(rw [if_pos (by decide+kernel)];kernel_rfl)|(rw [if_neg (by decide+kernel)];exact ⟨rfl,rfl⟩))
  (fun os started H enc _ F=>by rw [OpenClaim.pre_eq_preRow];exact Qs os started H enc F)
theorem plain (f:FuncId) (fn:Func) (hf:Tryz.pinned.checked.prog.funcNamed "hypercube/hypercubelaw15.BuildMay" =some f) (hfn:Tryz.pinned.checked.prog.funcs[f]? =some fn):
  true=Tryz.pinned.checked.prog.looks []∧ ∀ (j:Nat) t,fn.params[j]? =some t→Tryz.pinned.checked.prog.wantsStandIn t=false:=by
 obtain rfl:f=8:=Option.some.inj ((show Tryz.prog.funcNamed "hypercube/hypercubelaw15.BuildMay" =some 8 by kernel_rfl).symm.trans hf)|>.symm
 obtain rfl:fn=Tryz.f8:=(Option.some.inj (Tryz.func8.symm.trans hfn)).symm
 refine ⟨by kernel_rfl,fun j t ht=> ?_⟩
 rw [Tryz.params8] at ht
 have ht':t=26∨t=26∨t=24∨t=22∨t=3∨t=3:=by simpa using Array.mem_of_getElem? ht
 rcases ht' with rfl|rfl|rfl|rfl|rfl|rfl
 ·exact (show Tryz.prog.wantsStandIn 26=false by kernel_rfl)
 ·exact (show Tryz.prog.wantsStandIn 26=false by kernel_rfl)
 ·exact (show Tryz.prog.wantsStandIn 24=false by kernel_rfl)
 ·exact (show Tryz.prog.wantsStandIn 22=false by kernel_rfl)
 ·exact (show Tryz.prog.wantsStandIn 3=false by kernel_rfl)
 ·exact (show Tryz.prog.wantsStandIn 3=false by kernel_rfl)
theorem buildMay_holds:Rows.BuildMayUptoCardSaid:=
 Claim7.holds_tied_plain_at .later [] _ _ _ _ TJ (fun _ h=>by cases h) (by kernel_rfl) (fun _ h=>by cases h) buildMayUpto_row_tie rfl ⟨rfl,rfl⟩ (by kernel_rfl) rfl plain (by kernel_rfl)
#print axioms buildMay_holds
end Go.Proofs.YtapmagaejigpnaaGreatDoor
