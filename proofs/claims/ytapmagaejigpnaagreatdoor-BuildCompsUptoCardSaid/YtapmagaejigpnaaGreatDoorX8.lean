/- Part 8 of a proof: the sources, with their names and remarks, lie in wip/. -/
import Derived.Test.YtapmagaejigpnaaGreatDoorX7
import Derived.KernelRfl
namespace Go.Proofs.YtapmagaejigpnaaGreatDoor
open Go PI
set_option linter.unusedVariables false
set_option linter.unusedSimpArgs false
set_option maxRecDepth 20000
variable {S:Type} {k:Nat}
theorem HH: ∀ {l:List Tm},(∀x∈l,ar x≤ax x)→aP l≤aw l:=by
 intro l
 induction l with
 |nil=>intro _;rw [aP,aw];omega
 |cons t l ih=>
  intro h
  rw [aP,aw]
  have:=h t (by simp)
  have:=ih fun x hx=>h x (by simp [hx])
  omega
theorem WX: ∀ {l:List (Br Tm)},(∀b∈l,∀x∈b.kids,ar x≤ax x)→bh l≤aI l:=by
 intro l
 induction l with
 |nil=>intro _;rw [bh,aI];omega
 |cons b l ih=>
  intro h
  rw [bh,aI,oI,kz]
  have:=HH (h b (by simp))
  have:=ih fun x hx=>h x (by simp [hx])
  omega
theorem gm (t:Tm):ar t≤ax t:=by
 induction t using d4 with
 |h t ih1 ih2=>
  rw [s_,Fo]
  have:=HH ih1
  have:=WX ih2
  omega
section
variable {hd:Tm→(Int→Option S)→Option S} {t:Tm}
theorem abZ (hk:Fu k) (ret:Int→Option S) (rec1:Int→Int→Option S) {v:Int} {x:Br Tm} (hv:al t.sys v=some x) (hQ: ∀y∈x.kids,∀g,hd y g=g ((ax y:Nat):Int)) (hl:x.kids.length<1073741824):
  ∀ (r p:List Tm) (m a:Nat),x.kids=p++r→r.length<m→a+aw r<4611686018427387904→lM hd k ret rec1 t v m (a:Int) (p.length:Int)=rec1 ((a+aw r:Nat):Int) (IntKind.wrap .i64 (v+1)):=by
 intro r
 induction r with
 |nil=>
  intro p m a h hm ha
  obtain ⟨m,rfl,hm'⟩:=ak hm
  have hz:a+aw []=a:=by rw [aw];rfl
  rw [hz]
  simp only [lM,wg,hv,Option.bind_some,aA h,ad]
 |cons y r ih=>
  intro p m a h hm ha
  obtain ⟨m,rfl,hm'⟩:=ak hm
  obtain ⟨e1,e2,e3,e4⟩:=az h (by omega)
  have hy:=hQ y (by rw [h];simp)
  have hz:a+aw (y::r)=(a+ax y)+aw r:=by rw [aw];omega
  rw [hz] at ha ⊢
  have hw:IntKind.wrap .i64 ((a:Int)+((ax y:Nat):Int))=((a+ax y:Nat):Int):=by rw [bo (by omega) (by omega)];simp
  simp only [lM,wg,hv,e1,ae,e2,Option.bind_some,aq,hy,e3,hw,ih (p++[y]) m (a+ax y) e4 hm' ha]
theorem abY (hk:Fu k) (ret:Int→Option S) (hQ: ∀b∈t.sys,∀y∈b.kids,∀g,hd y g=g ((ax y:Nat):Int)) (hl:t.sys.length<1073741824) (hl': ∀b∈t.sys,b.kids.length<1073741824):
  ∀ (r p:List (Br Tm)) (m a:Nat),t.sys=p++r→r.length<m→a+aI r<4611686018427387904→g_ hd k ret t m (a:Int) (p.length:Int)=ret ((a+aI r:Nat):Int):=by
 intro r
 induction r with
 |nil=>
  intro p m a h hm ha
  obtain ⟨m,rfl,hm'⟩:=ak hm
  have hz:a+aI []=a:=by rw [aI];rfl
  rw [hz]
  simp only [g_,rI,aA h,ad]
 |cons x r ih=>
  intro p m a h hm ha
  obtain ⟨m,rfl,hm'⟩:=ak hm
  obtain ⟨e1,e2,e3,e4⟩:=az h (by omega)
  have hx:x∈t.sys:=by rw [h];simp
  have hlx:=hl' x hx
  have hz:a+aI (x::r)=(a+aw x.kids)+aI r:=by rw [aI,kz];omega
  rw [hz] at ha ⊢
  have:=abZ (t:=t) hk ret (g_ hd k ret t m) e2 (hQ x hx) hlx x.kids [] k a rfl (by have:4294967296≤k:=hk;omega) (by omega)
  have this:lM hd k ret (g_ hd k ret t m) t (p.length:Int) k (a:Int) 0=_:=this
  simp only [g_,rI,e1,ae,this,e3,ih (p++[x]) m _ e4 hm' ha]
theorem abX (hk:Fu k) (ret:Int→Option S) (hQ: ∀y∈t.kids,∀g,hd y g=g ((ax y:Nat):Int)) (hQ': ∀b∈t.sys,∀y∈b.kids,∀g,hd y g=g ((ax y:Nat):Int)) (ht:OkT t):
  ∀ (r p:List Tm) (m a:Nat),t.kids=p++r→r.length<m→a+aw r+aI t.sys<4611686018427387904→pD hd k ret t m (a:Int) (p.length:Int)=ret ((a+aw r+aI t.sys:Nat):Int):=by
 obtain ⟨o1,o2,o3,o4,o5,o6,o7⟩:=ht.no
 intro r
 induction r with
 |nil=>
  intro p m a h hm ha
  obtain ⟨m,rfl,hm'⟩:=ak hm
  have hz:a+aw []=a:=by rw [aw];rfl
  rw [hz] at ha ⊢
  have:=abY hk ret hQ' o7 (fun b hb=>(ht.bi hb).1.2.2) t.sys [] k a rfl (by have:4294967296≤k:=hk;omega) ha
  have this:g_ hd k ret t k (a:Int) 0=_:=this
  simp only [pD,rH,aA h,ad,this]
 |cons y r ih=>
  intro p m a h hm ha
  obtain ⟨m,rfl,hm'⟩:=ak hm
  obtain ⟨e1,e2,e3,e4⟩:=az h (by omega)
  have hy:=hQ y (by rw [h];simp)
  have hz:a+aw (y::r)=(a+ax y)+aw r:=by rw [aw];omega
  rw [hz] at ha ⊢
  have hw:IntKind.wrap .i64 ((a:Int)+((ax y:Nat):Int))=((a+ax y:Nat):Int):=by rw [bo (by omega) (by omega)];simp
  simp only [pD,rH,e1,ae,e2,Option.bind_some,aq,hy,e3,hw,ih (p++[y]) m (a+ax y) e4 hm' ha]
end
theorem afp (t:Tm):OkT t→ ∀ {k:Nat} (ret:Int→Option S),Fd k (ar t)→ax t<4611686018427387904→iY k t ret=ret ((ax t:Nat):Int):=by
 induction t using d4 with
 |h t ih1 ih2=>
  intro ht k ret hk hs
  obtain ⟨q,rfl,hq,hf⟩:=hk.pos' (cS t)
  have hz:=Fo t
  have:=abX hq ret (fun y hy g=>ih1 y hy (ht.ki hy) g (hf _ (cR hy)) (by have:=uN hy;omega)) (fun b hb y hy g=>ih2 b hb y hy ((ht.bi hb).2 y hy) g (hf _ (cQ hb hy)) (by have:=uN hy;have:=Fl hb;omega)) ht t.kids [] q 1 rfl (by have:=ht.no.2.2.2.2.2.1;have:4294967296≤q:=hq;omega) (by omega)
  simp only [iY,Gz]
  rw [hz]
  exact this
section
variable {hd:Tm→(Int→Option S)→Option S} {t:Tm}
theorem K9 (a b:Nat) {α:Type} (f:Int→α):ab (decide (((b:Nat):Int)>(a:Int))) (f (b:Int)) (f (a:Int))=f ((max a b:Nat):Int):=by
 rw [aS]
 by_cases h:((b:Nat):Int)>(a:Int)
 ·rw [if_pos h,Nat.max_eq_right (by omega)]
 ·rw [if_neg h,Nat.max_eq_left (by omega)]
theorem abF (hk:Fu k) (ret:Int→Option S) (rec1:Int→Int→Option S) {v:Int} {x:Br Tm} (hv:al t.sys v=some x) (hQ: ∀y∈x.kids,∀g,hd y g=g ((ar y:Nat):Int)) (hl:x.kids.length<1073741824):
  ∀ (r p:List Tm) (m a:Nat),x.kids=p++r→r.length<m→j_ hd k ret rec1 t v m (a:Int) (p.length:Int)=rec1 ((max a (aP r):Nat):Int) (IntKind.wrap .i64 (v+1)):=by
 intro r
 induction r with
 |nil=>
  intro p m a h hm
  obtain ⟨m,rfl,hm'⟩:=ak hm
  have hz:max a (aP [])=a:=by rw [aP];omega
  rw [hz]
  simp only [j_,wd,hv,Option.bind_some,aA h,ad]
 |cons y r ih=>
  intro p m a h hm
  obtain ⟨m,rfl,hm'⟩:=ak hm
  obtain ⟨e1,e2,e3,e4⟩:=az h (by omega)
  have hy:=hQ y (by rw [h];simp)
  have hz:max a (aP (y::r))=max (max a (ar y)) (aP r):=by rw [aP];omega
  rw [hz]
  simp only [j_,wd,hv,e1,ae,e2,Option.bind_some,aq,hy,e3]
  rw [K9 a (ar y) (fun z=>j_ hd k ret rec1 t v m z (((p++[y]).length:Nat):Int)),ih (p++[y]) m (max a (ar y)) e4 hm']
theorem abE (hk:Fu k) (ret:Int→Option S) (hQ: ∀b∈t.sys,∀y∈b.kids,∀g,hd y g=g ((ar y:Nat):Int)) (hl:t.sys.length<1073741824) (hl': ∀b∈t.sys,b.kids.length<1073741824):
  ∀ (r p:List (Br Tm)) (m a:Nat),t.sys=p++r→r.length<m→max a (bh r)<4611686018427387904→g9 hd k ret t m (a:Int) (p.length:Int)=ret ((max a (bh r)+1:Nat):Int):=by
 intro r
 induction r with
 |nil=>
  intro p m a h hm ha
  obtain ⟨m,rfl,hm'⟩:=ak hm
  have hz:max a (bh [])=a:=by rw [bh];omega
  rw [hz] at ha ⊢
  have hw:IntKind.wrap .i64 ((a:Int)+1)=((a+1:Nat):Int):=by rw [bo (by omega) (by omega)];simp
  simp only [g9,rG,aA h,ad,hw]
 |cons x r ih=>
  intro p m a h hm ha
  obtain ⟨m,rfl,hm'⟩:=ak hm
  obtain ⟨e1,e2,e3,e4⟩:=az h (by omega)
  have hx:x∈t.sys:=by rw [h];simp
  have hlx:=hl' x hx
  have hz:max a (bh (x::r))=max (max a (aP x.kids)) (bh r):=by rw [bh,oI];omega
  rw [hz] at ha ⊢
  have:=abF (t:=t) hk ret (g9 hd k ret t m) e2 (hQ x hx) hlx x.kids [] k a rfl (by have:4294967296≤k:=hk;omega)
  have this:j_ hd k ret (g9 hd k ret t m) t (p.length:Int) k (a:Int) 0=_:=this
  simp only [g9,rG,e1,ae,this,e3,ih (p++[x]) m _ e4 hm' ha]
theorem abD (hk:Fu k) (ret:Int→Option S) (hQ: ∀y∈t.kids,∀g,hd y g=g ((ar y:Nat):Int)) (hQ': ∀b∈t.sys,∀y∈b.kids,∀g,hd y g=g ((ar y:Nat):Int)) (ht:OkT t):
  ∀ (r p:List Tm) (m a:Nat),t.kids=p++r→r.length<m→max (max a (aP r)) (bh t.sys)<4611686018427387904→nd hd k ret t m (a:Int) (p.length:Int)=ret ((max (max a (aP r)) (bh t.sys)+1:Nat):Int):=by
 obtain ⟨o1,o2,o3,o4,o5,o6,o7⟩:=ht.no
 intro r
 induction r with
 |nil=>
  intro p m a h hm ha
  obtain ⟨m,rfl,hm'⟩:=ak hm
  have hz:max a (aP [])=a:=by rw [aP];omega
  rw [hz] at ha ⊢
  have:=abE hk ret hQ' o7 (fun b hb=>(ht.bi hb).1.2.2) t.sys [] k a rfl (by have:4294967296≤k:=hk;omega) ha
  have this:g9 hd k ret t k (a:Int) 0=_:=this
  simp only [nd,rF,aA h,ad,this]
 |cons y r ih=>
  intro p m a h hm ha
  obtain ⟨m,rfl,hm'⟩:=ak hm
  obtain ⟨e1,e2,e3,e4⟩:=az h (by omega)
  have hy:=hQ y (by rw [h];simp)
  have hz:max a (aP (y::r))=max (max a (ar y)) (aP r):=by rw [aP];omega
  rw [hz] at ha ⊢
  simp only [nd,rF,e1,ae,e2,Option.bind_some,aq,hy,e3]
  rw [K9 a (ar y) (fun z=>nd hd k ret t m z (((p++[y]).length:Nat):Int)),ih (p++[y]) m (max a (ar y)) e4 hm' ha]
end
theorem afi (t:Tm):OkT t→ ∀ {k:Nat} (ret:Int→Option S),Fd k (ar t)→ar t<4611686018427387904→iX k t ret=ret ((ar t:Nat):Int):=by
 induction t using d4 with
 |h t ih1 ih2=>
  intro ht k ret hk hs
  obtain ⟨q,rfl,hq,hf⟩:=hk.pos' (cS t)
  have hz:=s_ t
  have:=abD hq ret (fun y hy g=>ih1 y hy (ht.ki hy) g (hf _ (cR hy)) (by have:=cR hy;omega)) (fun b hb y hy g=>ih2 b hb y hy ((ht.bi hb).2 y hy) g (hf _ (cQ hb hy)) (by have:=cQ hb hy;omega)) ht t.kids [] q 0 rfl (by have:=ht.no.2.2.2.2.2.1;have:4294967296≤q:=hq;omega) (by omega)
  simp only [iX,Gx]
  refine Eq.trans this ?_
  rw [hz,Nat.zero_max]
section
variable {hd:Tm→Int→Int→Bool→(Bool→Option S)→Option S} {vars dims:Int} {bd:Bool} {t:Tm}
theorem aby (hk:Fu k) (ret:Bool→Option S) (rec5:Int→Option S) (hv:VD vars dims 1) {v:Int} {x:Br Tm} (hQ: ∀y∈x.kids,∀g,hd y vars (dims+aE t.kind) bd g=g (bz bd vars (dims+aE t.kind) y)) (hl:x.kids.length<1073741824):
  ∀ (r p:List Tm) (m:Nat),x.kids=p++r→r.length<m→lK hd k ret rec5 x t vars v dims bd m (p.length:Int)=if dC bd vars dims t.kind r then rec5 (IntKind.wrap .i64 (v+1)) else ret false:=by
 have hmo:=ei t.kind
 unfold VD at hv
 intro r
 induction r with
 |nil=>
  intro p m h hm
  obtain ⟨m,rfl,hm'⟩:=ak hm
  simp only [lK,v_,aA h,ad];rfl
 |cons y r ih=>
  intro p m h hm
  obtain ⟨m,rfl,hm'⟩:=ak hm
  obtain ⟨e1,e2,e3,e4⟩:=az h (by omega)
  have hy:=hQ y (by rw [h];simp)
  simp only [lK,v_,e1,ae,e2,Option.bind_some,af hk,aq,Fc,bo (n:=dims+aE t.kind) (by omega) (by omega),hy,e3,ih (p++[y]) m e4 hm',Fi]
  rw [dC]
theorem abx (hk:Fu k) (ret:Bool→Option S) (hv:VD vars dims 1) (hQ: ∀b∈t.sys,∀y∈b.kids,∀g,hd y vars (dims+aE t.kind) bd g=g (bz bd vars (dims+aE t.kind) y)) (ht:OkT t):
  ∀ (r p:List (Br Tm)) (m:Nat),t.sys=p++r→r.length<m→g7 hd k ret t vars dims bd m (p.length:Int)=ret (r.all fun b=>cF t.kind dims b&&dC bd vars dims t.kind b.kids):=by
 obtain ⟨o1,o2,o3,o4,o5,o6,o7⟩:=ht.no
 have hv':=hv
 unfold VD at hv'
 intro r
 induction r with
 |nil=>
  intro p m h hm
  obtain ⟨m,rfl,hm'⟩:=ak hm
  simp only [g7,rB,aA h,ad];rfl
 |cons x r ih=>
  intro p m h hml
  obtain ⟨m,rfl,hm'⟩:=ak hml
  obtain ⟨e1,e2,e3,e4⟩:=az h (by omega)
  have hx:x∈t.sys:=by rw [h];simp
  have hb:=(ht.bi hx).1
  have:=aby (t:=t) (bd:=bd) hk ret (g7 hd k ret t vars dims bd m) hv (v:=(p.length:Int)) (hQ x hx) hb.2.2 x.kids [] k rfl (by have:4294967296≤k:=hk;omega)
  have this:lK hd k ret (g7 hd k ret t vars dims bd m) x t vars (p.length:Int) dims bd k 0=_:=this
  have hq:((x.kids.length:Int)==ck t.kind)=decide ((x.kids.length:Int)=ck t.kind):=by rw [Bool.eq_iff_iff];simp
  simp only [g7,rB,e1,ae,e2,Option.bind_some,af hk,OT,ky hk hb.1 (show x.face.length<2147483648 by omega),OF hk hb.1 hb.2.1,this,e3,ih (p++[x]) m e4 hm',CT,ju,hq]
  congr 1
  have:cF t.kind dims x=(decide ((x.kids.length:Int)=ck t.kind)&&(bD x.face&&cK x.face dims)):=rfl
  rw [List.all_cons,this]
  simp only [Bool.and_assoc]
theorem abw (hk:Fu k) (ret:Bool→Option S) (hv:VD vars dims 1) (hQ: ∀y∈t.kids,∀v d,0≤v∧v≤1→0≤d∧d≤1→ ∀g,hd y (dA vars v) (dims+d) bd g=g (bz bd (dA vars v) (dims+d) y)) (hQ': ∀b∈t.sys,∀y∈b.kids,∀g,hd y vars (dims+aE t.kind) bd g=g (bz bd vars (dims+aE t.kind) y)) (ht:OkT t):
  ∀ (r p:List Tm) (m:Nat),t.kids=p++r→r.length<m→jf hd k ret t vars dims bd m (p.length:Int)=ret (ci bd vars dims t.kind p.length r&&t.sys.all fun b=>cF t.kind dims b&&dC bd vars dims t.kind b.kids):=by
 obtain ⟨o1,o2,o3,o4,o5,o6,o7⟩:=ht.no
 have hv':=hv
 unfold VD at hv'
 intro r
 induction r with
 |nil=>
  intro p m h hm
  obtain ⟨m,rfl,hm'⟩:=ak hm
  have hs:g7 hd k ret t vars dims bd k 0=_:=abx hk ret hv hQ' ht t.sys [] k rfl (by have:4294967296≤k:=hk;omega)
  simp only [jf,rA,aA h,ad,hs]
  rw [ci,Bool.true_and]
 |cons y r ih=>
  intro p m h hm
  obtain ⟨m,rfl,hm'⟩:=ak hm
  obtain ⟨e1,e2,e3,e4⟩:=az h (by omega)
  have b1:=wA t.kind p.length
  have b2:=gO t.kind p.length
  have hy:=hQ y (by rw [h];simp) (dP t.kind p.length) (bQ t.kind p.length) b1 b2
  simp only [jf,rA,e1,ae,e2,Option.bind_some,af hk,E8 hk,aq,bo (n:=dims+bQ t.kind p.length) (by omega) (by omega),bo (n:=vars+0) (by omega) (by omega),bo (n:=vars+dP t.kind p.length) (by omega) (by omega),e3,ih (p++[y]) m e4 hm']
  have hvb:ab (decide (vars<0)) (hd y (vars+0) (dims+bQ t.kind p.length) bd fun r8=>ab (!r8) (ret false) (ret (ci bd vars dims t.kind (p++[y]).length r&&t.sys.all fun b=>cF t.kind dims b&&dC bd vars dims t.kind b.kids)))
    (hd y (vars+dP t.kind p.length) (dims+bQ t.kind p.length) bd fun r10=>ab (!r10) (ret false) (ret (ci bd vars dims t.kind (p++[y]).length r&&t.sys.all fun b=>cF t.kind dims b&&dC bd vars dims t.kind b.kids)))
    =hd y (dA vars (dP t.kind p.length)) (dims+bQ t.kind p.length) bd fun r8=>ab (!r8) (ret false) (ret (ci bd vars dims t.kind (p++[y]).length r&&t.sys.all fun b=>cF t.kind dims b&&dC bd vars dims t.kind b.kids)):=by
   rw [aS]
   unfold dA
   split
   ·rw [Int.add_zero]
   ·rfl
  rw [hvb,hy,ju,ci,show (p++[y]).length=p.length+1 by simp,Bool.and_assoc]
end
def nK (vars:Int) (t:Tm):Bool:=if t.kind=1 then decide (0≤t.n)&&decide (vars<0∨t.n<vars) else decide (t.n=0)
def pY (t:Tm):Bool:=if t.kind=2 then kj t.name.data.toList else decide (t.name.size=0)
def rK (t:Tm):Bool:=if t.kind=13∨t.kind=21∨t.kind=26 then bn t.r else if t.kind=14 then bD t.r else decide (t.r.length=0)
theorem Dg (d:Int) (l:List Cl) (h:l.length=0):cK l d=true:=by
 have:=List.length_eq_zero_iff.1 h
 subst this
 unfold cK
 rw [decide_eq_true_eq]
 intro i hi
 have:=(mem_bitsN.1 hi).2
 rw [Cb] at this
 simp [fA] at this
theorem Wj {α:Type} (l:List α) (f g:α→Bool):(l.all fun x=>f x&&g x)=(l.all f&&l.all g):=by
 induction l with
 |nil=>rfl
 |cons x l ih=>rw [List.all_cons,List.all_cons,List.all_cons,ih];cases f x<;>cases g x<;>simp
theorem Wi {bd:Bool} {vars dims kd:Int}: ∀ {l:List (Br Tm)},(l.all fun b=>dC bd vars dims kd b.kids)=dc bd vars dims kd l:=by
 intro l
 induction l with
 |nil=>rw [dc];rfl
 |cons b l ih=>cases b;rw [dc,←ih,qY];rfl
theorem ad0 (vars dims:Int) (t:Tm) (AK AS:Bool):
  (decide (ef t.kind=t.kids.length)&&(decide (0<t.sys.length→ck t.kind≠0)&&(nK vars t&&(pY t&&(rK t&&(cK t.r dims&&(AK&&(t.sys.all (cF t.kind dims)&&AS))))))))=(eo vars dims t&&(AK&&AS)):=by
 rw [Lq]
 have hp:decide (0<t.sys.length→ck t.kind≠0)=decide (ck t.kind=0→t.sys.length=0):=s9 ⟨fun h h0=>by
  by_cases h1:0<t.sys.length
  ·exact absurd h0 (h h1)
  ·omega,fun h h0 h1=>by have:=h h1;omega⟩
 rw [hp]
 cases decide (ef t.kind=t.kids.length) with
 |false=>rfl
 |true=>
  simp only [Bool.true_and]
  by_cases hs:ck t.kind=0→t.sys.length=0
  ·rw [decide_eq_true hs]
   have nosys:ck t.kind=0→t.sys.all (cF t.kind dims)=true:=fun h=>by
    have:=List.length_eq_zero_iff.1 (hs h);rw [this];rfl
   unfold nK pY rK lV
   by_cases c1:t.kind=1
   ·simp only [c1,if_true,show ((1:Int)=2)=False from by simp,show ((1:Int)=13)=False from by simp,show ((1:Int)=14)=False from by simp,show ((1:Int)=21)=False from by simp,show ((1:Int)=26)=False from by simp,or_self,if_false,true_or,decide_true,Bool.true_and,false_or]
    rw [c1] at nosys
    rw [nosys (by decide)]
    by_cases h0:t.r.length=0
    ·rw [Dg dims t.r h0,decide_eq_true h0]
     simp only [Bool.true_and,Bool.and_true]
     cases decide (t.name.size=0)<;>simp
    ·rw [decide_eq_false h0];simp
   ·by_cases c2:t.kind=2
    ·simp only [c2,if_true,show ((2:Int)=1)=False from by simp,show ((2:Int)=13)=False from by simp,show ((2:Int)=14)=False from by simp,show ((2:Int)=21)=False from by simp,show ((2:Int)=26)=False from by simp,or_self,if_false,true_or,decide_true,Bool.true_and,false_or]
     rw [c2] at nosys
     rw [nosys (by decide)]
     by_cases h0:t.r.length=0
     ·rw [Dg dims t.r h0,decide_eq_true h0]
      simp only [Bool.true_and,Bool.and_true,Bool.and_assoc]
     ·rw [decide_eq_false h0];simp
    ·simp only [c1,c2,if_false,false_or,Bool.true_and]
     by_cases c3:t.kind=13∨t.kind=21∨t.kind=26
     ·rw [if_pos c3,if_pos c3,nosys (by rcases c3 with h|h|h<;>rw [h]<;>decide)]
      simp only [Bool.true_and,Bool.and_true,Bool.and_assoc]
     ·rw [if_neg c3,if_neg c3]
      by_cases c4:t.kind=14
      ·rw [if_pos c4,if_pos c4,nosys (by rw [c4];decide)]
       simp only [Bool.true_and,Bool.and_true,Bool.and_assoc]
      ·rw [if_neg c4,if_neg c4]
       by_cases h0:t.r.length=0
       ·rw [Dg dims t.r h0,decide_eq_true h0]
        simp only [Bool.true_and,Bool.and_true,Bool.and_assoc]
        cases AK<;>cases t.sys.all (cF t.kind dims)<;>simp
       ·rw [decide_eq_false h0];simp
  ·rw [decide_eq_false hs];simp
theorem afe (t:Tm):OkT t→ ∀ {k:Nat} {vars dims:Int} {bd:Bool} (ret:Bool→Option S),Fd k (ar t)→VD vars dims (ar t)→cj k t vars dims bd ret=ret (bz bd vars dims t):=by
 induction t using d4 with
 |h t ih1 ih2=>
  intro ht k vars dims bd ret hk hv
  obtain ⟨q,rfl,hq,hf⟩:=hk.pos' (cS t)
  have hp:=cS t
  have hv':=hv
  unfold VD at hv'
  have hv1:VD vars dims 1:=by unfold VD;omega
  have hm:=ei t.kind
  obtain ⟨o1,o2,o3,o4,o5,o6,o7⟩:=ht.no
  have hQ: ∀y∈t.kids,∀v d,0≤v∧v≤1→0≤d∧d≤1→ ∀g:Bool→Option S,cj q y (dA vars v) (dims+d) bd g=g (bz bd (dA vars v) (dims+d) y):=fun y hy v d h1 h2 g=>ih1 y hy (ht.ki hy) g (hf _ (cR hy)) (by
   have:=cR hy;have:=Rq (vars:=vars) h1;unfold VD;omega)
  have hQ': ∀b∈t.sys,∀y∈b.kids,∀g:Bool→Option S,cj q y vars (dims+aE t.kind) bd g=g (bz bd vars (dims+aE t.kind) y):=fun b hb y hy g=>ih2 b hb y hy ((ht.bi hb).2 y hy) g (hf _ (cQ hb hy)) (by
   have:=cQ hb hy;unfold VD;omega)
  have h4:jf (cj q) q ret t vars dims bd q 0=_:=abw (bd:=bd) hq ret hv1 hQ hQ' ht t.kids [] q rfl (by have:4294967296≤q:=hq;omega)
  rw [Wj,Wi] at h4
  have h4:jf (cj q) q ret t vars dims bd q 0=ret (ci bd vars dims t.kind 0 t.kids&&(t.sys.all (cF t.kind dims)&&dc bd vars dims t.kind t.sys)):=h4
  generalize hAK:ci bd vars dims t.kind 0 t.kids=AK at h4
  generalize hAS:dc bd vars dims t.kind t.sys=AS at h4
  generalize hw:(AK&&(t.sys.all (cF t.kind dims)&&AS))=W at h4
  obtain ⟨q',hq'⟩: ∃q',q=q'+1:=⟨q-1,by have:4294967296≤q:=hq;omega⟩
  have j3:pB (cj q) q ret t vars dims bd q=ret (cK t.r dims&&W):=by
   have: ∀j,j=q'+1→pB (cj q) q ret t vars dims bd j=rz (cj q) q ret t vars dims bd (fun i9=>jf (cj q) q ret t vars dims bd q i9):=by rintro j rfl;rfl
   rw [this q hq']
   simp only [rz,af hq,OF hq o4 o5,h4,ju]
  have j2:pA (cj q) q ret t vars dims bd q=ret (rK t&&(cK t.r dims&&W)):=by
   have: ∀j,j=q'+1→pA (cj q) q ret t vars dims bd j=ry (cj q) q ret t vars dims bd (pB (cj q) q ret t vars dims bd q):=by rintro j rfl;rfl
   rw [this q hq',j3]
   simp only [ry,af hq,gD hq o4 (show t.r.length<2147483648 by omega),ky hq o4 (show t.r.length<2147483648 by omega),ju]
   have hr0:ab (decide (((t.r.length:Nat):Int)>0)) (ret false) (ret (cK t.r dims&&W))=ret (decide (t.r.length=0)&&(cK t.r dims&&W)):=by
    rw [aS]
    by_cases h0:t.r.length=0
    ·rw [if_neg (by omega),decide_eq_true h0,Bool.true_and]
    ·rw [if_pos (by omega),decide_eq_false h0,Bool.false_and]
   rw [hr0]
   simp only [cx,beq_iff_eq]
   unfold rK
   by_cases c3:t.kind=13
   ·rw [if_pos c3,if_pos (.inl c3)]
   ·rw [if_neg c3]
    by_cases c4:t.kind=21
    ·rw [if_pos c4,if_pos (.inr (.inl c4))]
    ·rw [if_neg c4]
     by_cases c5:t.kind=26
     ·rw [if_pos c5,if_pos (.inr (.inr c5))]
     ·rw [if_neg c5,if_neg (show ¬ (t.kind=13∨t.kind=21∨t.kind=26) by omega)]
      by_cases c6:t.kind=14
      ·rw [if_pos c6,if_pos c6]
      ·rw [if_neg c6,if_neg c6]
  have j1:pz (cj q) q ret t vars dims bd q=ret (pY t&&(rK t&&(cK t.r dims&&W))):=by
   have: ∀j,j=q'+1→pz (cj q) q ret t vars dims bd j=rx (cj q) q ret t vars dims bd (pA (cj q) q ret t vars dims bd q):=by rintro j rfl;rfl
   rw [this q hq',j2]
   simp only [rx,af hq,afs hq (show t.name.size<2147483648 by omega),DE,ju]
   unfold pY
   by_cases c:t.kind=2
   ·rw [if_pos c,c,show ((2:Int)==2)=true from rfl,ae,Bool.not_true,ad,ju]
   ·have:(t.kind==2)=false:=by rw [beq_eq_false_iff_ne];exact c
    rw [if_neg c,this,ad,Bool.not_false,ae]
  have j0:yy (cj q) q ret t vars dims bd q=ret (nK vars t&&(pY t&&(rK t&&(cK t.r dims&&W)))):=by
   have: ∀j,j=q'+1→yy (cj q) q ret t vars dims bd j=rt (cj q) q ret t vars dims bd (pz (cj q) q ret t vars dims bd q):=by rintro j rfl;rfl
   rw [this q hq',j1]
   simp only [rt,aY,ju]
   unfold nK
   by_cases c:t.kind=1
   ·rw [if_pos c,c]
    rw [show ((1:Int)==1)=true from rfl,ae,aS,aS,aS]
    by_cases h1:t.n<0
    ·rw [if_pos h1,decide_eq_false (by omega)];rfl
    ·rw [if_neg h1,decide_eq_true (by omega),Bool.true_and]
     by_cases h2:vars≥0
     ·rw [if_pos h2]
      by_cases h3:t.n≥vars
      ·rw [if_pos h3,decide_eq_false (by omega)];rfl
      ·rw [if_neg h3,decide_eq_true (.inr (by omega))];rfl
     ·rw [if_neg h2,decide_eq_true (.inl (by omega))];rfl
   ·have:(t.kind==1)=false:=by rw [beq_eq_false_iff_ne];exact c
    rw [if_neg c,this,ad]
  simp only [cj,Gu,aq,af hq,OQ,OT,j0]
  have hkk:(ef t.kind==(t.kids.length:Int))=decide (ef t.kind=t.kids.length):=by rw [Bool.eq_iff_iff];simp
  generalize hZ:(nK vars t&&(pY t&&(rK t&&(cK t.r dims&&W))))=Z
  have hsy:ab (decide (((t.sys.length:Nat):Int)>0)) (ab (ck t.kind==0) (ret false) (ret Z)) (ret Z)=ret (decide (0<t.sys.length→ck t.kind≠0)&&Z):=by
   rw [aS,cx]
   by_cases h1:0<t.sys.length
   ·rw [if_pos (by omega)]
    by_cases h2:ck t.kind=0
    ·rw [if_pos (by rw [h2];rfl),decide_eq_false (fun h=>h h1 h2)];rfl
    ·rw [if_neg (by rw [beq_iff_eq];exact h2),decide_eq_true (fun _=>h2)];rfl
   ·rw [if_neg (by omega),decide_eq_true (fun h=>absurd h h1)];rfl
  rw [hsy,ju,hkk]
  have hfin:=ad0 vars dims t AK AS
  rw [hw,hZ] at hfin
  rw [hfin,qZ,hAK,hAS]
  cases bd with
  |true=>
   rw [ae,aS,Bool.true_and]
   by_cases h24:dims>24
   ·rw [if_pos h24,decide_eq_true h24];rfl
   ·rw [if_neg h24,decide_eq_false h24];rfl
  |false=>rw [ad];rfl
theorem afq {t:Tm} (ht:OkT t) (hk:Fd k (ar t)) (hs:ax t<1099511627776) (ret:Int→Option S):xy k t ret=ret (if ar t>200 then 62 else if ax t>20000 then 221 else 0):=by
 have:=gm t
 simp only [xy,Qw,aq,afi t ht _ hk (show ar t<4611686018427387904 by omega),afp t ht _ hk (show ax t<4611686018427387904 by omega),aS]
 by_cases h1:ar t>200
 ·rw [if_pos h1,if_pos (by omega)]
 ·rw [if_neg h1,if_neg (by omega)]
  by_cases h2:ax t>20000
  ·rw [if_pos h2,if_pos (by omega)]
  ·rw [if_neg h2,if_neg (by omega)]
theorem Fb {t:Tm} (ht:OkT t) (hk:Fd k (ar t)) (hs:ax t<1099511627776) (ret:Int→Option S):oA k t ret=ret (cG t):=by
 have:=gm t
 simp only [oA,Qr,aq,af hk.fu,afq ht hk hs,afe t ht _ hk (show VD (-1) 24 (ar t) by unfold VD;omega),aY]
 unfold cG
 by_cases h1:ar t>200
 ·rw [if_pos h1,if_pos h1];rfl
 ·rw [if_neg h1,if_neg h1]
  by_cases h2:ax t>20000
  ·rw [if_pos h2,if_pos h2];rfl
  ·rw [if_neg h2,if_neg h2,decide_eq_true rfl,ae]
   cases bz false (-1) 24 t<;>rfl
theorem ab0 (hk:Fu k) (ret:Bool→Option S) {l:List Cl} (hlen:l.length<2147483648):
  ∀ (r p:List Cl) (m:Nat),l=p++r→r.length<m→j9 k ret l l m (p.length:Int)=ret true:=by
 intro r
 induction r with
 |nil=>
  intro p m h hm
  obtain ⟨m,rfl,hm'⟩:=ak hm
  simp only [j9,nV,aA h,ad]
 |cons x r ih=>
  intro p m h hm
  obtain ⟨m,rfl,hm'⟩:=ak hm
  obtain ⟨e1,e2,e3,e4⟩:=az h (by omega)
  simp only [j9,nV,e1,ae,e2,Option.bind_some,e3,ih (p++[x]) m e4 hm',jG,decide_true,Bool.not_true,ad]
theorem OX (hk:Fu k) {l:List Cl} (hlen:l.length<2147483648) (ret:Bool→Option S):iW k l l ret=ret true:=by
 simp only [iW,zX,beq_self_eq_true,Bool.not_true,ad]
 exact ab0 hk ret hlen l [] k rfl (by have:4294967296≤k:=hk;omega)
section
variable {hd:Tm→Tm→(Bool→Option S)→Option S}
theorem abe (hk:Fu k) (ret:Bool→Option S) {l:List Tm} (hlen:l.length<2147483648) (hQ: ∀y∈l,∀g,hd y y g=g true):
  ∀ (r p:List Tm) (m:Nat),l=p++r→r.length<m→pF hd k ret l l m (p.length:Int)=ret true:=by
 intro r
 induction r with
 |nil=>
  intro p m h hm
  obtain ⟨m,rfl,hm'⟩:=ak hm
  simp only [pF,wh,aA h,ad]
 |cons x r ih=>
  intro p m h hm
  obtain ⟨m,rfl,hm'⟩:=ak hm
  obtain ⟨e1,e2,e3,e4⟩:=az h (by omega)
  simp only [pF,wh,e1,ae,e2,Option.bind_some,aq,hQ x (by rw [h];simp),e3,ih (p++[x]) m e4 hm',Bool.not_true,ad]
theorem OE (hk:Fu k) (ret:Bool→Option S) {l:List Tm} (hlen:l.length<2147483648) (hQ: ∀y∈l,∀g,hd y y g=g true):sK hd k l l ret=ret true:=by
 simp only [sK,GA,beq_self_eq_true,Bool.not_true,ad]
 exact abe hk ret hlen hQ l [] k rfl (by have:4294967296≤k:=hk;omega)
theorem abv (hk:Fu k) (ret:Bool→Option S) {t:Tm} (ht:OkT t) (hQ: ∀b∈t.sys,∀y∈b.kids,∀g,hd y y g=g true):
  ∀ (r p:List (Br Tm)) (m:Nat),t.sys=p++r→r.length<m→nf hd k ret t t m (p.length:Int)=ret true:=by
 obtain ⟨o1,o2,o3,o4,o5,o6,o7⟩:=ht.no
 intro r
 induction r with
 |nil=>
  intro p m h hm
  obtain ⟨m,rfl,hm'⟩:=ak hm
  simp only [nf,we,aA h,ad]
 |cons x r ih=>
  intro p m h hm
  obtain ⟨m,rfl,hm'⟩:=ak hm
  obtain ⟨e1,e2,e3,e4⟩:=az h (by omega)
  have hx:x∈t.sys:=by rw [h];simp
  have hb:=(ht.bi hx).1
  simp only [nf,we,e1,ae,e2,Option.bind_some,af hk,OX hk (show x.face.length<2147483648 by omega),OE hk _ (show x.kids.length<2147483648 by omega) (hQ x hx),e3,ih (p++[x]) m e4 hm',Bool.not_true,ad]
end
theorem Fe (t:Tm):OkT t→ ∀ {k:Nat} (ret:Bool→Option S),Fd k (ar t)→dz k t t ret=ret true:=by
 induction t using d4 with
 |h t ih1 ih2=>
  intro ht k ret hk
  obtain ⟨q,rfl,hq,hf⟩:=hk.pos' (cS t)
  obtain ⟨o1,o2,o3,o4,o5,o6,o7⟩:=ht.no
  have hQ: ∀y∈t.kids,∀g:Bool→Option S,dz q y y g=g true:=fun y hy g=>ih1 y hy (ht.ki hy) g (hf _ (cR hy))
  have hQ': ∀b∈t.sys,∀y∈b.kids,∀g:Bool→Option S,dz q y y g=g true:=fun b hb y hy g=>ih2 b hb y hy ((ht.bi hb).2 y hy) g (hf _ (cQ hb hy))
  have:=abv hq ret ht hQ' t.sys [] q rfl (by have:4294967296≤q:=hq;omega)
  have this:nf (dz q) q ret t t q 0=_:=this
  have hn:(t.name==t.name)=true:=by rw [Hl];exact decide_eq_true rfl
  simp only [dz,Gy,beq_self_eq_true,hn,Bool.not_true,ad,af hq,OX hq (show t.r.length<2147483648 by omega),OE hq _ (show t.kids.length<2147483648 by omega) hQ,this]
section
variable {hd:Tm→Int→(Int→Option S)→Option S} {t:Tm}
theorem aaF (hk:Fu k) (ret:Int→Option S) (rec1:Int→Int→Option S) {v most:Int} {x:Br Tm} (hv:al t.sys v=some x) (hQ: ∀y∈x.kids,∀n g,∃w,hd y n g=g w) (hl:x.kids.length<1073741824):
  ∀ (r p:List Tm) (m:Nat) (a:Int),x.kids=p++r→r.length<m→ ∃w,fh hd k ret rec1 t most v m a (p.length:Int)=rec1 w (IntKind.wrap .i64 (v+1)):=by
 intro r
 induction r with
 |nil=>
  intro p m a h hm
  obtain ⟨m,rfl,hm'⟩:=ak hm
  exact ⟨a,by simp only [fh,nW,hv,Option.bind_some,aA h,ad]⟩
 |cons y r ih=>
  intro p m a h hm
  obtain ⟨m,rfl,hm'⟩:=ak hm
  obtain ⟨e1,e2,e3,e4⟩:=az h (by omega)
  simp only [fh,nW,hv,e1,ae,e2,Option.bind_some,aq,e3]
  cases decide (a≤most) with
  |false=>exact ⟨a,rfl⟩
  |true=>
   rw [ae]
   obtain ⟨w,hw⟩:=hQ y (by rw [h];simp) (IntKind.wrap .i64 (most-a)) (fun r8=>fh hd k ret rec1 t most v m (IntKind.wrap .i64 (a+r8)) (((p++[y]).length:Nat):Int))
   rw [hw]
   exact ih (p++[y]) m _ e4 hm'
theorem aaE (hk:Fu k) (ret:Int→Option S) {most:Int} (hQ: ∀b∈t.sys,∀y∈b.kids,∀n g,∃w,hd y n g=g w) (ht:OkT t):
  ∀ (r p:List (Br Tm)) (m:Nat) (a:Int),t.sys=p++r→r.length<m→ ∃w,eW hd k ret t most m a (p.length:Int)=ret w:=by
 obtain ⟨o1,o2,o3,o4,o5,o6,o7⟩:=ht.no
 intro r
 induction r with
 |nil=>
  intro p m a h hm
  obtain ⟨m,rfl,hm'⟩:=ak hm
  exact ⟨a,by simp only [eW,mz,aA h,ad]⟩
 |cons x r ih=>
  intro p m a h hm
  obtain ⟨m,rfl,hm'⟩:=ak hm
  obtain ⟨e1,e2,e3,e4⟩:=az h (by omega)
  have hx:x∈t.sys:=by rw [h];simp
  have hb:=(ht.bi hx).1
  simp only [eW,mz,e1,ae,e2,Option.bind_some,e3]
  cases decide (a≤most) with
  |false=>exact ⟨a,rfl⟩
  |true=>
   rw [ae]
   cases decide (((x.face.length:Nat):Int)>most) with
   |true=>exact ⟨_,rfl⟩
   |false=>
    rw [ad]
    obtain ⟨w,hw⟩:=aaF (t:=t) (most:=most) hk ret (eW hd k ret t most m) e2 (hQ x hx) hb.2.2 x.kids [] k (IntKind.wrap .i64 (IntKind.wrap .i64 (a+1)+((x.face.length:Nat):Int))) rfl (by have:4294967296≤k:=hk;omega)
    have hw:fh hd k ret (eW hd k ret t most m) t most (p.length:Int) k (IntKind.wrap .i64 (IntKind.wrap .i64 (a+1)+((x.face.length:Nat):Int))) 0=_:=hw
    rw [hw,e3]
    exact ih (p++[x]) m w e4 hm'
theorem aaD (hk:Fu k) (ret:Int→Option S) {most:Int} (hQ: ∀y∈t.kids,∀n g,∃w,hd y n g=g w) (hQ': ∀b∈t.sys,∀y∈b.kids,∀n g,∃w,hd y n g=g w) (ht:OkT t):
  ∀ (r p:List Tm) (m:Nat) (a:Int),t.kids=p++r→r.length<m→ ∃w,g8 hd k ret t most m a (p.length:Int)=ret w:=by
 obtain ⟨o1,o2,o3,o4,o5,o6,o7⟩:=ht.no
 intro r
 have hs:=fun a=>aaE (most:=most) hk ret hQ' ht t.sys [] k a rfl (by have:4294967296≤k:=hk;omega)
 induction r with
 |nil=>
  intro p m a h hm
  obtain ⟨m,rfl,hm'⟩:=ak hm
  simp only [g8,my,aA h,ad]
  exact hs a
 |cons y r ih=>
  intro p m a h hm
  obtain ⟨m,rfl,hm'⟩:=ak hm
  obtain ⟨e1,e2,e3,e4⟩:=az h (by omega)
  simp only [g8,my,e1,ae,e2,Option.bind_some,aq,e3]
  cases decide (a≤most) with
  |false=>exact hs a
  |true=>
   rw [ae]
   obtain ⟨w,hw⟩:=hQ y (by rw [h];simp) (IntKind.wrap .i64 (most-a)) (fun r2=>g8 hd k ret t most m (IntKind.wrap .i64 (a+r2)) (((p++[y]).length:Nat):Int))
   rw [hw]
   exact ih (p++[y]) m _ e4 hm'
end
theorem E9 (t:Tm):OkT t→ ∀ {k:Nat} (most:Int) (ret:Int→Option S),Fd k (ar t)→ ∃w,cP k t most ret=ret w:=by
 induction t using d4 with
 |h t ih1 ih2=>
  intro ht k most ret hk
  obtain ⟨q,rfl,hq,hf⟩:=hk.pos' (cS t)
  obtain ⟨o1,o2,o3,o4,o5,o6,o7⟩:=ht.no
  have hQ: ∀y∈t.kids,∀n (g:Int→Option S),∃w,cP q y n g=g w:=fun y hy n g=>ih1 y hy (ht.ki hy) n g (hf _ (cR hy))
  have hQ': ∀b∈t.sys,∀y∈b.kids,∀n (g:Int→Option S),∃w,cP q y n g=g w:=fun b hb y hy n g=>ih2 b hb y hy ((ht.bi hb).2 y hy) n g (hf _ (cQ hb hy))
  simp only [cP,zY]
  cases decide (((t.r.length:Nat):Int)>most) with
  |true=>exact ⟨_,rfl⟩
  |false=>
   rw [ad]
   cases decide (((t.name.size:Nat):Int)>most) with
   |true=>exact ⟨_,rfl⟩
   |false=>
    rw [ad]
    exact aaD hq ret hQ hQ' ht t.kids [] q _ rfl (by have:4294967296≤q:=hq;omega)
end Go.Proofs.YtapmagaejigpnaaGreatDoor
namespace Go.Proofs.YtapmagaejigpnaaGreatDoor
open Go PI
set_option linter.unusedVariables false
set_option linter.unusedSimpArgs false
set_option maxRecDepth 20000
variable {S:Type} {k:Nat}
def pE {α:Type}:Except Int α→Pan Int α
 | .ok a=> .ok a
 | .error e=> .pan e
def eE {α β:Type} (x:Except Int α) (f:α→β) (g:Int→β):β:=match x with
 | .ok a=>f a
 | .error e=>g e
theorem mP {α β:Type} (x:Except Int α) (f:α→β) (g:Int→β):Pan.elim (pE x) f g=eE x f g:=by cases x<;>rfl
theorem aM {α β γ:Type} (x:Except Int α) (f:α→Except Int β) (u:β→γ) (w:Int→γ):eE (bE x f) u w=eE x (fun a=>eE (f a) u w) w:=by cases x<;>rfl
theorem aR {α β:Type} (a:α) (f:α→β) (g:Int→β):eE (.ok a) f g=f a:=rfl
theorem ad9 {α:Type} (x:Except Int α) (ret:Pan Int α→Option S):ret (pE x)=eE x (fun a=>ret (.ok a)) fun e=>ret (.pan e):=by cases x<;>rfl
def aN:Tm:= .mk 0 0 ByteArray.empty [] [] []
def bp (e:Int):Tm:= .mk (-e) 0 ByteArray.empty [] [] []
def rE:Except Int Tm→Tm
 | .ok t=>t
 | .error e=>bp e
def tE:Except Int Tm→Tm×Int
 | .ok t=>(t,0)
 | .error e=>(aN,e)
theorem ku (x:Except Int Tm) (ret:Tm→Option S):ret (rE x)=eE x ret fun e=>ret (bp e):=by cases x<;>rfl
theorem bJ {α β:Type} {x:Except Int α} {f f':α→β} {g g':Int→β} (h: ∀a,x= .ok a→f a=f' a) (h': ∀e,x= .error e→g e=g' e):eE x f g=eE x f' g':=by
 cases x with
 |ok a=>exact h a rfl
 |error e=>exact h' e rfl
theorem OG (hk:Fu k) {a b d:Int} {f:List Cl} (hf:am f) (hl:f.length<1073741824) (hd:aF d) (hb:aF b) (ret:Pan Int (List Cl)→Option S):sA k a b f d ret=ret (pE (cM d b f)):=by
 simp only [sA,P7,af hk,uH hk hf hl hd hb,aY,aS,aO (show 0+f.length≤1099511627776 by omega)]
 unfold cM
 by_cases h0:b=0
 ·rw [if_pos h0,if_pos (.inl h0)];rfl
 ·rw [if_neg h0]
  by_cases h1:d≥24
  ·rw [if_pos h1,if_pos (.inr h1)];rfl
  ·rw [if_neg h1,if_neg (show ¬ (b=0∨d≥24) by omega)]
   by_cases h2:(a7 f d b).2=0
   ·rw [decide_eq_true h2,e_ h2];rfl
   ·rw [decide_eq_false h2,d5 h2];rfl
theorem OI (hk:Fu k) {b d:Int} {f:List Cl} (hf:RF f) (hd:0≤d∧d<9223372036854775808) (hb:0≤b∧b<9223372036854775808) (ret:List Cl×Int→Option S): ∃z:List Cl×Int,cz z=cM d b f∧sM k f d b ret=ret z:=by
 have hl:=hf.len
 simp only [sM,QA,af hk,uK hk hf.2 (show f.length<1073741824 by omega) (show aF d by unfold aF;omega) (show aF b by unfold aF;omega),pU,aS]
 by_cases h0:f.length=0
 ·refine ⟨([],0), ?_,by rw [if_pos h0]⟩
  have:=List.length_eq_zero_iff.1 h0
  subst this
  rw [zF];rfl
 ·refine ⟨a7 f d b, ?_,by rw [if_neg h0]⟩
  unfold cM
  split
  ·next h=>rw [ace hf hd.1 hb.1 h];rfl
  ·rfl
section
variable {hd:Int→Int→Tm→Int→Int→(Pan Int Tm→Option S)→Option S} {vb db v d:Int} {t:Tm}
theorem abd (hk:Fu k) (ret:Pan Int Tm→Option S) (rec2:List (Br Tm)→Int→Int→Option S) {r12 r2:List Cl} {b1 v90:Int} {ks:List Tm} {o:List (Br Tm)} {x:Br Tm} {more:Int} (hm:more=aE t.kind)
  (hd0:0≤d∧d<4611686018427387904) (hQ: ∀y∈x.kids,∀g,hd vb db y v (d+more) g=g (pE (bL vb db v (d+more) y))) (hl:x.kids.length<1073741824) (ho:o.length<1073741824):
  ∀ (r p:List Tm) (m:Nat) (acc:List Tm),x.kids=p++r→r.length<m→acc.length=p.length→
  lD hd k ret rec2 r12 vb db t b1 r2 ks o x more v d v90 m acc (p.length:Int)=eE (dV vb db v d t.kind r) (fun l=>rec2 (o++[⟨r12,acc++l⟩]) more (IntKind.wrap .i64 (v90+1))) fun e=>ret (.pan e):=by
 subst hm
 have hmo:=ei t.kind
 intro r
 induction r with
 |nil=>
  intro p m acc h hm ha
  obtain ⟨m,rfl,hm'⟩:=ak hm
  simp only [lD,vE,aA h,ad,dV,aR,List.append_nil]
  rw [aO (by simp;omega)]
 |cons y r ih=>
  intro p m acc h hm ha
  obtain ⟨m,rfl,hm'⟩:=ak hm
  obtain ⟨e1,e2,e3,e4⟩:=az h (by omega)
  have hpl:p.length<x.kids.length:=by rw [h];simp
  have hy:=hQ y (by rw [h];simp)
  simp only [lD,vE,e1,ae,e2,Option.bind_some,aq,bo (n:=d+aE t.kind) (by omega) (by omega),hy,mP,dV,aM,aR]
  refine bJ (fun t' ht'=> ?_) fun e _=>rfl
  rw [aO (by simp;omega),e3,ih (p++[y]) m (acc++[t']) e4 hm' (by simp;omega)]
  simp
theorem abc (hk:Fu k) (ret:Pan Int Tm→Option S) {r2:List Cl} {b1:Int} {ks:List Tm} {more:Int} (hm:more=aE t.kind) (ht:OkT t) (hdb:aF db) (hd0:0≤d∧d<4611686018427387904)
  (hQ: ∀b∈t.sys,∀y∈b.kids,∀g,hd vb db y v (d+more) g=g (pE (bL vb db v (d+more) y))):
  ∀ (r p:List (Br Tm)) (m:Nat) (o:List (Br Tm)),t.sys=p++r→r.length<m→o.length=p.length→
  fg hd k ret vb db t b1 r2 ks v d m o more (p.length:Int)=eE (dZ vb db v d t.kind r) (fun l=>ret (.ok (.mk t.kind b1 t.name r2 ks (o++l)))) fun e=>ret (.pan e):=by
 obtain ⟨o1,o2,o3,o4,o5,o6,o7⟩:=ht.no
 intro r
 induction r with
 |nil=>
  intro p m o h hml ho
  obtain ⟨m,rfl,hm'⟩:=ak hml
  simp only [fg,rj,aA h,ad,dZ,aR,List.append_nil]
 |cons x r ih=>
  intro p m o h hml ho
  obtain ⟨m,rfl,hm'⟩:=ak hml
  obtain ⟨e1,e2,e3,e4⟩:=az h (by omega)
  have hx:x∈t.sys:=by rw [h];simp
  have hpl:p.length<t.sys.length:=by rw [h];simp
  have hb:=(ht.bi hx).1
  have hrow:=OG (S:=S) hk (a:=vb) hb.1 hb.2.1 (show aF d by unfold aF;omega) hdb
  have:=fun r12=>abd hk ret (fg hd k ret vb db t b1 r2 ks v d m) (r12:=r12) (r2:=r2) (b1:=b1) (v90:=(p.length:Int)) (ks:=ks) (o:=o) hm hd0 (hQ x hx) hb.2.2 (by omega) x.kids [] k [] rfl (by have:4294967296≤k:=hk;omega) rfl
  have this: ∀r12,lD hd k ret (fg hd k ret vb db t b1 r2 ks v d m) r12 vb db t b1 r2 ks o x more v d (p.length:Int) k [] 0=_:=this
  have hB:nk vb db v d t.kind x=bE (cM d db x.face) fun f'=>bE (dV vb db v d t.kind x.kids) fun ks'=> .ok (.mk f' ks'):=by cases x;rw [nk]
  simp only [fg,rj,e1,ae,e2,Option.bind_some,af hk,hrow,mP,this,dZ,hB,aM,aR,List.nil_append,e3]
  refine bJ (fun f' _=>bJ (fun ks' _=> ?_) fun e _=>rfl) fun e _=>rfl
  rw [ih (p++[x]) m (o++[Br.mk f' ks']) e4 hm' (by simp;omega)]
  simp
theorem abb (hk:Fu k) (ret:Pan Int Tm→Option S) {r2:List Cl} {b1:Int} (ht:OkT t) (hdb:aF db) (hd0:0≤d∧d<4611686018427387904) (hv0:0≤v∧v<4611686018427387904)
  (hQ: ∀y∈t.kids,∀a b,0≤a∧a≤1→0≤b∧b≤1→ ∀g,hd vb db y (v+a) (d+b) g=g (pE (bL vb db (v+a) (d+b) y))) (hQ': ∀b∈t.sys,∀y∈b.kids,∀g,hd vb db y v (d+aE t.kind) g=g (pE (bL vb db v (d+aE t.kind) y))):
  ∀ (r p:List Tm) (m:Nat) (acc:List Tm),t.kids=p++r→r.length<m→acc.length=p.length→
  j7 hd k ret vb db t b1 r2 v d m acc (p.length:Int)=eE (eG vb db v d t.kind p.length r) (fun l=>eE (dZ vb db v d t.kind t.sys) (fun s=>ret (.ok (.mk t.kind b1 t.name r2 (acc++l) s))) fun e=>ret (.pan e)) fun e=>ret (.pan e):=by
 obtain ⟨o1,o2,o3,o4,o5,o6,o7⟩:=ht.no
 intro r
 induction r with
 |nil=>
  intro p m acc h hm ha
  obtain ⟨m,rfl,hm'⟩:=ak hm
  have hs:fg hd k ret vb db t b1 r2 acc v d k [] (aE t.kind) 0=_:=abc hk ret rfl ht hdb hd0 hQ' t.sys [] k [] rfl (by have:4294967296≤k:=hk;omega) rfl
  simp only [j7,ri,aA h,ad,eG,aR,List.append_nil]
  rw [cx]
  have he:(if (t.kind==15)=true then fg hd k ret vb db t b1 r2 acc v d k [] 1 0 else fg hd k ret vb db t b1 r2 acc v d k [] 0 0)=fg hd k ret vb db t b1 r2 acc v d k [] (aE t.kind) 0:=by
   unfold aE
   by_cases h15:t.kind=15
   ·rw [if_pos h15,if_pos (by rw [h15];rfl)]
   ·rw [if_neg h15,if_neg (by rw [beq_iff_eq];exact h15)]
  rw [he,hs]
  simp only [List.nil_append]
 |cons y r ih=>
  intro p m acc h hm ha
  obtain ⟨m,rfl,hm'⟩:=ak hm
  obtain ⟨e1,e2,e3,e4⟩:=az h (by omega)
  have hpl:p.length<t.kids.length:=by rw [h];simp
  have b1':=wA t.kind p.length
  have b2':=gO t.kind p.length
  have hy:=hQ y (by rw [h];simp) (dP t.kind p.length) (bQ t.kind p.length) b1' b2'
  simp only [j7,ri,e1,ae,e2,Option.bind_some,af hk,qA,aq,bo (n:=v+dP t.kind p.length) (by omega) (by omega),bo (n:=d+bQ t.kind p.length) (by omega) (by omega),hy,mP,eG,aM,aR]
  refine bJ (fun t' ht'=> ?_) fun e _=>rfl
  rw [aO (by simp;omega),e3,ih (p++[y]) m (acc++[t']) e4 hm' (by simp;omega),show (p++[y]).length=p.length+1 by simp]
  simp
end
theorem Dd (vb db v d:Int) (t:Tm):bL vb db v d t=if t.kind=1∧t.n≥v∧t.n>1000000000-vb then .error 100 else bE (cM d db t.r) fun r'=>bE (eG vb db v d t.kind 0 t.kids) fun ks'=>bE (dZ vb db v d t.kind t.sys) fun sys'=> .ok (.mk t.kind (if t.kind=1∧t.n≥v then t.n+vb else t.n) t.name r' ks' sys'):=by cases t;rw [bL];rfl
theorem RowsT.no {t:Tm} (h:RowsT t):RF t.r∧(t.kind=1→t.r=[])∧0≤t.kind:=by cases t;rw [RowsT] at h;exact h.1
theorem RowsT.ki {t x:Tm} (h:RowsT t) (hx:x∈t.kids):RowsT x:=by cases t;rw [RowsT] at h;exact rowsK_iff.1 h.2.1 x hx
theorem RowsT.bi {t:Tm} {b:Br Tm} (h:RowsT t) (hb:b∈t.sys):RF b.face∧ ∀x∈b.kids,RowsT x:=by cases t;rw [RowsT] at h;exact rowsS_iff.1 h.2.2 b hb
def VP (v d:Int) (n:Nat):Prop:=0≤v∧v+n<4611686018427387904∧0≤d∧d+n<4611686018427387904
theorem E7 {vb db:Int} (hvb:0≤vb∧vb≤1000000000) (hdb:aF db) (t:Tm):OkT t→RowsT t→ ∀ {k:Nat} {v d:Int} (ret:Pan Int Tm→Option S),Fd k (ar t)→VP v d (ar t)→dE k vb db t v d ret=ret (pE (bL vb db v d t)):=by
 induction t using d4 with
 |h t ih1 ih2=>
  intro ht hro k v d ret hk hv
  obtain ⟨q,rfl,hq,hf⟩:=hk.pos' (cS t)
  obtain ⟨q',hq'⟩: ∃q',q=q'+1:=⟨q-1,by have:4294967296≤q:=hq;omega⟩
  have hp:=cS t
  unfold VP at hv
  obtain ⟨o1,o2,o3,o4,o5,o6,o7⟩:=ht.no
  have hmo:=ei t.kind
  have hQ: ∀y∈t.kids,∀a b,0≤a∧a≤1→0≤b∧b≤1→ ∀g:Pan Int Tm→Option S,dE q vb db y (v+a) (d+b) g=g (pE (bL vb db (v+a) (d+b) y)):=fun y hy a b h1 h2 g=>
   ih1 y hy (ht.ki hy) (hro.ki hy) g (hf _ (cR hy)) (by have:=cR hy;unfold VP;omega)
  have hQ': ∀b∈t.sys,∀y∈b.kids,∀g:Pan Int Tm→Option S,dE q vb db y v (d+aE t.kind) g=g (pE (bL vb db v (d+aE t.kind) y)):=fun b hb y hy g=>
   ih2 b hb y hy ((ht.bi hb).2 y hy) ((hro.bi hb).2 y hy) g (hf _ (cQ hb hy)) (by have:=cQ hb hy;unfold VP;omega)
  have h1:=fun r2 b1=>abb (r2:=r2) (b1:=b1) hq ret ht hdb (show 0≤d∧d<4611686018427387904 by omega) (show 0≤v∧v<4611686018427387904 by omega) hQ hQ' t.kids [] q [] rfl (by have:4294967296≤q:=hq;omega) rfl
  have h0: ∀r2 b1,tA (dE q) q ret vb db t r2 v d q b1=j7 (dE q) q ret vb db t b1 r2 v d q [] 0:=by
   intro r2 b1
   have: ∀j,j=q'+1→tA (dE q) q ret vb db t r2 v d j b1=j7 (dE q) q ret vb db t b1 r2 v d q [] 0:=by rintro j rfl;rfl
   exact this q hq'
  have h2: ∀r2 b1,tA (dE q) q ret vb db t r2 v d q b1=_:=fun r2 b1=>(h0 r2 b1).trans (h1 r2 b1)
  have hrow:=OG (S:=S) hq (a:=vb) o4 o5 (show aF d by unfold aF;omega) hdb
  simp only [dE,F7,af hq,hrow,mP,h2,List.length_nil,List.nil_append]
  rw [ad9 _ ret,Dd]
  unfold aF at o2
  by_cases hc:t.kind=1
  ·have hr:=hro.no.2.1 hc
   rw [hr,zF,aR,hc,show ((1:Int)==1)=true from rfl,ae,aS]
   by_cases hn:t.n≥v
   ·rw [if_pos hn,bo (n:=1000000000-vb) (by omega) (by omega),aS]
    by_cases hb:t.n>1000000000-vb
    ·rw [if_pos hb,if_pos (show (1:Int)=1∧t.n≥v∧t.n>1000000000-vb from ⟨rfl,hn,hb⟩)];rfl
    ·rw [if_neg hb,if_neg (show ¬ ((1:Int)=1∧t.n≥v∧t.n>1000000000-vb) from fun h=>hb h.2.2),ao,aM]
     rw [if_pos (show (1:Int)=1∧t.n≥v from ⟨rfl,hn⟩),bo (n:=t.n+vb) (by omega) (by omega)]
     simp only [aM,aR]
   ·rw [if_neg hn,if_neg (show ¬ ((1:Int)=1∧t.n≥v∧t.n>1000000000-vb) from fun h=>hn h.2.1),ao,aM]
    rw [if_neg (show ¬ ((1:Int)=1∧t.n≥v) from fun h=>hn h.2)]
    simp only [aM,aR]
  ·have hc':(t.kind==1)=false:=by rw [beq_eq_false_iff_ne];exact hc
   rw [hc',if_neg (show ¬ (t.kind=1∧t.n≥v∧t.n>1000000000-vb) from fun h=>hc h.1)]
   simp only [ad,aM,aR,if_neg (show ¬ (t.kind=1∧t.n≥v) from fun h=>hc h.1)]
theorem jt {e:Int} (he:0<e∧e≤1000) (ret:Int×Int×ByteArray→Option S):d_ k e ret=ret (-e,0,ByteArray.empty):=by
 simp only [d_,Qx,bo (n:=0-e) (by omega) (by omega)]
 rw [Int.zero_sub]
theorem g6 {e:Int} (he:0<e):decide ((bp e).kind<0)=true:=decide_eq_true (show-e<0 by omega)
section
variable {hd:Tm→Int→Int→Int→Int→(Tm→Option S)→Option S} {vb db v d:Int} {t:Tm}
theorem uo {x:Except Int Tm} (hx: ∀e,x= .error e→0<e) (hx': ∀y,x= .ok y→0≤y.kind) (f:Tm→Option S) (ret:Tm→Option S):
  (fun r:Tm=>ab (decide (r.kind<0)) (ret r) (f r)) (rE x)=eE x f fun e=>ret (bp e):=by
 cases x with
 |error e=>show ab _ _ _=_;rw [show rE (.error e)=bp e from rfl,g6 (hx e rfl),ae];rfl
 |ok y=>show ab _ _ _=_;rw [show rE (.ok y)=y from rfl,decide_eq_false (by have:=hx' y rfl;omega),ad];rfl
theorem np {vb db v d:Int} {x y:Tm} (h:bL vb db v d x= .ok y):y.kind=x.kind:=by
 rw [Dd] at h
 split at h
 ·cases h
 ·obtain ⟨_,_,h⟩:=aK h
  obtain ⟨_,_,h⟩:=aK h
  obtain ⟨_,_,h⟩:=aK h
  injection h with h;subst h;rfl
theorem abO (hk:Fu k) (ret:Tm→Option S) (rec2:List (Br Tm)→Int→Option S) {r9 r2:List Cl×Int} {b1 i18:Int} {ks:List Tm} {o:List (Br Tm)} {x:Br Tm} (hi:al t.sys i18=some x)
  (hd0:0≤d∧d<4611686018427387904) (hQ: ∀y∈x.kids,∀g,hd y v vb (d+aE t.kind) db g=g (rE (bL vb db v (d+aE t.kind) y))) (hkd: ∀y∈x.kids,0≤y.kind) (hl:x.kids.length<1073741824) (ho:o.length<1073741824):
  ∀ (r p:List Tm) (m:Nat) (acc:List Tm),x.kids=p++r→r.length<m→acc.length=p.length→
  jh hd k ret rec2 t b1 r2 ks o r9 v i18 vb d db m acc (p.length:Int)=eE (dV vb db v d t.kind r) (fun l=>rec2 (o++[⟨r9.1,acc++l⟩]) (IntKind.wrap .i64 (i18+1))) fun e=>ret (bp e):=by
 have hmo:=ei t.kind
 intro r
 induction r with
 |nil=>
  intro p m acc h hm ha
  obtain ⟨m,rfl,hm'⟩:=ak hm
  simp only [jh,wi,hi,Option.bind_some,aA h,ad,dV,aR,List.append_nil]
  rw [aO (by simp;omega)]
 |cons y r ih=>
  intro p m acc h hm ha
  obtain ⟨m,rfl,hm'⟩:=ak hm
  obtain ⟨e1,e2,e3,e4⟩:=az h (by omega)
  have hpl:p.length<x.kids.length:=by rw [h];simp
  have hym:y∈x.kids:=by rw [h];simp
  have hy:=hQ y hym
  simp only [jh,wi,hi,e1,ae,e2,Option.bind_some,af hk,Fc,aq,bo (n:=d+aE t.kind) (by omega) (by omega),hy]
  refine Eq.trans (uo (fun e he=>(kg y he).1) (fun z hz=>by rw [np hz];exact hkd y hym) (fun z=>Option.bind (ay 1099511627776 acc.length [z].length) fun _=>jh hd k ret rec2 t b1 r2 ks o r9 v i18 vb d db m (acc++[z]) (IntKind.wrap .i64 ((p.length:Int)+1))) ret) ?_
  simp only [dV,aM,aR]
  refine bJ (fun t' ht'=> ?_) fun e _=>rfl
  rw [aO (by simp;omega),e3,ih (p++[y]) m (acc++[t']) e4 hm' (by simp;omega)]
  simp
theorem uX {z:List Cl×Int} {α:Type} (f:List Cl→α) (g:Int→α):ab (!(z.2==0)) (g z.2) (f z.1)=eE (cz z) f g:=by
 rw [aY]
 unfold cz
 by_cases h:z.2=0
 ·rw [decide_eq_true h,if_pos h];rfl
 ·rw [decide_eq_false h,if_neg h];rfl
theorem abN (hk:Fu k) (ret:Tm→Option S) {r2:List Cl×Int} {b1:Int} {ks:List Tm} (ht:OkT t) (hro:RowsT t) (hdb:0≤db∧db<9223372036854775808) (hd0:0≤d∧d<4611686018427387904)
  (hQ: ∀b∈t.sys,∀y∈b.kids,∀g,hd y v vb (d+aE t.kind) db g=g (rE (bL vb db v (d+aE t.kind) y))):
  ∀ (r p:List (Br Tm)) (m:Nat) (o:List (Br Tm)),t.sys=p++r→r.length<m→o.length=p.length→
  eX hd k ret t b1 r2 ks v vb d db m o (p.length:Int)=eE (dZ vb db v d t.kind r) (fun l=>ret (.mk t.kind b1 t.name r2.1 ks (o++l))) fun e=>ret (bp e):=by
 obtain ⟨o1,o2,o3,o4,o5,o6,o7⟩:=ht.no
 intro r
 induction r with
 |nil=>
  intro p m o h hml ho
  obtain ⟨m,rfl,hm'⟩:=ak hml
  simp only [eX,rN,aA h,ad,dZ,aR,List.append_nil]
 |cons x r ih=>
  intro p m o h hml ho
  obtain ⟨m,rfl,hm'⟩:=ak hml
  obtain ⟨e1,e2,e3,e4⟩:=az h (by omega)
  have hx:x∈t.sys:=by rw [h];simp
  have hpl:p.length<t.sys.length:=by rw [h];simp
  have hb:=(ht.bi hx).1
  obtain ⟨z,hz,hrow⟩:=OI (S:=S) hk (hro.bi hx).1 (show 0≤d∧d<9223372036854775808 by omega) hdb (fun r9=>ab (!(r9.2==0)) (d_ k r9.2 fun r10=>ret (Tm.mk r10.1 r10.2.1 r10.2.2 [] [] []))
   (jh hd k ret (eX hd k ret t b1 r2 ks v vb d db m) t b1 r2 ks o r9 v (p.length:Int) vb d db k [] 0))
  have:=abO (r9:=z) (r2:=r2) (b1:=b1) (ks:=ks) (o:=o) hk ret (eX hd k ret t b1 r2 ks v vb d db m) e2 hd0 (hQ x hx) (fun y hy=>((hro.bi hx).2 y hy).no.2.2) hb.2.2 (by omega) x.kids [] k [] rfl (by have:4294967296≤k:=hk;omega) rfl
  have this:jh hd k ret (eX hd k ret t b1 r2 ks v vb d db m) t b1 r2 ks o z v (p.length:Int) vb d db k [] 0=_:=this
  have hB:nk vb db v d t.kind x=bE (cM d db x.face) fun f'=>bE (dV vb db v d t.kind x.kids) fun ks'=> .ok (.mk f' ks'):=by cases x;rw [nk]
  simp only [eX,rN,e1,ae,e2,Option.bind_some,af hk,hrow,this,dZ,hB,aM,aR,List.nil_append,e3]
  have hbad:ab (!(z.2==0)) (d_ k z.2 fun r10=>ret (Tm.mk r10.1 r10.2.1 r10.2.2 [] [] [])) (eE (dV vb db v d t.kind x.kids) (fun l=>eX hd k ret t b1 r2 ks v vb d db m (o++[Br.mk z.1 l]) (((p++[x]).length:Nat):Int)) fun e=>ret (bp e))
    =ab (!(z.2==0)) (ret (bp z.2)) (eE (dV vb db v d t.kind x.kids) (fun l=>eX hd k ret t b1 r2 ks v vb d db m (o++[Br.mk z.1 l]) (((p++[x]).length:Nat):Int)) fun e=>ret (bp e)):=by
   by_cases h0:z.2=0
   ·rw [h0];rfl
   ·have hze:cz z= .error z.2:=d5 h0
    rw [hz] at hze
    rw [jt (zE hze)];rfl
  rw [hbad,uX (z:=z) (fun f'=>eE (dV vb db v d t.kind x.kids) (fun l=>eX hd k ret t b1 r2 ks v vb d db m (o++[Br.mk f' l]) (((p++[x]).length:Nat):Int)) fun e=>ret (bp e)) (fun e=>ret (bp e)),hz]
  refine bJ (fun f' _=>bJ (fun ks' _=> ?_) fun e _=>rfl) fun e _=>rfl
  rw [ih (p++[x]) m (o++[Br.mk f' ks']) e4 hm' (by simp;omega)]
  simp
theorem abM (hk:Fu k) (ret:Tm→Option S) {r2:List Cl×Int} {b1:Int} (ht:OkT t) (hro:RowsT t) (hdb:0≤db∧db<9223372036854775808) (hd0:0≤d∧d<4611686018427387904) (hv0:0≤v∧v<4611686018427387904)
  (hQ: ∀y∈t.kids,∀a b,0≤a∧a≤1→0≤b∧b≤1→ ∀g,hd y (v+a) vb (d+b) db g=g (rE (bL vb db (v+a) (d+b) y))) (hQ': ∀b∈t.sys,∀y∈b.kids,∀g,hd y v vb (d+aE t.kind) db g=g (rE (bL vb db v (d+aE t.kind) y))):
  ∀ (r p:List Tm) (m:Nat) (acc:List Tm),t.kids=p++r→r.length<m→acc.length=p.length→
  hJ hd k ret t b1 r2 v vb d db m acc (p.length:Int)=eE (eG vb db v d t.kind p.length r) (fun l=>eE (dZ vb db v d t.kind t.sys) (fun s=>ret (.mk t.kind b1 t.name r2.1 (acc++l) s)) fun e=>ret (bp e)) fun e=>ret (bp e):=by
 obtain ⟨o1,o2,o3,o4,o5,o6,o7⟩:=ht.no
 intro r
 induction r with
 |nil=>
  intro p m acc h hm ha
  obtain ⟨m,rfl,hm'⟩:=ak hm
  have hs:eX hd k ret t b1 r2 acc v vb d db k [] 0=_:=abN hk ret ht hro hdb hd0 hQ' t.sys [] k [] rfl (by have:4294967296≤k:=hk;omega) rfl
  simp only [hJ,rM,aA h,ad,eG,aR,List.append_nil,hs,List.nil_append]
 |cons y r ih=>
  intro p m acc h hm ha
  obtain ⟨m,rfl,hm'⟩:=ak hm
  obtain ⟨e1,e2,e3,e4⟩:=az h (by omega)
  have hpl:p.length<t.kids.length:=by rw [h];simp
  have b1':=wA t.kind p.length
  have b2':=gO t.kind p.length
  have hym:y∈t.kids:=by rw [h];simp
  have hy:=hQ y hym (dP t.kind p.length) (bQ t.kind p.length) b1' b2'
  simp only [hJ,rM,e1,ae,e2,Option.bind_some,af hk,E8 hk,aq,bo (n:=v+dP t.kind p.length) (by omega) (by omega),bo (n:=d+bQ t.kind p.length) (by omega) (by omega),hy]
  refine Eq.trans (uo (fun e he=>(kg y he).1) (fun z hz=>by rw [np hz];exact (hro.ki hym).no.2.2) (fun z=>Option.bind (ay 1099511627776 acc.length [z].length) fun _=>hJ hd k ret t b1 r2 v vb d db m (acc++[z]) (IntKind.wrap .i64 ((p.length:Int)+1))) ret) ?_
  simp only [eG,aM,aR]
  refine bJ (fun t' ht'=> ?_) fun e _=>rfl
  rw [aO (by simp;omega),e3,ih (p++[y]) m (acc++[t']) e4 hm' (by simp;omega),show (p++[y]).length=p.length+1 by simp]
  simp
end
theorem Ff {vb db:Int} (hvb:0≤vb∧vb≤1000000000) (hdb:0≤db∧db<9223372036854775808) (t:Tm):OkT t→RowsT t→ ∀ {k:Nat} {v d:Int} (ret:Tm→Option S),Fd k (ar t)→VP v d (ar t)→dh k t v vb d db ret=ret (rE (bL vb db v d t)):=by
 induction t using d4 with
 |h t ih1 ih2=>
  intro ht hro k v d ret hk hv
  obtain ⟨q,rfl,hq,hf⟩:=hk.pos' (cS t)
  obtain ⟨q',hq'⟩: ∃q',q=q'+1:=⟨q-1,by have:4294967296≤q:=hq;omega⟩
  have hp:=cS t
  unfold VP at hv
  obtain ⟨o1,o2,o3,o4,o5,o6,o7⟩:=ht.no
  have hmo:=ei t.kind
  have hQ: ∀y∈t.kids,∀a b,0≤a∧a≤1→0≤b∧b≤1→ ∀g:Tm→Option S,dh q y (v+a) vb (d+b) db g=g (rE (bL vb db (v+a) (d+b) y)):=fun y hy a b h1 h2 g=>
   ih1 y hy (ht.ki hy) (hro.ki hy) g (hf _ (cR hy)) (by have:=cR hy;unfold VP;omega)
  have hQ': ∀b∈t.sys,∀y∈b.kids,∀g:Tm→Option S,dh q y v vb (d+aE t.kind) db g=g (rE (bL vb db v (d+aE t.kind) y)):=fun b hb y hy g=>
   ih2 b hb y hy ((ht.bi hb).2 y hy) ((hro.bi hb).2 y hy) g (hf _ (cQ hb hy)) (by have:=cQ hb hy;unfold VP;omega)
  have h1:=fun r2 b1=>abM (r2:=r2) (b1:=b1) hq ret ht hro hdb (show 0≤d∧d<4611686018427387904 by omega) (show 0≤v∧v<4611686018427387904 by omega) hQ hQ' t.kids [] q [] rfl (by have:4294967296≤q:=hq;omega) rfl
  have h1: ∀r2 b1,hJ (dh q) q ret t b1 r2 v vb d db q [] 0=_:=h1
  have h0: ∀b1,yB (dh q) q ret t v vb d db q b1=eE (cM d db t.r) (fun r'=>eE (eG vb db v d t.kind 0 t.kids) (fun l=>eE (dZ vb db v d t.kind t.sys) (fun s=>ret (.mk t.kind b1 t.name r' l s)) fun e=>ret (bp e)) fun e=>ret (bp e)) fun e=>ret (bp e):=by
   intro b1
   have: ∀j,j=q'+1→yB (dh q) q ret t v vb d db j b1=rL (dh q) q ret t v vb d db (fun b11_1 r2 b11_4 i14=>hJ (dh q) q ret t b11_1 r2 v vb d db q b11_4 i14) b1:=by rintro j rfl;rfl
   rw [this q hq']
   obtain ⟨z,hz,hrow⟩:=OI (S:=S) hq hro.no.1 (show 0≤d∧d<9223372036854775808 by omega) hdb (fun r2=>ab (!(r2.2==0)) (d_ q r2.2 fun r3=>ret (Tm.mk r3.1 r3.2.1 r3.2.2 [] [] [])) (hJ (dh q) q ret t b1 r2 v vb d db q [] 0))
   simp only [rL,af hq,hrow]
   rw [h1]
   simp only [List.nil_append]
   rw [←hz]
   by_cases hz0:z.2=0
   ·rw [e_ hz0,hz0];rfl
   ·have hze:cz z= .error z.2:=d5 hz0
    have hze':=hze
    rw [hz] at hze'
    rw [hze,aY,decide_eq_false hz0,Bool.not_false,ae,jt (zE hze')];rfl
  simp only [dh,GD,af hq,h0]
  rw [ku _ ret,Dd]
  unfold aF at o2
  by_cases hc:t.kind=1
  ·rw [hc,show ((1:Int)==1)=true from rfl,ae,aS]
   by_cases hn:t.n≥v
   ·rw [if_pos hn,bo (n:=1000000000-vb) (by omega) (by omega),aS]
    by_cases hb:t.n>1000000000-vb
    ·rw [if_pos hb,if_pos (show (1:Int)=1∧t.n≥v∧t.n>1000000000-vb from ⟨rfl,hn,hb⟩),jt (by omega)];rfl
    ·rw [if_neg hb,if_neg (show ¬ ((1:Int)=1∧t.n≥v∧t.n>1000000000-vb) from fun h=>hb h.2.2)]
     rw [if_pos (show (1:Int)=1∧t.n≥v from ⟨rfl,hn⟩),bo (n:=t.n+vb) (by omega) (by omega)]
     simp only [aM,aR]
   ·rw [if_neg hn,if_neg (show ¬ ((1:Int)=1∧t.n≥v∧t.n>1000000000-vb) from fun h=>hn h.2.1)]
    rw [if_neg (show ¬ ((1:Int)=1∧t.n≥v) from fun h=>hn h.2)]
    simp only [aM,aR]
  ·have hc':(t.kind==1)=false:=by rw [beq_eq_false_iff_ne];exact hc
   rw [hc',if_neg (show ¬ (t.kind=1∧t.n≥v∧t.n>1000000000-vb) from fun h=>hc h.1)]
   simp only [ad,aM,aR,if_neg (show ¬ (t.kind=1∧t.n≥v) from fun h=>hc h.1)]
end Go.Proofs.YtapmagaejigpnaaGreatDoor
namespace Go.Proofs.YtapmagaejigpnaaGreatDoor
open Go PI
set_option linter.unusedVariables false
set_option linter.unusedSimpArgs false
set_option maxRecDepth 20000
variable {S:Type} {k:Nat}
theorem jX {t:Tm} (h:cG t=0):ar t≤200∧ax t≤20000∧bz false (-1) 24 t=true:=by
 unfold cG at h
 split at h
 ·cases h
 ·split at h
  ·cases h
  ·split at h
   ·next h1 h2 h3=>exact ⟨by omega,by omega,h3⟩
   ·cases h
theorem CD {t:Tm} (h1:ar t≤200) (h2:ax t≤20000) (h3:bz false (-1) 24 t=true):cG t=0:=by
 unfold cG
 rw [if_neg (by omega),if_neg (by omega),if_pos h3]
theorem IF (t:Tm):0≤cG t∧cG t≤1000:=by
 unfold cG
 split
 ·omega
 ·split
  ·omega
  ·split<;>omega
def Fm (t:Tm):Prop:=OkT t∧cG t=0
theorem Fm.ok {t:Tm} (h:Fm t):OkT t:=h.1
theorem Fm.rows {t:Tm} (h:Fm t):RowsT t:=Wm t h.1 (jX h.2).2.2
theorem Fm.dep {t:Tm} (h:Fm t):ar t≤200:=(jX h.2).1
theorem Fm.siz {t:Tm} (h:Fm t):ax t≤20000:=(jX h.2).2.1
theorem nn {vb db v d:Int} (hvb:0≤vb∧vb≤1000000000) {t t':Tm} (h:Fm t) (hl:bL vb db v d t= .ok t'):Fm t':=by
 obtain ⟨h1,h2,h3,h4⟩:=De hvb.1 hvb.2 t v d t' hl
 obtain ⟨a,b,c⟩:=jX h.2
 have:=h4 h.1
 exact ⟨this.1,CD (by omega) (by omega) (this.2.2 24 24 (by omega) (by omega) c)⟩
abbrev F3 (k:Nat):Prop:=4294968296≤k
theorem F3.fu (h:F3 k):Fu k:=by have:4294968296≤k:=h;show 4294967296≤k;omega
theorem F3.fd (h:F3 k) {n:Nat} (hn:n≤1000):Fd k n:=by have:4294968296≤k:=h;show 4294967296+n≤k;omega
theorem Fm.fd {t:Tm} (h:Fm t) (hk:F3 k):Fd k (ar t):=hk.fd (by have:=h.dep;omega)
theorem Fm.vp {t:Tm} (h:Fm t) {v d:Int} (hv:0≤v∧v≤4611686018427380000) (hd:0≤d∧d≤4611686018427380000):VP v d (ar t):=by have:=h.dep;unfold VP;omega
theorem fU (x:Except Int Tm) (ret:Tm×Int→Option S):ret (tE x)=eE x (fun t=>ret (t,0)) fun e=>ret (aN,e):=by cases x<;>rfl
theorem aa6 (hk:Fu k) (ret:Tm×Int→Option S) {c0 c2:Int} {c1:Tm} {ns:List Int} (hl:ns.length<1000) (hn: ∀x∈ns,0≤x):
  ∀ (r p:List Int) (m:Nat),ns=p++r→r.length<m→mZ k ret c0 c1 c2 ns m (p.length:Int)=xj k c0 c1 c2 fun r4=>Pan.elim r4 (fun r4=>ret (r4,0)) fun e5=>ret (aN,e5):=by
 intro r
 induction r with
 |nil=>
  intro p m h hm
  obtain ⟨m,rfl,hm'⟩:=ak hm
  simp only [mZ,vC,aA h,ad,af hk,aq];rfl
 |cons x r ih=>
  intro p m h hm
  obtain ⟨m,rfl,hm'⟩:=ak hm
  obtain ⟨e1,e2,e3,e4⟩:=az h (by omega)
  have hx:=hn x (by rw [h];simp)
  simp only [mZ,vC,e1,ae,e2,Option.bind_some,e3,ih (p++[x]) m e4 hm',aS]
  rw [if_neg (by omega)]
theorem aeX (hk:F3 k) {t:Tm} (ht:Fm t) {f b:Int} (hf:0≤f∧f≤24) (hb:0≤b∧b<9223372036854775808) (ret:Tm×Int→Option S):xh k t f b ret=ret (tE (bL 0 b 0 f t)):=by
 have hl:=aa6 hk.fu ret (c0:=b) (c2:=f) (c1:=t) (ns:=[f,b]) (by simp) (by simp;omega) [f,b] [] k rfl (by have:4294968296≤k:=hk;simp;omega)
 have hl:mZ k ret b t f [f,b] k 0=_:=hl
 simp only [xh,P5,af hk.fu,aq,BX,F5,uD ht.ok (ht.fd hk) (show ar t<1099511627776 by have:=ht.dep;omega),ht.2,hl,xj,P6]
 rw [show ((0:Int)==0)=true from rfl,Bool.not_true,ad,if_neg (by omega),E7 (by omega) (by unfold aF;omega) t ht.ok ht.rows _ (ht.fd hk) (ht.vp (by omega) (by omega)),mP,fU _ ret]
 exact bJ (fun _ _=>rfl) fun _ _=>rfl
theorem ae6 (hk:F3 k) {t:Tm} (ht:Fm t) {f b:Int} (hf:0≤f∧f≤24) (hb:0≤b∧b<9223372036854775808) (ret:Tm×Int→Option S):xz k t f b ret=ret (tE (bL 0 b 0 f t)):=by
 simp only [xz,Qy,af hk.fu,aq,BZ,QD,Fb ht.ok (ht.fd hk) (show ax t<1099511627776 by have:=ht.siz;omega),ht.2,aS]
 rw [show ((0:Int)==0)=true from rfl,ae,if_neg (by omega),if_neg (by omega)]
 rw [Bool.not_true,ad,if_neg (by omega),Ff (by omega) (by omega) t ht.ok ht.rows _ (ht.fd hk) (ht.vp (by omega) (by omega))]
 simp only [xA,Qz]
 cases hx:bL 0 b 0 f t with
 |ok y=>
  rw [show rE (.ok y)=y from rfl,decide_eq_false (by have:=np hx;have:=ht.rows.no.2.2;omega),ad]
  simp only [aq];rfl
 |error e=>
  have he:=kg t hx
  rw [show rE (.error e)=bp e from rfl,g6 he.1,ae,bo (show-9223372036854775808≤0-(bp e).kind by show _≤0-(-e);omega) (by show 0-(-e)<_;omega)]
  show ret (aN,0-(-e))=ret (aN,e)
  rw [show (0:Int)-(-e)=e by omega]
def aD (vb db:Int) (t:Tm):Except Int Tm:=bE (bL vb 0 0 0 t) (bL 0 db 0 0)
theorem qJ {vb db:Int} (hvb:0≤vb∧vb≤1000000000) {t t':Tm} (h:Fm t) (hl:aD vb db t= .ok t'):Fm t':=by
 obtain ⟨a,h1,h2⟩:=aK hl
 exact nn (by omega) (nn hvb h h1) h2
theorem b_ {vb db:Int} {t:Tm} {e:Int} (h:aD vb db t= .error e):0<e∧e≤1000:=by
 rcases a_ h with h|⟨a,_,h⟩
 ·exact kg t h
 ·exact kg a h
theorem aa7 (hk:Fu k) (ret:Tm×Int→Option S) {c0 c1:Int} {c2:Tm} {ns:List Int} (hl:ns.length<1000) (hn: ∀x∈ns,0≤x):
  ∀ (r p:List Int) (m:Nat),ns=p++r→r.length<m→m0 k ret c0 c1 c2 ns m (p.length:Int)=xg k c0 c1 c2 fun r4=>Pan.elim r4 (fun r4=>ret (r4,0)) fun e5=>ret (aN,e5):=by
 intro r
 induction r with
 |nil=>
  intro p m h hm
  obtain ⟨m,rfl,hm'⟩:=ak hm
  simp only [m0,vD,aA h,ad,af hk,aq];rfl
 |cons x r ih=>
  intro p m h hm
  obtain ⟨m,rfl,hm'⟩:=ak hm
  obtain ⟨e1,e2,e3,e4⟩:=az h (by omega)
  have hx:=hn x (by rw [h];simp)
  simp only [m0,vD,e1,ae,e2,Option.bind_some,e3,ih (p++[x]) m e4 hm',aS]
  rw [if_neg (by omega)]
theorem aeW (hk:F3 k) {t:Tm} (ht:Fm t) {vb db:Int} (hvb:0≤vb∧vb≤1000000) (hdb:0≤db∧db<9223372036854775808) (ret:Tm×Int→Option S):xe k t vb db ret=ret (tE (aD vb db t)):=by
 have hl:=aa7 hk.fu ret (c0:=db) (c1:=vb) (c2:=t) (ns:=[vb,db,1000000-vb]) (by simp) (by simp;omega) [vb,db,1000000-vb] [] k rfl (by have:4294968296≤k:=hk;simp;omega)
 have hl:m0 k ret db vb t [vb,db,1000000-vb] k 0=_:=hl
 simp only [xe,P3,af hk.fu,aq,bo (n:=1000000-vb) (by omega) (by omega),BY,F6,uD ht.ok (ht.fd hk) (show ar t<1099511627776 by have:=ht.dep;omega),ht.2,hl,xg,P4]
 rw [show ((0:Int)==0)=true from rfl,Bool.not_true,ad,E7 (show 0≤vb∧vb≤1000000000 by omega) (show aF 0 by unfold aF;omega) t ht.ok ht.rows _ (ht.fd hk) (ht.vp (by omega) (by omega)),mP,fU _ ret]
 unfold aD
 rw [aM]
 refine bJ (fun y hy=> ?_) fun _ _=>rfl
 have hy':=nn (show 0≤vb∧vb≤1000000000 by omega) ht hy
 rw [E7 (show (0:Int)≤0∧(0:Int)≤1000000000 by omega) (show aF db by unfold aF;omega) y hy'.ok hy'.rows _ (hy'.fd hk) (hy'.vp (by omega) (by omega)),mP]
 exact bJ (fun _ _=>rfl) fun _ _=>rfl
theorem iw (hk:F3 k) {t:Tm} (ht:Fm t) {vb db:Int} (hvb:0≤vb∧vb≤1000000000) (hdb:0≤db∧db<9223372036854775808) (ret:Tm→Option S):dl k t vb db ret=ret (rE (aD vb db t)):=by
 have hkd:=ht.rows.no.2.2
 simp only [dl,GC,aq]
 rw [decide_eq_false (by omega),ad,Ff hvb (by omega) t ht.ok ht.rows _ (ht.fd hk) (ht.vp (by omega) (by omega))]
 refine Eq.trans (uo (x:=bL vb 0 0 0 t) (fun e he=>(kg t he).1) (fun z hz=>by rw [np hz];exact hkd) (fun r1=>dh k r1 0 0 0 db fun r2=>ret r2) ret) ?_
 rw [ku (aD vb db t) ret]
 unfold aD
 rw [aM]
 refine bJ (fun y hy=> ?_) fun _ _=>rfl
 have hy':=nn hvb ht hy
 rw [Ff (by omega) hdb y hy'.ok hy'.rows _ (hy'.fd hk) (hy'.vp (by omega) (by omega)),ku _ ret]
end Go.Proofs.YtapmagaejigpnaaGreatDoor
namespace Go.Proofs.YtapmagaejigpnaaGreatDoor
open Go PI
set_option linter.unusedVariables false
set_option linter.unusedSimpArgs false
set_option maxRecDepth 20000
variable {S:Type} {k:Nat}
def a8 (i:Int) (r:List Cl) (fa:Bool):dO:=fun d f=>if bN (gW f) (i+d) then bE (cz (a7 r 0 d)) fun s=>cz (if fa then il f (i+d) s else io f (i+d) s) else .ok f
theorem B_ (f:List Cl):U32 (gW f):=by
 have:=Ca f
 exact ⟨Int.natCast_nonneg _,by show ((eT f:Nat):Int)<_;omega⟩
theorem adx {f r:List Cl} {i:Int} (hr:am r) (h:(io f i r).2=0):RF (io f i r).1:=by
 unfold io at h ⊢
 split
 ·next hc=>
  rw [if_pos hc] at h
  simp only [Bool.and_eq_true] at hc
  exact ID (fun h c hh h0=>Lr ((fV hr).1 hc.1.2) h c hh h0) uA h
 ·next hc=>rw [if_neg hc] at h;exact absurd h (by decide)
theorem DC (f g:List Cl):EN (dj f g).2:=pR _
theorem yu (f g:List Cl):EN (b8 f g).2:=pR _
theorem acv (f g:List Cl):EN (eH f g).2:=pR _
theorem Lg (f:List Cl):EN (cY f).2:=yk fun h c=>DC _ _
theorem ado (i:Int) (r:List Cl) (c:Cl):EN (d3 i r c).2:=by
 unfold d3
 split
 ·exact DC _ _
 ·exact mQ
theorem adq (i:Int) (r:List Cl) (c:Cl) (g:List Cl):EN (eZ i r c g).2:=by
 unfold eZ
 split
 ·split
  ·exact DC _ _
  ·exact Lg _
 ·exact mQ
theorem adn (i:Int) (r h:List Cl) (c:Cl):EN (dL i r h c).2:=by
 unfold dL
 split
 ·split
  ·exact yu _ _
  ·exact adq _ _ _ _
 ·exact ado _ _ _
theorem adw (f:List Cl) (i:Int) (r:List Cl):EN (io f i r).2:=by
 unfold io
 split
 ·exact yk fun h c=>adn i r h c
 ·exact jU
theorem acJ (f:List Cl):EN (eI f).2:=by
 unfold eI
 split
 ·exact pR _
 ·exact jU
theorem acK (f:List Cl):EN (fR f).2:=by
 unfold fR
 split
 ·split
  ·exact pR _
  ·exact Lg _
 ·exact jU
theorem Ls {i:Int} {c:Cl} {h:List Cl} {q:List Cl×Int} (hq:EN q.2):EN (ep i c h q).2:=by
 unfold ep
 split
 ·split
  ·exact yu _ _
  ·exact acv _ _
 ·exact hq
theorem adt (f:List Cl) (i:Int) (r:List Cl):EN (il f i r).2:=by
 unfold il
 split
 ·refine yk fun h c=> ?_
  unfold cv
  split
  ·exact Ls (acJ _)
  ·split
   ·exact Ls (acK _)
   ·exact yu _ _
 ·exact jU
theorem qx {i:Int} {r:List Cl} {fa:Bool} {d:Int} {f g:List Cl} (hf:RF f) (h:a8 i r fa d f= .ok g):RF g:=by
 unfold a8 at h
 split at h
 ·obtain ⟨s,h1,h⟩:=aK h
  obtain ⟨h0,rfl⟩:=me h1
  have hs:=gx h0
  obtain ⟨h2,rfl⟩:=me h
  cases fa with
  |true=>exact (adu hf.2 hs.2 h2).1
  |false=>exact adx hs.2 h2
 ·injection h with h;subst h;exact hf
theorem zG {i:Int} {r:List Cl} {fa:Bool} {d:Int} {f:List Cl} {e:Int} (h:a8 i r fa d f= .error e):0<e∧e≤1000:=by
 unfold a8 at h
 split at h
 ·rcases a_ h with h|⟨s,_,h⟩
  ·obtain ⟨h1,rfl⟩:=uW h
   have:=lQ r 0 d
   unfold EN at this;omega
  ·obtain ⟨h1,rfl⟩:=uW h
   cases fa with
   |true=>
    have:=adt f (i+d) s
    unfold EN at this
    simp only [if_true] at h1 ⊢
    omega
   |false=>
    have:=adw f (i+d) s
    unfold EN at this
    simp only [Bool.false_eq_true,if_false] at h1 ⊢
    omega
 ·cases h
theorem NP {i:Int} {r:List Cl} {fa:Bool} {d:Int}:a8 i r fa d []= .ok []:=by
 unfold a8
 rw [if_neg]
 intro h
 unfold bN at h
 rw [Bool.and_eq_true] at h
 have:=h.2
 unfold gW at this
 rw [Int.toNat_natCast,Cb] at this
 simp [fA] at this
def dM (i:Int) (r:List Cl) (fa:Bool) (d:Int) (f:List Cl):List Cl×Int:=if bN (gW f) (i+d) then if (a7 r 0 d).2=0 then if fa then il f (i+d) (a7 r 0 d).1 else io f (i+d) (a7 r 0 d).1 else ([],(a7 r 0 d).2) else (f,0)
theorem nP (i:Int) (r:List Cl) (fa:Bool) (d:Int) (f:List Cl):cz (dM i r fa d f)=a8 i r fa d f:=by
 unfold dM a8
 split
 ·by_cases h0:(a7 r 0 d).2=0
  ·rw [if_pos h0,e_ h0,ao]
  ·rw [if_neg h0,d5 h0,dx,d5 (show ¬ (([]:List Cl),(a7 r 0 d).2).2=0 from h0)]
 ·rfl
section
variable {i d:Int} {r f:List Cl}
theorem OV (hk:Fu k) (hf:RF f) (hr:RF r) (hi:0≤i∧i<24) (hd:0≤d∧d<4611686018427387000) (ret:List Cl×Int→Option S):sm k f d i r ret=ret (dM i r true d f):=by
 have l1:=hf.len;have l2:=hr.len
 simp only [sm,Py,af hk,bo (n:=i+d) (by omega) (by omega),E4 hk hf.2 (show f.length<4294967296 by omega),qC hk (B_ f),sk,FF,aO (show 0+f.length≤1099511627776 by omega),uH hk hr.2 (show r.length<1073741824 by omega) (show aF 0 by unfold aF;omega) (show aF d by unfold aF;omega)]
 unfold dM
 cases bN (gW f) (i+d) with
 |false=>rw [Bool.not_false,ae];rfl
 |true=>
  rw [Bool.not_true,ad,aY,if_pos rfl]
  by_cases h0:(a7 r 0 d).2=0
  ·have hs:=gx h0
   rw [decide_eq_true h0,Bool.not_true,ad,aeQ hk hf.2 hs.2 hf.lt hs.lt,if_pos h0,if_pos rfl]
  ·rw [decide_eq_false h0,Bool.not_false,ae,if_neg h0]
theorem aft (hk:Fu k) (hf:RF f) (hr:RF r) (hi:0≤i∧i<24) (hd:0≤d∧d<4611686018427387000) (ret:List Cl×Int→Option S):wR k f d i r ret=ret (dM i r false d f):=by
 have l1:=hf.len;have l2:=hr.len
 simp only [wR,Px,af hk,bo (n:=i+d) (by omega) (by omega),E4 hk hf.2 (show f.length<4294967296 by omega),qC hk (B_ f),sk,FF,aO (show 0+f.length≤1099511627776 by omega),uH hk hr.2 (show r.length<1073741824 by omega) (show aF 0 by unfold aF;omega) (show aF d by unfold aF;omega)]
 unfold dM
 cases bN (gW f) (i+d) with
 |false=>rw [Bool.not_false,ae];rfl
 |true=>
  rw [Bool.not_true,ad,aY,if_pos rfl]
  by_cases h0:(a7 r 0 d).2=0
  ·have hs:=gx h0
   rw [decide_eq_true h0,Bool.not_true,ad,aeM hk hf.2 hs.2 hf.lt hs.lt,if_pos h0,if_neg (by decide)]
  ·rw [decide_eq_false h0,Bool.not_false,ae,if_neg h0]
theorem OJ (hk:Fu k) {fa:Bool} (hf:RF f) (hr:RF r) (hi:0≤i∧i<24) (hd:0≤d∧d<4611686018427387000) (ret:List Cl×Int→Option S):sO k f fa i r d ret=ret (dM i r fa d f):=by
 have l1:=hf.len;have l2:=hr.len
 simp only [sO,QF,af hk,bo (n:=i+d) (by omega) (by omega),OO hk hf.2 (show f.length<1073741824 by omega),iy hk (B_ f),uK hk hr.2 (show r.length<1073741824 by omega) (show aF 0 by unfold aF;omega) (show aF d by unfold aF;omega)]
 unfold dM
 cases bN (gW f) (i+d) with
 |false=>rw [Bool.not_false,ae];rfl
 |true=>
  rw [Bool.not_true,ad,aY,if_pos rfl]
  by_cases h0:(a7 r 0 d).2=0
  ·have hs:=gx h0
   rw [decide_eq_true h0,Bool.not_true,ad,if_pos h0]
   cases fa with
   |true=>rw [ae,afd hk hf.2 hs.2 hf.lt hs.lt,if_pos rfl]
   |false=>rw [ad,afn hk hf.2 hs.2 hf.lt hs.lt,if_neg (by decide)]
  ·rw [decide_eq_false h0,Bool.not_false,ae,if_neg h0]
end
def jI (j:Int) (c:Cl):Cl:=⟨oJ c.pos j,oJ c.neg j⟩
def bg (j:Int) (f:List Cl):List Cl:=(bk (f.map (jI j))).1
theorem HK (s j:Int):0≤oJ s j∧oJ s j<16777216:=by
 have:=W4 s.toNat j
 exact ⟨Int.natCast_nonneg _,by show ((jQ s.toNat j:Nat):Int)<_;omega⟩
theorem BD (j:Int) (c:Cl):RC (jI j c):=⟨HK _ _,HK _ _⟩
theorem BF (j:Int) (f:List Cl): ∀c∈f.map (jI j),RC c:=fun c hc=>by
 obtain ⟨d,_,rfl⟩:=List.mem_map.1 hc
 exact BD j d
theorem BE {j:Int} {f:List Cl} (hf:f.length≤64):bk (f.map (jI j))=(bg j f,0):=Prod.ext rfl (Jq (BF j f) (by rw [List.length_map];exact hf))
theorem WU {j:Int} {f:List Cl} (hf:f.length≤64):RF (bg j f):=pT (fun c hc=>(BF j f c hc).ok) (by rw [BE hf])
theorem acE: ∀ (n:Nat) {l:List Cl} {c:Cl},(l.filter fun d=>dg c d&& !decide (d=c)).length≤n→(∀d∈l,RC d)→c∈l→ ∃d∈l,bP l d=true:=by
 have hle: ∀ {a b:Cl},RC a→RC b→(dg a b=true↔(∀j,b.pos.toNat.testBit j=true→a.pos.toNat.testBit j=true)∧ ∀j,b.neg.toNat.testBit j=true→a.neg.toNat.testBit j=true):=by
  intro a b ha hb
  unfold dg cL
  rw [decide_eq_true_eq]
  have hor: ∀ {x y:Int},0≤x→(dK x y=x↔ ∀j,y.toNat.testBit j=true→x.toNat.testBit j=true):=by
   intro x y hx
   unfold dK
   constructor
   ·intro h j hj
    have:(x.toNat|||y.toNat)=x.toNat:=by omega
    rw [←this,Nat.testBit_or,hj,Bool.or_true]
   ·intro h
    have:(x.toNat|||y.toNat)=x.toNat:=by
     apply Nat.eq_of_testBit_eq
     intro j
     rw [Nat.testBit_or]
     cases hy:y.toNat.testBit j with
     |false=>rw [Bool.or_false]
     |true=>rw [h j hy];rfl
    rw [this];omega
  cases a with
  |mk p q=>
   have h1:0≤p:=ha.1.1
   have h2:0≤q:=ha.2.1
   rw [←hor h1,←hor h2]
   constructor
   ·intro h;injection h with h1 h2;exact ⟨h1,h2⟩
   ·rintro ⟨h1,h2⟩;simp only at h1 h2 ⊢;rw [h1,h2]
 have hanti: ∀ {a b:Cl},RC a→RC b→dg a b=true→dg b a=true→a=b:=by
  intro a b ha hb h1 h2
  have e1:=(hle ha hb).1 h1
  have e2:=(hle hb ha).1 h2
  have hx: ∀ {x y:Int},0≤x→0≤y→(∀j,y.toNat.testBit j=true→x.toNat.testBit j=true)→(∀j,x.toNat.testBit j=true→y.toNat.testBit j=true)→x=y:=by
   intro x y hx hy a b
   have:x.toNat=y.toNat:=by
    apply Nat.eq_of_testBit_eq
    intro j
    rw [Bool.eq_iff_iff]
    exact ⟨b j,a j⟩
   omega
  cases a;cases b
  have p1:=hx ha.1.1 hb.1.1 e1.1 e2.1
  have p2:=hx ha.2.1 hb.2.1 e1.2 e2.2
  simp only at p1 p2
  rw [p1,p2]
 intro n
 induction n with
 |zero=>
  intro l c hn hl hc
  refine ⟨c,hc, ?_⟩
  unfold bP
  rw [List.all_eq_true]
  intro d hd
  have:(l.filter fun d=>dg c d&& !decide (d=c))=[]:=List.length_eq_zero_iff.1 (by omega)
  have hnot:=List.filter_eq_nil_iff.1 this d hd
  cases h1:decide (d=c) with
  |true=>rfl
  |false=>
   rw [h1] at hnot
   cases h2:dg c d with
   |false=>rfl
   |true=>rw [h2] at hnot;exact absurd rfl hnot
 |succ n ih=>
  intro l c hn hl hc
  by_cases h:bP l c=true
  ·exact ⟨c,hc,h⟩
  ·unfold bP at h
   rw [List.all_eq_true] at h
   have: ∃d∈l,¬ ((decide (d=c)|| !dg c d)=true):=Classical.byContradiction fun hh=>h fun d hd=>Classical.byContradiction fun h2=>hh ⟨d,hd,h2⟩
   obtain ⟨d,hd,hd'⟩:=this
   have h1:d≠c:=fun h=>hd' (by rw [decide_eq_true h];rfl)
   have h2:dg c d=true:=by
    cases hb:dg c d with
    |true=>rfl
    |false=>exact absurd (by rw [hb,Bool.not_false,Bool.or_true]) hd'
   refine ih (c:=d) ?_ hl hd
   have hsub:(l.filter fun e=>dg d e&& !decide (e=d)).length<(l.filter fun e=>dg c e&& !decide (e=c)).length:=by
    have hc':=hl c hc;have hdr:=hl d hd
    have himp: ∀e∈l,(dg d e&& !decide (e=d))=true→(dg c e&& !decide (e=c))=true:=by
     intro e he hh
     rw [Bool.and_eq_true] at hh ⊢
     have her:=hl e he
     have e1:=(hle hdr her).1 hh.1
     have e2:=(hle hc' hdr).1 h2
     refine ⟨(hle hc' her).2 ⟨fun j hj=>e2.1 j (e1.1 j hj),fun j hj=>e2.2 j (e1.2 j hj)⟩, ?_⟩
     rw [Bool.not_eq_true',decide_eq_false_iff_not]
     intro h3
     subst h3
     exact h1 (hanti hdr hc' hh.1 h2)
    have hle2: ∀ (p q:Cl→Bool) (m:List Cl),(∀e∈m,p e=true→q e=true)→(m.filter p).length≤(m.filter q).length:=by
     intro p q m
     induction m with
     |nil=>intro _;exact Nat.le_refl _
     |cons e m im=>
      intro hm
      have:=im fun e he=>hm e (by simp [he])
      by_cases hp:p e=true
      ·rw [List.filter_cons_of_pos hp,List.filter_cons_of_pos (hm e (by simp) hp),List.length_cons,List.length_cons];omega
      ·rw [List.filter_cons_of_neg hp]
       by_cases hq:q e=true
       ·rw [List.filter_cons_of_pos hq,List.length_cons];omega
       ·rw [List.filter_cons_of_neg hq];omega
    have hlt: ∀ (p q:Cl→Bool) (m:List Cl),(∀e∈m,p e=true→q e=true)→d∈m→p d=false→q d=true→(m.filter p).length<(m.filter q).length:=by
     intro p q m
     induction m with
     |nil=>intro _ h;cases h
     |cons e m im=>
      intro hm hdm hp hq
      have hrest: ∀e∈m,p e=true→q e=true:=fun e he=>hm e (by simp [he])
      have hb:=hle2 p q m hrest
      rcases List.mem_cons.1 hdm with rfl|hdm
      ·rw [List.filter_cons_of_neg (by rw [hp];decide),List.filter_cons_of_pos hq,List.length_cons];omega
      ·have:=im hrest hdm hp hq
       by_cases hp':p e=true
       ·rw [List.filter_cons_of_pos hp',List.filter_cons_of_pos (hm e (by simp) hp'),List.length_cons,List.length_cons];omega
       ·rw [List.filter_cons_of_neg hp']
        by_cases hq':q e=true
        ·rw [List.filter_cons_of_pos hq',List.length_cons];omega
        ·rw [List.filter_cons_of_neg hq'];omega
    exact hlt _ _ l himp hd (by simp) (by rw [h2,decide_eq_false h1];rfl)
   omega
theorem HD {j:Int} {f:List Cl} (hf:RF f):(bg j f).length=0↔f.length=0:=by
 have h:=BE (j:=j) hf.len
 have hm:=(pS h).1
 constructor
 ·intro h0
  apply Classical.byContradiction
  intro hne
  obtain ⟨c,hc⟩:=List.exists_mem_of_length_pos (l:=f.map (jI j)) (by rw [List.length_map];omega)
  obtain ⟨d,hd,hn⟩:=acE _ (Nat.le_refl _) (BF j f) hc
  have:d∈bg j f:=by rw [hm];exact mem_mins.2 ⟨hd,hn⟩
  rw [List.length_eq_zero_iff.1 h0] at this
  cases this
 ·intro h0
  have:=List.length_eq_zero_iff.1 h0
  subst this;rfl
theorem aaP (hk:Fu k) (ret:List Cl×Int→Option S) {i d:Int} (hi:0≤i∧i<24) (hd:0≤d∧d<4611686018427387000) {f:List Cl} (hf:am f) (hlen:f.length<1073741824):
  ∀ (r p:List Cl) (m:Nat) (o:List Cl),f=p++r→r.length<m→am o→o.length=p.length→oY k ret i d f m (p.length:Int) o=ret (bk (o++r.map (jI (i+d)))):=by
 intro r
 induction r with
 |nil=>
  intro p m o h hm hok ho
  obtain ⟨m,rfl,hm'⟩:=ak hm
  have:o.length<1073741824:=by rw [ho];rw [h] at hlen;simpa using hlen
  simp only [oY,vf,aA h,ad,af hk,kx hk hok (show o.length<2147483648 by omega),List.map_nil,List.append_nil]
 |cons x r ih=>
  intro p m o h hm hok ho
  obtain ⟨m,rfl,hm'⟩:=ak hm
  obtain ⟨e1,e2,e3,e4⟩:=az h (by omega)
  have hx:aU x:=hf x (by rw [h];simp)
  have hpl:p.length<f.length:=by rw [h];simp
  simp only [oY,vf,e1,ae,e2,Option.bind_some,af hk,bo (n:=i+d) (by omega) (by omega),Od hk hx.1,Od hk hx.2,e3]
  rw [aO (by simp;omega)]
  have:=ih (p++[x]) m (o++[jI (i+d) x]) e4 hm' (eY hok fun c hc=>by simp at hc;subst hc;exact (BD _ _).ok) (by simp;omega)
  refine Eq.trans this ?_
  simp
theorem Oy (hk:Fu k) {i d:Int} (hi:0≤i∧i<24) (hd:0≤d∧d<4611686018427387000) {f:List Cl} (hf:RF f) (ret:List Cl×Int→Option S):oh k f d i ret=ret (bg (i+d) f,0):=by
 have l1:=hf.len
 have:=aaP hk ret hi hd hf.2 (by omega) f [] k [] rfl (by have:4294967296≤k:=hk;omega) (fun c hc=>by cases hc) rfl
 simp only [oh,FE]
 refine Eq.trans this ?_
 rw [List.nil_append,BE l1]
theorem aaN (hk:Fu k) (ret:List Cl→Option S) {j:Int} {f:List Cl} (hf:am f) (hlen:f.length<1073741824):
  ∀ (r p:List Cl) (m:Nat) (o:List Cl),f=p++r→r.length<m→am o→o.length=p.length→pG k ret f j m o (p.length:Int)=ret (bk (o++r.map (jI j))).1:=by
 intro r
 induction r with
 |nil=>
  intro p m o h hm hok ho
  obtain ⟨m,rfl,hm'⟩:=ak hm
  have:o.length<1073741824:=by rw [ho];rw [h] at hlen;simpa using hlen
  simp only [pG,wj,aA h,ad,af hk,nM hk hok (show o.length<2147483648 by omega),List.map_nil,List.append_nil]
 |cons x r ih=>
  intro p m o h hm hok ho
  obtain ⟨m,rfl,hm'⟩:=ak hm
  obtain ⟨e1,e2,e3,e4⟩:=az h (by omega)
  have hx:aU x:=hf x (by rw [h];simp)
  have hpl:p.length<f.length:=by rw [h];simp
  simp only [pG,wj,e1,ae,e2,Option.bind_some,af hk,OP hk hx.1,OP hk hx.2,e3]
  rw [aO (by simp;omega)]
  have:=ih (p++[x]) m (o++[jI j x]) e4 hm' (eY hok fun c hc=>by simp at hc;subst hc;exact (BD _ _).ok) (by simp;omega)
  refine Eq.trans this ?_
  simp
theorem Ow (hk:Fu k) {j:Int} {f:List Cl} (hf:RF f) (ret:List Cl→Option S):sN k f j ret=ret (bg j f):=by
 have l1:=hf.len
 have:=aaN hk ret (j:=j) hf.2 (by omega) f [] k [] rfl (by have:4294967296≤k:=hk;omega) (fun c hc=>by cases hc) rfl
 simp only [sN,GE]
 exact this
end Go.Proofs.YtapmagaejigpnaaGreatDoor
namespace Go.Proofs.YtapmagaejigpnaaGreatDoor
open Go PI
set_option linter.unusedVariables false
set_option linter.unusedSimpArgs false
set_option maxRecDepth 20000
variable {S:Type} {k:Nat}
theorem Aa (fo fa:dO) (d:Int) (t:Tm):aW fo fa d t=bE (if t.kind=14 then fa d t.r else fo d t.r) fun r'=>bE (bv fo fa d t.kind 0 t.kids) fun ks'=>bE (aX fo fa d t.kind t.sys) fun sys'=> .ok (.mk t.kind t.n t.name r' ks' sys'):=by cases t;rw [aW];rfl
theorem G8 {fo fa:dO} {d:Int} {x y:Tm} (h:aW fo fa d x= .ok y):y.kind=x.kind:=by
 rw [Aa] at h
 obtain ⟨_,_,h⟩:=aK h
 obtain ⟨_,_,h⟩:=aK h
 obtain ⟨_,_,h⟩:=aK h
 injection h with h;subst h;rfl
theorem z_ (fo fa:dO) (d kd:Int) (b:Br Tm):fb fo fa d kd b=bE (fa d b.face) fun f'=>if f'.length=0 then .ok [] else bE (bF fo fa d kd b.kids) fun ks'=> .ok [.mk f' ks']:=by cases b;rw [fb]
section
variable {fo fa:dO} (hfo: ∀d f e,fo d f= .error e→0<e∧e≤1000) (hfa: ∀d f e,fa d f= .error e→0<e∧e≤1000)
include hfo hfa
theorem jz (t:Tm): ∀ {d e},aW fo fa d t= .error e→0<e∧e≤1000:=by
 induction t using md with
 |h kd n nm r ks sys ih1 ih2=>
  intro d e h
  rw [aW] at h
  rcases a_ h with h|⟨_,_,h⟩
  ·split at h
   ·exact hfa _ _ _ h
   ·exact hfo _ _ _ h
  have hkids: ∀ {l:List Tm} {i:Nat},(∀x∈l,∀ {d e},aW fo fa d x= .error e→0<e∧e≤1000)→bv fo fa d kd i l= .error e→0<e∧e≤1000:=by
   intro l
   induction l with
   |nil=>intro i _ h;rw [bv] at h;cases h
   |cons t l ih=>
    intro i hl h
    rw [bv] at h
    rcases a_ h with h|⟨_,_,h⟩
    ·exact hl t (by simp) h
    ·rcases a_ h with h|⟨_,_,h⟩
     ·exact ih (fun x hx=>hl x (by simp [hx])) h
     ·cases h
  have hmore: ∀ {l:List Tm},(∀x∈l,∀ {d e},aW fo fa d x= .error e→0<e∧e≤1000)→ ∀ {e},bF fo fa d kd l= .error e→0<e∧e≤1000:=by
   intro l
   induction l with
   |nil=>intro _ e h;rw [bF] at h;cases h
   |cons t l ih=>
    intro hl e h
    rw [bF] at h
    rcases a_ h with h|⟨_,_,h⟩
    ·exact hl t (by simp) h
    ·rcases a_ h with h|⟨_,_,h⟩
     ·exact ih (fun x hx=>hl x (by simp [hx])) h
     ·cases h
  have hsys: ∀ {l:List (Br Tm)},(∀b∈l,∀x∈b.kids,∀ {d e},aW fo fa d x= .error e→0<e∧e≤1000)→aX fo fa d kd l= .error e→0<e∧e≤1000:=by
   intro l
   induction l with
   |nil=>intro _ h;rw [aX] at h;cases h
   |cons b l ih=>
    intro hl h
    rw [aX] at h
    rcases a_ h with h|⟨_,_,h⟩
    ·rw [z_] at h
     rcases a_ h with h|⟨_,_,h⟩
     ·exact hfa _ _ _ h
     ·split at h
      ·cases h
      ·rcases a_ h with h|⟨_,_,h⟩
       ·exact hmore (hl b (by simp)) h
       ·cases h
    ·rcases a_ h with h|⟨_,_,h⟩
     ·exact ih (fun b hb=>hl b (by simp [hb])) h
     ·cases h
  rcases a_ h with h|⟨_,_,h⟩
  ·exact hkids (fun x hx=>ih1 x hx) h
  ·rcases a_ h with h|⟨_,_,h⟩
   ·exact hsys ih2 h
   ·cases h
theorem Rr {kd d:Int}: ∀ {l:List Tm} {i:Nat} {e:Int},bv fo fa d kd i l= .error e→0<e∧e≤1000:=by
 intro l
 induction l with
 |nil=>intro i e h;rw [bv] at h;cases h
 |cons t l ih=>
  intro i e h
  rw [bv] at h
  rcases a_ h with h|⟨_,_,h⟩
  ·exact jz hfo hfa t h
  ·rcases a_ h with h|⟨_,_,h⟩
   ·exact ih h
   ·cases h
theorem Rs {kd d:Int}: ∀ {l:List Tm} {e:Int},bF fo fa d kd l= .error e→0<e∧e≤1000:=by
 intro l
 induction l with
 |nil=>intro e h;rw [bF] at h;cases h
 |cons t l ih=>
  intro e h
  rw [bF] at h
  rcases a_ h with h|⟨_,_,h⟩
  ·exact jz hfo hfa t h
  ·rcases a_ h with h|⟨_,_,h⟩
   ·exact ih h
   ·cases h
end
theorem uS {α β:Type} (x:Except Int Tm) (hx: ∀e,x= .error e→0<e∧e≤1000) (f:Tm→α) (g:Int→α):(fun r:Tm×Int=>ab (!(r.2==0)) (g r.2) (f r.1)) (tE x)=eE x f g:=by
 cases x with
 |ok t=>rfl
 |error e=>
  have:=(hx e rfl).1
  show ab (!(e==0)) (g e) (f aN)=g e
  rw [aY,decide_eq_false (by omega),Bool.not_false,ae]
theorem yS {α β γ:Type} (x:Except Int α) (hx: ∀e,x= .error e→0<e∧e≤1000) (z:α) (f:α→β) (g:Int→β):eE x (fun l=>(fun r:α×Int=>ab (!(r.2==0)) (g r.2) (f r.1)) (l,0)) (fun e=>(fun r:α×Int=>ab (!(r.2==0)) (g r.2) (f r.1)) (z,e))=eE x f g:=by
 cases x with
 |ok t=>rfl
 |error e=>
  have:=(hx e rfl).1
  show ab (!(e==0)) (g e) (f z)=g e
  rw [aY,decide_eq_false (by omega),Bool.not_false,ae]
theorem lR {G:Int→List Cl→List Cl}: ∀d f e,aG G d f= .error e→0<e∧e≤1000:=fun d f e h=>by cases h
theorem js {i:Int} {r:List Cl} {fa:Bool}: ∀d f e,a8 i r fa d f= .error e→0<e∧e≤1000:=fun d f e h=>zG h
section
variable {hd:Tm→Int→Int→List Cl→(Tm×Int→Option S)→Option S} {i d:Int} {t:Tm} {r:List Cl}
theorem adB (hk:Fu k) (hi:0≤i∧i<24) (hr:RF r) (hd0:0≤d∧d<4611686018427386000) (hro:RowsT t) (ret:List Cl×Int→Option S): ∃z:List Cl×Int,cz z=(if t.kind=14 then (a8 i r true) d t.r else (a8 i r false) d t.r)∧wS k t d i r ret=ret z:=by
 have hr0:=hro.no.1
 simp only [wS,PB,af hk,OV hk hr0 hr hi (show 0≤d∧d<4611686018427387000 by omega),aft hk hr0 hr hi (show 0≤d∧d<4611686018427387000 by omega)]
 by_cases h:t.kind=14
 ·rw [h,if_pos rfl,show ((14:Int)==14)=true from rfl,ae]
  exact ⟨_,nP _ _ _ _ _,rfl⟩
 ·rw [if_neg h,show (t.kind==14)=false from by rw [beq_eq_false_iff_ne];exact h,ad]
  exact ⟨_,nP _ _ _ _ _,rfl⟩
theorem ady (hk:Fu k) (ret:List Tm×Int→Option S) (hd0:0≤d∧d<4611686018427386000) (hQ: ∀y∈t.kids,∀b,0≤b∧b≤1→ ∀g,hd y (d+b) i r g=g (tE (aW (a8 i r false) (a8 i r true) (d+b) y))) (hl:t.kids.length<1073741824):
  ∀ (r' p:List Tm) (m:Nat) (acc:List Tm),t.kids=p++r'→r'.length<m→acc.length=p.length→
  ly hd k ret i r t t.kids d m acc (p.length:Int)=eE (bv (a8 i r false) (a8 i r true) d t.kind p.length r') (fun l=>ret (acc++l,0)) fun e=>ret ([],e):=by
 intro r'
 induction r' with
 |nil=>
  intro p m acc h hm ha
  obtain ⟨m,rfl,hm'⟩:=ak hm
  simp only [ly,vj,aA h,ad,bv,aR,List.append_nil]
 |cons y r' ih=>
  intro p m acc h hm ha
  obtain ⟨m,rfl,hm'⟩:=ak hm
  obtain ⟨e1,e2,e3,e4⟩:=az h (by omega)
  have hpl:p.length<t.kids.length:=by rw [h];simp
  have b2':=gO t.kind p.length
  have hy:=hQ y (by rw [h];simp) (bQ t.kind p.length) b2'
  simp only [ly,vj,e1,ae,e2,Option.bind_some,af hk,sn,FK,qA,aq,bo (n:=d+bQ t.kind p.length) (by omega) (by omega),hy]
  refine Eq.trans (uS (β:=Unit) _ (fun e he=>jz js js y he) (fun z=>Option.bind (ay 1099511627776 acc.length [z].length) fun _=>ly hd k ret i r t t.kids d m (acc++[z]) (IntKind.wrap .i64 ((p.length:Int)+1))) fun e=>ret ([],e)) ?_
  simp only [bv,aM,aR]
  refine bJ (fun t' ht'=> ?_) fun e _=>rfl
  rw [aO (by simp;omega),e3,ih (p++[y]) m (acc++[t']) e4 hm' (by simp;omega),show (p++[y]).length=p.length+1 by simp]
  simp
theorem adz (hk:Fu k) (ret:List Tm×Int→Option S) {x:Br Tm} {kd:Int} (hd0:0≤d∧d<4611686018427386000) (hQ: ∀y∈x.kids,∀g,hd y (d+aE kd) i r g=g (tE (aW (a8 i r false) (a8 i r true) (d+aE kd) y))) (hl:x.kids.length<1073741824):
  ∀ (r' p:List Tm) (m:Nat) (acc:List Tm),x.kids=p++r'→r'.length<m→acc.length=p.length→
  lx hd k ret i r (aE kd) x.kids d m acc (p.length:Int)=eE (bF (a8 i r false) (a8 i r true) d kd r') (fun l=>ret (acc++l,0)) fun e=>ret ([],e):=by
 have hmo:=ei kd
 intro r'
 induction r' with
 |nil=>
  intro p m acc h hm ha
  obtain ⟨m,rfl,hm'⟩:=ak hm
  simp only [lx,vi,aA h,ad,bF,aR,List.append_nil]
 |cons y r' ih=>
  intro p m acc h hm ha
  obtain ⟨m,rfl,hm'⟩:=ak hm
  obtain ⟨e1,e2,e3,e4⟩:=az h (by omega)
  have hpl:p.length<x.kids.length:=by rw [h];simp
  have hy:=hQ y (by rw [h];simp)
  simp only [lx,vi,e1,ae,e2,Option.bind_some,af hk,so,FL,aq,bo (n:=d+aE kd) (by omega) (by omega),hy]
  refine Eq.trans (uS (β:=Unit) _ (fun e he=>jz js js y he) (fun z=>Option.bind (ay 1099511627776 acc.length [z].length) fun _=>lx hd k ret i r (aE kd) x.kids d m (acc++[z]) (IntKind.wrap .i64 ((p.length:Int)+1))) fun e=>ret ([],e)) ?_
  simp only [bF,aM,aR]
  refine bJ (fun t' ht'=> ?_) fun e _=>rfl
  rw [aO (by simp;omega),e3,ih (p++[y]) m (acc++[t']) e4 hm' (by simp;omega)]
  simp
theorem adA (hk:Fu k) (ret:Tm×Int→Option S) (hi:0≤i∧i<24) (hr:RF r) (hd0:0≤d∧d<4611686018427386000) {r1:List Cl×Int} {r2:List Tm×Int} (ht:OkT t) (hro:RowsT t) (hQ: ∀b∈t.sys,∀y∈b.kids,∀g,hd y (d+aE t.kind) i r g=g (tE (aW (a8 i r false) (a8 i r true) (d+aE t.kind) y))):
  ∀ (r' p:List (Br Tm)) (m:Nat) (o:List (Br Tm)),t.sys=p++r'→r'.length<m→o.length≤p.length→
  fL hd k ret i r t r1 r2 d m (aE t.kind) o (p.length:Int)=eE (aX (a8 i r false) (a8 i r true) d t.kind r') (fun s=>ret (.mk t.kind t.n t.name r1.1 r2.1 (o++s),0)) fun e=>ret (aN,e):=by
 obtain ⟨o1,o2,o3,o4,o5,o6,o7⟩:=ht.no
 intro r'
 induction r' with
 |nil=>
  intro p m o h hml ho
  obtain ⟨m,rfl,hm'⟩:=ak hml
  simp only [fL,vk,aA h,ad,aX,aR,List.append_nil]
 |cons x r' ih=>
  intro p m o h hml ho
  obtain ⟨m,rfl,hm'⟩:=ak hml
  obtain ⟨e1,e2,e3,e4⟩:=az h (by omega)
  have hx:x∈t.sys:=by rw [h];simp
  have hpl:p.length<t.sys.length:=by rw [h];simp
  have hb:=(ht.bi hx).1
  have hr0:=(hro.bi hx).1
  have hM:=fun g:List Tm×Int→Option S=>adz (kd:=t.kind) hk g hd0 (hQ x hx) hb.2.2 x.kids [] k [] rfl (by have:4294967296≤k:=hk;omega) rfl
  have hM: ∀g:List Tm×Int→Option S,lx hd k g i r (aE t.kind) x.kids d k [] 0=_:=hM
  simp only [fL,vk,e1,ae,e2,Option.bind_some,af hk,OV hk hr0 hr hi (show 0≤d∧d<4611686018427387000 by omega),BO,FI,hM,e3,List.nil_append]
  have hin:=fun f':List Cl=>yS (β:=Option S) (γ:=Unit) (bF (a8 i r false) (a8 i r true) d t.kind x.kids) (fun e he=>Rs js js he) [] (fun l=>Option.bind (ay 1099511627776 o.length [Br.mk f' l].length) fun _=>fL hd k ret i r t r1 r2 d m (aE t.kind) (o++[Br.mk f' l]) (((p++[x]).length:Nat):Int)) fun e=>ret (aN,e)
  refine Eq.trans (uX (z:=(dM i r true d x.face)) (fun f'=>ab (((f'.length:Nat):Int)==0) (fL hd k ret i r t r1 r2 d m (aE t.kind) o (((p++[x]).length:Nat):Int)) (eE (bF (a8 i r false) (a8 i r true) d t.kind x.kids) (fun l=>(fun r5:List Tm×Int=>ab (!(r5.2==0)) (ret (aN,r5.2)) (Option.bind (ay 1099511627776 o.length [Br.mk f' r5.1].length) fun _=>fL hd k ret i r t r1 r2 d m (aE t.kind) (o++[Br.mk f' r5.1]) (((p++[x]).length:Nat):Int))) (l,0)) fun e=>(fun r5:List Tm×Int=>ab (!(r5.2==0)) (ret (aN,r5.2)) (Option.bind (ay 1099511627776 o.length [Br.mk f' r5.1].length) fun _=>fL hd k ret i r t r1 r2 d m (aE t.kind) (o++[Br.mk f' r5.1]) (((p++[x]).length:Nat):Int))) ([],e))) fun e=>ret (aN,e)) ?_
  rw [show cz (dM i r true d x.face)=(a8 i r true) d x.face from nP _ _ _ _ _]
  rw [aX,z_,aM,aM]
  refine bJ (fun f' hf'=> ?_) fun e _=>rfl
  rw [pU,aS]
  by_cases h0:f'.length=0
  ·rw [if_pos h0,if_pos h0,aR,aM,ih (p++[x]) m o e4 hm' (by simp;omega)]
   exact bJ (fun _ _=>rfl) fun _ _=>rfl
  ·rw [if_neg h0,if_neg h0,hin f',aM]
   refine bJ (fun l hl=> ?_) fun e _=>rfl
   rw [aR,aM,aO (by simp;omega),ih (p++[x]) m (o++[Br.mk f' l]) e4 hm' (by simp;omega)]
   refine bJ (fun s _=> ?_) fun e _=>rfl
   rw [aR];simp
end
theorem adC {i:Int} {r:List Cl} (hi:0≤i∧i<24) (hr:RF r) (t:Tm):OkT t→RowsT t→ ∀ {k:Nat} {d:Int} (ret:Tm×Int→Option S),Fd k (ar t)→0≤d→d+ar t<4611686018427386000→dX k t d i r ret=ret (tE (aW (a8 i r false) (a8 i r true) d t)):=by
 induction t using d4 with
 |h t ih1 ih2=>
  intro ht hro k d ret hk hv hv'
  obtain ⟨q,rfl,hq,hf⟩:=hk.pos' (cS t)
  have hp:=cS t
  have hd0:0≤d∧d<4611686018427386000:=by omega
  obtain ⟨o1,o2,o3,o4,o5,o6,o7⟩:=ht.no
  have hmo:=ei t.kind
  have hQ: ∀y∈t.kids,∀b,0≤b∧b≤1→ ∀g:Tm×Int→Option S,dX q y (d+b) i r g=g (tE (aW (a8 i r false) (a8 i r true) (d+b) y)):=fun y hy b h2 g=>
   ih1 y hy (ht.ki hy) (hro.ki hy) g (hf _ (cR hy)) (by omega) (by have:=cR hy;omega)
  have hQ': ∀b∈t.sys,∀y∈b.kids,∀g:Tm×Int→Option S,dX q y (d+aE t.kind) i r g=g (tE (aW (a8 i r false) (a8 i r true) (d+aE t.kind) y)):=fun b hb y hy g=>
   ih2 b hb y hy ((ht.bi hb).2 y hy) ((hro.bi hb).2 y hy) g (hf _ (cQ hb hy)) (by omega) (by have:=cQ hb hy;omega)
  have hK: ∀g:List Tm×Int→Option S,ly (dX q) q g i r t t.kids d q [] 0=_:=fun g=>ady hq g hd0 hQ o6 t.kids [] q [] rfl (by have:4294967296≤q:=hq;omega) rfl
  have hS:=fun (r1:List Cl×Int) (r2:List Tm×Int)=>adA (r1:=r1) (r2:=r2) hq ret hi hr hd0 ht hro hQ' t.sys [] q [] rfl (by have:4294967296≤q:=hq;omega) (Nat.le_refl _)
  have hS: ∀ (r1:List Cl×Int) (r2:List Tm×Int),fL (dX q) q ret i r t r1 r2 d q (aE t.kind) [] 0=_:=hS
  have hcase: ∀ (r1:List Cl×Int) (r2:List Tm×Int),ab (t.kind==15) (fL (dX q) q ret i r t r1 r2 d q 1 [] 0) (fL (dX q) q ret i r t r1 r2 d q 0 [] 0)=eE (aX (a8 i r false) (a8 i r true) d t.kind t.sys) (fun s=>ret (.mk t.kind t.n t.name r1.1 r2.1 s,0)) fun e=>ret (aN,e):=by
   intro r1 r2
   have:=hS r1 r2
   simp only [List.nil_append] at this
   rw [←this,cx]
   unfold aE
   by_cases h15:t.kind=15
   ·rw [if_pos h15,if_pos (by rw [h15];rfl)]
   ·rw [if_neg h15,if_neg (by rw [beq_iff_eq];exact h15)]
  obtain ⟨z,hz,hrow⟩:=adB hq hi hr hd0 hro (fun r1=>ab (!(r1.2==0)) (ret (aN,r1.2)) (eE (bv (a8 i r false) (a8 i r true) d t.kind 0 t.kids) (fun l=>(fun r2:List Tm×Int=>ab (!(r2.2==0)) (ret (aN,r2.2)) (eE (aX (a8 i r false) (a8 i r true) d t.kind t.sys) (fun s=>ret (.mk t.kind t.n t.name r1.1 r2.1 s,0)) fun e=>ret (aN,e))) (l,0)) fun e=>(fun r2:List Tm×Int=>ab (!(r2.2==0)) (ret (aN,r2.2)) (eE (aX (a8 i r false) (a8 i r true) d t.kind t.sys) (fun s=>ret (.mk t.kind t.n t.name r1.1 r2.1 s,0)) fun e=>ret (aN,e))) ([],e)))
  simp only [dX,FM,af hq,aq,BP,FJ,hK,hcase,List.nil_append,List.length_nil]
  refine Eq.trans hrow ?_
  rw [fU _ ret,Aa,←hz]
  refine Eq.trans (uX (z:=z) (fun r'=>eE (bv (a8 i r false) (a8 i r true) d t.kind 0 t.kids) (fun l=>(fun r2:List Tm×Int=>ab (!(r2.2==0)) (ret (aN,r2.2)) (eE (aX (a8 i r false) (a8 i r true) d t.kind t.sys) (fun s=>ret (.mk t.kind t.n t.name r' r2.1 s,0)) fun e=>ret (aN,e))) (l,0)) fun e=>(fun r2:List Tm×Int=>ab (!(r2.2==0)) (ret (aN,r2.2)) (eE (aX (a8 i r false) (a8 i r true) d t.kind t.sys) (fun s=>ret (.mk t.kind t.n t.name r' r2.1 s,0)) fun e=>ret (aN,e))) ([],e)) fun e=>ret (aN,e)) ?_
  rw [aM]
  refine bJ (fun r' _=> ?_) fun e _=>rfl
  refine Eq.trans (yS (β:=Option S) (γ:=Unit) (bv (a8 i r false) (a8 i r true) d t.kind 0 t.kids) (fun e he=>Rr js js he) [] (fun l=>eE (aX (a8 i r false) (a8 i r true) d t.kind t.sys) (fun s=>ret (.mk t.kind t.n t.name r' l s,0)) fun e=>ret (aN,e)) fun e=>ret (aN,e)) ?_
  simp only [aM,aR]
section
variable {hd:Tm→Int→Int→(Tm×Int→Option S)→Option S} {i d:Int} {t:Tm}
theorem W8 (hk:Fu k) (hi:0≤i∧i<24) (hd0:0≤d∧d<4611686018427386000) (hro:RowsT t) (ret:List Cl×Int→Option S): ∃z:List Cl×Int,cz z=(if t.kind=14 then (aG fun d f=>bg (i+d) f) d t.r else (aG fun d f=>bg (i+d) f) d t.r)∧wT k t d i ret=ret z:=by
 have hr0:=hro.no.1
 simp only [wT,PC,af hk,Oy hk hi (show 0≤d∧d<4611686018427387000 by omega) hr0]
 by_cases h:t.kind=14
 ·rw [h,if_pos rfl,show ((14:Int)==14)=true from rfl,ae]
  exact ⟨_,rfl,rfl⟩
 ·rw [if_neg h,show (t.kind==14)=false from by rw [beq_eq_false_iff_ne];exact h,ad]
  exact ⟨_,rfl,rfl⟩
theorem W5 (hk:Fu k) (ret:List Tm×Int→Option S) (hd0:0≤d∧d<4611686018427386000) (hQ: ∀y∈t.kids,∀b,0≤b∧b≤1→ ∀g,hd y (d+b) i g=g (tE (aW (aG fun d f=>bg (i+d) f) (aG fun d f=>bg (i+d) f) (d+b) y))) (hl:t.kids.length<1073741824):
  ∀ (r' p:List Tm) (m:Nat) (acc:List Tm),t.kids=p++r'→r'.length<m→acc.length=p.length→
  lw hd k ret i t t.kids d m acc (p.length:Int)=eE (bv (aG fun d f=>bg (i+d) f) (aG fun d f=>bg (i+d) f) d t.kind p.length r') (fun l=>ret (acc++l,0)) fun e=>ret ([],e):=by
 intro r'
 induction r' with
 |nil=>
  intro p m acc h hm ha
  obtain ⟨m,rfl,hm'⟩:=ak hm
  simp only [lw,vh,aA h,ad,bv,aR,List.append_nil]
 |cons y r' ih=>
  intro p m acc h hm ha
  obtain ⟨m,rfl,hm'⟩:=ak hm
  obtain ⟨e1,e2,e3,e4⟩:=az h (by omega)
  have hpl:p.length<t.kids.length:=by rw [h];simp
  have b2':=gO t.kind p.length
  have hy:=hQ y (by rw [h];simp) (bQ t.kind p.length) b2'
  simp only [lw,vh,e1,ae,e2,Option.bind_some,af hk,sn,FK,qA,aq,bo (n:=d+bQ t.kind p.length) (by omega) (by omega),hy]
  refine Eq.trans (uS (β:=Unit) _ (fun e he=>jz lR lR y he) (fun z=>Option.bind (ay 1099511627776 acc.length [z].length) fun _=>lw hd k ret i t t.kids d m (acc++[z]) (IntKind.wrap .i64 ((p.length:Int)+1))) fun e=>ret ([],e)) ?_
  simp only [bv,aM,aR]
  refine bJ (fun t' ht'=> ?_) fun e _=>rfl
  rw [aO (by simp;omega),e3,ih (p++[y]) m (acc++[t']) e4 hm' (by simp;omega),show (p++[y]).length=p.length+1 by simp]
  simp
theorem W6 (hk:Fu k) (ret:List Tm×Int→Option S) {x:Br Tm} {kd:Int} (hd0:0≤d∧d<4611686018427386000) (hQ: ∀y∈x.kids,∀g,hd y (d+aE kd) i g=g (tE (aW (aG fun d f=>bg (i+d) f) (aG fun d f=>bg (i+d) f) (d+aE kd) y))) (hl:x.kids.length<1073741824):
  ∀ (r' p:List Tm) (m:Nat) (acc:List Tm),x.kids=p++r'→r'.length<m→acc.length=p.length→
  lv hd k ret i (aE kd) x.kids d m acc (p.length:Int)=eE (bF (aG fun d f=>bg (i+d) f) (aG fun d f=>bg (i+d) f) d kd r') (fun l=>ret (acc++l,0)) fun e=>ret ([],e):=by
 have hmo:=ei kd
 intro r'
 induction r' with
 |nil=>
  intro p m acc h hm ha
  obtain ⟨m,rfl,hm'⟩:=ak hm
  simp only [lv,vg,aA h,ad,bF,aR,List.append_nil]
 |cons y r' ih=>
  intro p m acc h hm ha
  obtain ⟨m,rfl,hm'⟩:=ak hm
  obtain ⟨e1,e2,e3,e4⟩:=az h (by omega)
  have hpl:p.length<x.kids.length:=by rw [h];simp
  have hy:=hQ y (by rw [h];simp)
  simp only [lv,vg,e1,ae,e2,Option.bind_some,af hk,so,FL,aq,bo (n:=d+aE kd) (by omega) (by omega),hy]
  refine Eq.trans (uS (β:=Unit) _ (fun e he=>jz lR lR y he) (fun z=>Option.bind (ay 1099511627776 acc.length [z].length) fun _=>lv hd k ret i (aE kd) x.kids d m (acc++[z]) (IntKind.wrap .i64 ((p.length:Int)+1))) fun e=>ret ([],e)) ?_
  simp only [bF,aM,aR]
  refine bJ (fun t' ht'=> ?_) fun e _=>rfl
  rw [aO (by simp;omega),e3,ih (p++[y]) m (acc++[t']) e4 hm' (by simp;omega)]
  simp
theorem W7 (hk:Fu k) (ret:Tm×Int→Option S) (hi:0≤i∧i<24) (hd0:0≤d∧d<4611686018427386000) {r1:List Cl×Int} {r2:List Tm×Int} (ht:OkT t) (hro:RowsT t) (hQ: ∀b∈t.sys,∀y∈b.kids,∀g,hd y (d+aE t.kind) i g=g (tE (aW (aG fun d f=>bg (i+d) f) (aG fun d f=>bg (i+d) f) (d+aE t.kind) y))):
  ∀ (r' p:List (Br Tm)) (m:Nat) (o:List (Br Tm)),t.sys=p++r'→r'.length<m→o.length≤p.length→
  fM hd k ret i t r1 r2 d m (aE t.kind) o (p.length:Int)=eE (aX (aG fun d f=>bg (i+d) f) (aG fun d f=>bg (i+d) f) d t.kind r') (fun s=>ret (.mk t.kind t.n t.name r1.1 r2.1 (o++s),0)) fun e=>ret (aN,e):=by
 obtain ⟨o1,o2,o3,o4,o5,o6,o7⟩:=ht.no
 intro r'
 induction r' with
 |nil=>
  intro p m o h hml ho
  obtain ⟨m,rfl,hm'⟩:=ak hml
  simp only [fM,vl,aA h,ad,aX,aR,List.append_nil]
 |cons x r' ih=>
  intro p m o h hml ho
  obtain ⟨m,rfl,hm'⟩:=ak hml
  obtain ⟨e1,e2,e3,e4⟩:=az h (by omega)
  have hx:x∈t.sys:=by rw [h];simp
  have hpl:p.length<t.sys.length:=by rw [h];simp
  have hb:=(ht.bi hx).1
  have hr0:=(hro.bi hx).1
  have hM:=fun g:List Tm×Int→Option S=>W6 (kd:=t.kind) hk g hd0 (hQ x hx) hb.2.2 x.kids [] k [] rfl (by have:4294967296≤k:=hk;omega) rfl
  have hM: ∀g:List Tm×Int→Option S,lv hd k g i (aE t.kind) x.kids d k [] 0=_:=hM
  simp only [fM,vl,e1,ae,e2,Option.bind_some,af hk,Oy hk hi (show 0≤d∧d<4611686018427387000 by omega) hr0,BM,FG,hM,e3,List.nil_append]
  have hin:=fun f':List Cl=>yS (β:=Option S) (γ:=Unit) (bF (aG fun d f=>bg (i+d) f) (aG fun d f=>bg (i+d) f) d t.kind x.kids) (fun e he=>Rs lR lR he) [] (fun l=>Option.bind (ay 1099511627776 o.length [Br.mk f' l].length) fun _=>fM hd k ret i t r1 r2 d m (aE t.kind) (o++[Br.mk f' l]) (((p++[x]).length:Nat):Int)) fun e=>ret (aN,e)
  refine Eq.trans (uX (z:=(bg (i+d) x.face,(0:Int))) (fun f'=>ab (((f'.length:Nat):Int)==0) (fM hd k ret i t r1 r2 d m (aE t.kind) o (((p++[x]).length:Nat):Int)) (eE (bF (aG fun d f=>bg (i+d) f) (aG fun d f=>bg (i+d) f) d t.kind x.kids) (fun l=>(fun r5:List Tm×Int=>ab (!(r5.2==0)) (ret (aN,r5.2)) (Option.bind (ay 1099511627776 o.length [Br.mk f' r5.1].length) fun _=>fM hd k ret i t r1 r2 d m (aE t.kind) (o++[Br.mk f' r5.1]) (((p++[x]).length:Nat):Int))) (l,0)) fun e=>(fun r5:List Tm×Int=>ab (!(r5.2==0)) (ret (aN,r5.2)) (Option.bind (ay 1099511627776 o.length [Br.mk f' r5.1].length) fun _=>fM hd k ret i t r1 r2 d m (aE t.kind) (o++[Br.mk f' r5.1]) (((p++[x]).length:Nat):Int))) ([],e))) fun e=>ret (aN,e)) ?_
  rw [show cz (bg (i+d) x.face,(0:Int))=(aG fun d f=>bg (i+d) f) d x.face from rfl]
  rw [aX,z_,aM,aM]
  refine bJ (fun f' hf'=> ?_) fun e _=>rfl
  rw [pU,aS]
  by_cases h0:f'.length=0
  ·rw [if_pos h0,if_pos h0,aR,aM,ih (p++[x]) m o e4 hm' (by simp;omega)]
   exact bJ (fun _ _=>rfl) fun _ _=>rfl
  ·rw [if_neg h0,if_neg h0,hin f',aM]
   refine bJ (fun l hl=> ?_) fun e _=>rfl
   rw [aR,aM,aO (by simp;omega),ih (p++[x]) m (o++[Br.mk f' l]) e4 hm' (by simp;omega)]
   refine bJ (fun s _=> ?_) fun e _=>rfl
   rw [aR];simp
end
theorem W9 {i:Int} (hi:0≤i∧i<24) (t:Tm):OkT t→RowsT t→ ∀ {k:Nat} {d:Int} (ret:Tm×Int→Option S),Fd k (ar t)→0≤d→d+ar t<4611686018427386000→dR k t d i ret=ret (tE (aW (aG fun d f=>bg (i+d) f) (aG fun d f=>bg (i+d) f) d t)):=by
 induction t using d4 with
 |h t ih1 ih2=>
  intro ht hro k d ret hk hv hv'
  obtain ⟨q,rfl,hq,hf⟩:=hk.pos' (cS t)
  have hp:=cS t
  have hd0:0≤d∧d<4611686018427386000:=by omega
  obtain ⟨o1,o2,o3,o4,o5,o6,o7⟩:=ht.no
  have hmo:=ei t.kind
  have hQ: ∀y∈t.kids,∀b,0≤b∧b≤1→ ∀g:Tm×Int→Option S,dR q y (d+b) i g=g (tE (aW (aG fun d f=>bg (i+d) f) (aG fun d f=>bg (i+d) f) (d+b) y)):=fun y hy b h2 g=>
   ih1 y hy (ht.ki hy) (hro.ki hy) g (hf _ (cR hy)) (by omega) (by have:=cR hy;omega)
  have hQ': ∀b∈t.sys,∀y∈b.kids,∀g:Tm×Int→Option S,dR q y (d+aE t.kind) i g=g (tE (aW (aG fun d f=>bg (i+d) f) (aG fun d f=>bg (i+d) f) (d+aE t.kind) y)):=fun b hb y hy g=>
   ih2 b hb y hy ((ht.bi hb).2 y hy) ((hro.bi hb).2 y hy) g (hf _ (cQ hb hy)) (by omega) (by have:=cQ hb hy;omega)
  have hK: ∀g:List Tm×Int→Option S,lw (dR q) q g i t t.kids d q [] 0=_:=fun g=>W5 hq g hd0 hQ o6 t.kids [] q [] rfl (by have:4294967296≤q:=hq;omega) rfl
  have hS:=fun (r1:List Cl×Int) (r2:List Tm×Int)=>W7 (r1:=r1) (r2:=r2) hq ret hi hd0 ht hro hQ' t.sys [] q [] rfl (by have:4294967296≤q:=hq;omega) (Nat.le_refl _)
  have hS: ∀ (r1:List Cl×Int) (r2:List Tm×Int),fM (dR q) q ret i t r1 r2 d q (aE t.kind) [] 0=_:=hS
  have hcase: ∀ (r1:List Cl×Int) (r2:List Tm×Int),ab (t.kind==15) (fM (dR q) q ret i t r1 r2 d q 1 [] 0) (fM (dR q) q ret i t r1 r2 d q 0 [] 0)=eE (aX (aG fun d f=>bg (i+d) f) (aG fun d f=>bg (i+d) f) d t.kind t.sys) (fun s=>ret (.mk t.kind t.n t.name r1.1 r2.1 s,0)) fun e=>ret (aN,e):=by
   intro r1 r2
   have:=hS r1 r2
   simp only [List.nil_append] at this
   rw [←this,cx]
   unfold aE
   by_cases h15:t.kind=15
   ·rw [if_pos h15,if_pos (by rw [h15];rfl)]
   ·rw [if_neg h15,if_neg (by rw [beq_iff_eq];exact h15)]
  obtain ⟨z,hz,hrow⟩:=W8 hq hi hd0 hro (fun r1=>ab (!(r1.2==0)) (ret (aN,r1.2)) (eE (bv (aG fun d f=>bg (i+d) f) (aG fun d f=>bg (i+d) f) d t.kind 0 t.kids) (fun l=>(fun r2:List Tm×Int=>ab (!(r2.2==0)) (ret (aN,r2.2)) (eE (aX (aG fun d f=>bg (i+d) f) (aG fun d f=>bg (i+d) f) d t.kind t.sys) (fun s=>ret (.mk t.kind t.n t.name r1.1 r2.1 s,0)) fun e=>ret (aN,e))) (l,0)) fun e=>(fun r2:List Tm×Int=>ab (!(r2.2==0)) (ret (aN,r2.2)) (eE (aX (aG fun d f=>bg (i+d) f) (aG fun d f=>bg (i+d) f) d t.kind t.sys) (fun s=>ret (.mk t.kind t.n t.name r1.1 r2.1 s,0)) fun e=>ret (aN,e))) ([],e)))
  simp only [dR,FN,af hq,aq,BN,FH,hK,hcase,List.nil_append,List.length_nil]
  refine Eq.trans hrow ?_
  rw [fU _ ret,Aa,←hz]
  refine Eq.trans (uX (z:=z) (fun r'=>eE (bv (aG fun d f=>bg (i+d) f) (aG fun d f=>bg (i+d) f) d t.kind 0 t.kids) (fun l=>(fun r2:List Tm×Int=>ab (!(r2.2==0)) (ret (aN,r2.2)) (eE (aX (aG fun d f=>bg (i+d) f) (aG fun d f=>bg (i+d) f) d t.kind t.sys) (fun s=>ret (.mk t.kind t.n t.name r' r2.1 s,0)) fun e=>ret (aN,e))) (l,0)) fun e=>(fun r2:List Tm×Int=>ab (!(r2.2==0)) (ret (aN,r2.2)) (eE (aX (aG fun d f=>bg (i+d) f) (aG fun d f=>bg (i+d) f) d t.kind t.sys) (fun s=>ret (.mk t.kind t.n t.name r' r2.1 s,0)) fun e=>ret (aN,e))) ([],e)) fun e=>ret (aN,e)) ?_
  rw [aM]
  refine bJ (fun r' _=> ?_) fun e _=>rfl
  refine Eq.trans (yS (β:=Option S) (γ:=Unit) (bv (aG fun d f=>bg (i+d) f) (aG fun d f=>bg (i+d) f) d t.kind 0 t.kids) (fun e he=>Rr lR lR he) [] (fun l=>eE (aX (aG fun d f=>bg (i+d) f) (aG fun d f=>bg (i+d) f) d t.kind t.sys) (fun s=>ret (.mk t.kind t.n t.name r' l s,0)) fun e=>ret (aN,e)) fun e=>ret (aN,e)) ?_
  simp only [aM,aR]
end Go.Proofs.YtapmagaejigpnaaGreatDoor
namespace Go.Proofs.YtapmagaejigpnaaGreatDoor
open Go PI
set_option linter.unusedVariables false
set_option linter.unusedSimpArgs false
set_option maxRecDepth 20000
variable {S:Type} {k:Nat}
def wF (i:Int):Int→List Cl→List Cl:=fun d f=>bg (i+d) f
def bZ (i:Int) (r:List Cl) (fa:Bool):dO:=de (a8 i r fa) (wF i)
theorem tn (i:Int) (r:List Cl) (fa:Bool) (d:Int) (f:List Cl):bZ i r fa d f=bE (a8 i r fa d f) fun m=> .ok (bg (i+d) m):=rfl
theorem oT {i:Int} {r:List Cl} {fa:Bool}: ∀d f e,bZ i r fa d f= .error e→0<e∧e≤1000:=fun d f e h=>by
 rw [tn] at h
 rcases a_ h with h|⟨_,_,h⟩
 ·exact zG h
 ·cases h
section
variable {hd:Tm→Int→List Cl→Int→Bool→(Tm→Option S)→Option S} {i d:Int} {r:List Cl} {t:Tm}
theorem abW (hk:Fu k) (ret:Tm→Option S) (rec1:List (Br Tm)→Int→Option S) {v18:Int} {r3:List Cl} {ks:List Tm} {o:List (Br Tm)} {x:Br Tm} (hi:al t.sys v18=some x)
  (hd0:0≤d∧d<4611686018427386000) (hQ: ∀y∈x.kids,∀g,hd y i r (d+aE t.kind) true g=g (rE (aW (bZ i r false) (bZ i r true) (d+aE t.kind) y))) (hkd: ∀y∈x.kids,0≤y.kind) (hl:x.kids.length<1073741824) (ho:o.length<1073741824) {f'':List Cl}:
  ∀ (r' p:List Tm) (m:Nat) (acc:List Tm),x.kids=p++r'→r'.length<m→acc.length=p.length→
  kc hd k ret rec1 t r3 ks o i v18 r d true m f'' acc (p.length:Int)=eE (bF (bZ i r false) (bZ i r true) d t.kind r') (fun l=>rec1 (o++[Br.mk f'' (acc++l)]) (IntKind.wrap .i64 (v18+1))) fun e=>ret (bp e):=by
 have hmo:=ei t.kind
 intro r'
 induction r' with
 |nil=>
  intro p m acc h hm ha
  obtain ⟨m,rfl,hm'⟩:=ak hm
  simp only [kc,wk,hi,Option.bind_some,aA h,ad,bF,aR,List.append_nil]
  rw [aO (by simp;omega)]
 |cons y r' ih=>
  intro p m acc h hm ha
  obtain ⟨m,rfl,hm'⟩:=ak hm
  obtain ⟨e1,e2,e3,e4⟩:=az h (by omega)
  have hpl:p.length<x.kids.length:=by rw [h];simp
  have hym:y∈x.kids:=by rw [h];simp
  have hy:=hQ y hym
  simp only [kc,wk,hi,e1,ae,e2,Option.bind_some,af hk,Fc,aq,bo (n:=d+aE t.kind) (by omega) (by omega),hy]
  refine Eq.trans (uo (fun e he=>(jz oT oT y he).1) (fun z hz=>by rw [G8 hz];exact hkd y hym) (fun z=>Option.bind (ay 1099511627776 acc.length [z].length) fun _=>kc hd k ret rec1 t r3 ks o i v18 r d true m f'' (acc++[z]) (IntKind.wrap .i64 ((p.length:Int)+1))) ret) ?_
  simp only [bF,aM,aR]
  refine bJ (fun t' ht'=> ?_) fun e _=>rfl
  rw [aO (by simp;omega),e3,ih (p++[y]) m (acc++[t']) e4 hm' (by simp;omega)]
  simp
theorem abV (hk:Fu k) (ret:Tm→Option S) (hi:0≤i∧i<24) (hr:RF r) {r3:List Cl} {ks:List Tm} (ht:OkT t) (hro:RowsT t) (hd0:0≤d∧d<4611686018427386000)
  (hQ: ∀b∈t.sys,∀y∈b.kids,∀g,hd y i r (d+aE t.kind) true g=g (rE (aW (bZ i r false) (bZ i r true) (d+aE t.kind) y))):
  ∀ (r' p:List (Br Tm)) (m:Nat) (o:List (Br Tm)),t.sys=p++r'→r'.length<m→o.length≤p.length→
  hU hd k ret t r3 ks i r d true m o (p.length:Int)=eE (aX (bZ i r false) (bZ i r true) d t.kind r') (fun l=>ret (.mk t.kind t.n t.name r3 ks (o++l))) fun e=>ret (bp e):=by
 obtain ⟨o1,o2,o3,o4,o5,o6,o7⟩:=ht.no
 intro r'
 induction r' with
 |nil=>
  intro p m o h hml ho
  obtain ⟨m,rfl,hm'⟩:=ak hml
  simp only [hU,rP,aA h,ad,aX,aR,List.append_nil]
 |cons x r' ih=>
  intro p m o h hml ho
  obtain ⟨m,rfl,hm'⟩:=ak hml
  obtain ⟨e1,e2,e3,e4⟩:=az h (by omega)
  have hx:x∈t.sys:=by rw [h];simp
  have hpl:p.length<t.sys.length:=by rw [h];simp
  have hb:=(ht.bi hx).1
  have hr0:=(hro.bi hx).1
  have hM:=fun f'':List Cl=>abW (f'':=f'') (r3:=r3) (ks:=ks) (o:=o) hk ret (hU hd k ret t r3 ks i r d true m) e2 hd0 (hQ x hx) (fun y hy=>((hro.bi hx).2 y hy).no.2.2) hb.2.2 (by omega) x.kids [] k [] rfl (by have:4294967296≤k:=hk;omega) rfl
  have hM: ∀f'':List Cl,kc hd k ret (hU hd k ret t r3 ks i r d true m) t r3 ks o i (p.length:Int) r d true k f'' [] 0=_:=hM
  simp only [hU,rP,e1,ae,e2,Option.bind_some,af hk,OJ hk hr0 hr hi (show 0≤d∧d<4611686018427387000 by omega),bo (n:=i+d) (by omega) (by omega),hM,e3,List.nil_append]
  rw [aX,z_,aM,aM,tn,aM,←nP]
  have hz:=nP i r true d x.face
  by_cases h0:(dM i r true d x.face).2=0
  ·have hrf:RF (dM i r true d x.face).1:=qx hr0 (hz.symm.trans (e_ h0))
   rw [aY,decide_eq_true h0,Bool.not_true,ad,e_ h0,aR,aR,pU,aS,Ow hk hrf]
   have hlen:=HD (j:=i+d) hrf
   by_cases hl:(dM i r true d x.face).1.length=0
   ·rw [if_pos hl,if_pos (hlen.2 hl),aR,aM,ih (p++[x]) m o e4 hm' (by simp;omega)]
    exact bJ (fun _ _=>rfl) fun _ _=>rfl
   ·rw [if_neg hl,if_neg (fun h=>hl (hlen.1 h)),aM]
    refine bJ (fun l _=> ?_) fun e _=>rfl
    rw [aR,aM,ih (p++[x]) m (o++[Br.mk (bg (i+d) (dM i r true d x.face).1) l]) e4 hm' (by simp;omega)]
    refine bJ (fun s _=> ?_) fun e _=>rfl
    rw [aR];simp
  ·have hze:cz (dM i r true d x.face)= .error (dM i r true d x.face).2:=d5 h0
   have hen:=zG (hz.symm.trans hze)
   rw [aY,decide_eq_false h0,Bool.not_false,ae,hze,jt hen];rfl
theorem abU (hk:Fu k) (ret:Tm→Option S) (hi:0≤i∧i<24) (hr:RF r) {r3:List Cl} (ht:OkT t) (hro:RowsT t) (hd0:0≤d∧d<4611686018427386000)
  (hQ: ∀y∈t.kids,∀b,0≤b∧b≤1→ ∀g,hd y i r (d+b) true g=g (rE (aW (bZ i r false) (bZ i r true) (d+b) y))) (hQ': ∀b∈t.sys,∀y∈b.kids,∀g,hd y i r (d+aE t.kind) true g=g (rE (aW (bZ i r false) (bZ i r true) (d+aE t.kind) y))):
  ∀ (r' p:List Tm) (m:Nat) (acc:List Tm),t.kids=p++r'→r'.length<m→acc.length=p.length→
  lN hd k ret t i r d true m r3 acc (p.length:Int)=eE (bv (bZ i r false) (bZ i r true) d t.kind p.length r') (fun l=>eE (aX (bZ i r false) (bZ i r true) d t.kind t.sys) (fun s=>ret (.mk t.kind t.n t.name r3 (acc++l) s)) fun e=>ret (bp e)) fun e=>ret (bp e):=by
 obtain ⟨o1,o2,o3,o4,o5,o6,o7⟩:=ht.no
 intro r'
 induction r' with
 |nil=>
  intro p m acc h hm ha
  obtain ⟨m,rfl,hm'⟩:=ak hm
  have hs:hU hd k ret t r3 acc i r d true k [] 0=_:=abV hk ret hi hr ht hro hd0 hQ' t.sys [] k [] rfl (by have:4294967296≤k:=hk;omega) (Nat.le_refl _)
  simp only [lN,rO,aA h,ad,bv,aR,List.append_nil,hs,List.nil_append]
 |cons y r' ih=>
  intro p m acc h hm ha
  obtain ⟨m,rfl,hm'⟩:=ak hm
  obtain ⟨e1,e2,e3,e4⟩:=az h (by omega)
  have hpl:p.length<t.kids.length:=by rw [h];simp
  have b2':=gO t.kind p.length
  have hym:y∈t.kids:=by rw [h];simp
  have hy:=hQ y hym (bQ t.kind p.length) b2'
  simp only [lN,rO,e1,ae,e2,Option.bind_some,af hk,E8 hk,aq,bo (n:=d+bQ t.kind p.length) (by omega) (by omega),hy]
  refine Eq.trans (uo (fun e he=>(jz oT oT y he).1) (fun z hz=>by rw [G8 hz];exact (hro.ki hym).no.2.2) (fun z=>Option.bind (ay 1099511627776 acc.length [z].length) fun _=>lN hd k ret t i r d true m r3 (acc++[z]) (IntKind.wrap .i64 ((p.length:Int)+1))) ret) ?_
  simp only [bv,aM,aR]
  refine bJ (fun t' ht'=> ?_) fun e _=>rfl
  rw [aO (by simp;omega),e3,ih (p++[y]) m (acc++[t']) e4 hm' (by simp;omega),show (p++[y]).length=p.length+1 by simp]
  simp
end
theorem ae7 {i:Int} {r:List Cl} (hi:0≤i∧i<24) (hr:RF r) (t:Tm):OkT t→RowsT t→ ∀ {k:Nat} {d:Int} (ret:Tm→Option S),Fd k (ar t)→0≤d→d+ar t<4611686018427386000→fH k t i r d true ret=ret (rE (aW (bZ i r false) (bZ i r true) d t)):=by
 induction t using d4 with
 |h t ih1 ih2=>
  intro ht hro k d ret hk hv hv'
  obtain ⟨q,rfl,hq,hf⟩:=hk.pos' (cS t)
  have hp:=cS t
  have hd0:0≤d∧d<4611686018427386000:=by omega
  obtain ⟨o1,o2,o3,o4,o5,o6,o7⟩:=ht.no
  have hmo:=ei t.kind
  have hr0:=hro.no.1
  have hQ: ∀y∈t.kids,∀b,0≤b∧b≤1→ ∀g:Tm→Option S,fH q y i r (d+b) true g=g (rE (aW (bZ i r false) (bZ i r true) (d+b) y)):=fun y hy b h2 g=>
   ih1 y hy (ht.ki hy) (hro.ki hy) g (hf _ (cR hy)) (by omega) (by have:=cR hy;omega)
  have hQ': ∀b∈t.sys,∀y∈b.kids,∀g:Tm→Option S,fH q y i r (d+aE t.kind) true g=g (rE (aW (bZ i r false) (bZ i r true) (d+aE t.kind) y)):=fun b hb y hy g=>
   ih2 b hb y hy ((ht.bi hb).2 y hy) ((hro.bi hb).2 y hy) g (hf _ (cQ hb hy)) (by omega) (by have:=cQ hb hy;omega)
  have h1:=fun r3:List Cl=>abU (r3:=r3) hq ret hi hr ht hro hd0 hQ hQ' t.kids [] q [] rfl (by have:4294967296≤q:=hq;omega) rfl
  have h1: ∀r3:List Cl,lN (fH q) q ret t i r d true q r3 [] 0=_:=h1
  simp only [fH,GF,af hq,OJ hq hr0 hr hi (show 0≤d∧d<4611686018427387000 by omega),bo (n:=i+d) (by omega) (by omega),ae,h1,List.nil_append,List.length_nil]
  have hfa: ∀fa:Bool,(if t.kind=14 then bZ i r true d t.r else bZ i r false d t.r)=bZ i r (t.kind==14) d t.r:=fun _=>by
   by_cases h:t.kind=14
   ·rw [if_pos h,h];rfl
   ·rw [if_neg h,show (t.kind==14)=false from by rw [beq_eq_false_iff_ne];exact h]
  rw [ku _ ret,Aa,hfa true,tn,aM,aM,←nP]
  have hz:=nP i r (t.kind==14) d t.r
  by_cases h0:(dM i r (t.kind==14) d t.r).2=0
  ·have hrf:RF (dM i r (t.kind==14) d t.r).1:=qx hr0 (hz.symm.trans (e_ h0))
   rw [aY,decide_eq_true h0,Bool.not_true,ad,e_ h0,aR,aR,Ow hq hrf]
   simp only [aM,aR]
  ·have hze:cz (dM i r (t.kind==14) d t.r)= .error (dM i r (t.kind==14) d t.r).2:=d5 h0
   have hen:=zG (hz.symm.trans hze)
   rw [aY,decide_eq_false h0,Bool.not_false,ae,hze,jt hen];rfl
def eL (i:Int) (r:List Cl) (t:Tm):Except Int Tm:=bE (cz (a7 r i 1)) fun s=>aW (bZ i s false) (bZ i s true) 0 t
theorem uU {i:Int} {r:List Cl} {t:Tm} {e:Int} (h:eL i r t= .error e):0<e∧e≤1000:=by
 rcases a_ h with h|⟨s,_,h⟩
 ·obtain ⟨h1,rfl⟩:=uW h
  have:=lQ r i 1
  unfold EN at this;omega
 ·exact jz oT oT t h
theorem Q8 {i:Int} {r:List Cl} {t y:Tm} (h:eL i r t= .ok y):y.kind=t.kind:=by
 obtain ⟨s,_,h⟩:=aK h
 exact G8 h
theorem Oj (hk:F3 k) {t:Tm} (ht:Fm t) {i:Int} (hi:0≤i∧i<24) {r:List Cl} (hr:RF r) (ret:Tm×Int→Option S):og k t i r ret=ret (tE (eL i r t)):=by
 have l2:=hr.len
 have hdp:=ht.dep
 simp only [og,Pt,af hk.fu,aq,BQ,PD,uD ht.ok (ht.fd hk) (show ar t<1099511627776 by omega),ht.2,aeI hk.fu,qE hk.fu hr.2 hr.lt,hr.right,decide_eq_true hi,uH hk.fu hr.2 (show r.length<1073741824 by omega) (show aF i by unfold aF;omega) (show aF 1 by unfold aF;omega),BI,Pw,BJ,Pz,BL,PA,BH,Pv]
 rw [show ((0:Int)==0)=true from rfl,Bool.not_true,ad,ad,ad,ad]
 rw [fU _ ret]
 unfold eL
 rw [aM]
 by_cases h0:(a7 r i 1).2=0
 ·have hs:=gx h0
  rw [aY,decide_eq_true h0,Bool.not_true,ad,e_ h0,aR,adC hi hs t ht.ok ht.rows _ (ht.fd hk) (by omega) (by omega)]
  refine Eq.trans (uS (α:=Option S) (β:=Unit) _ (fun e he=>jz js js t he) (fun x=>dR k x 0 i fun r6=>ret (r6.1,r6.2)) fun e=>ret (aN,e)) ?_
  have htw:=agI (fo:=a8 i (a7 r i 1).1 false) (fa:=a8 i (a7 r i 1).1 true) (G:=wF i) (fun d f g hf h=>qx hf h) (fun d f hf=>HD hf) t 0 ht.rows
  show _=eE (aW (de (a8 i (a7 r i 1).1 false) (wF i)) (de (a8 i (a7 r i 1).1 true) (wF i)) 0 t) _ _
  rw [←htw,aM]
  refine bJ (fun x hx=> ?_) fun e _=>rfl
  have hw:=Ru (fun d f g hf h=>qx hf h) (fun d f g hf h=>qx hf h) (fun d=>NP) t 0 x hx
  obtain ⟨w1,w2,w3,w4⟩:=hw
  obtain ⟨hox,hrx⟩:=w4 ht.ok ht.rows
  rw [W9 hi x hox hrx _ (hk.fd (by omega)) (by omega) (by omega)]
  exact fU _ ret
 ·rw [aY,decide_eq_false h0,Bool.not_false,ae,d5 h0];rfl
theorem Oa (hk:F3 k) {t:Tm} (ht:Fm t) {i:Int} (hi:0≤i∧i<24) {r:List Cl} (hr:RF r) (ret:Tm→Option S):oE k t i r ret=ret (rE (eL i r t)):=by
 have l2:=hr.len
 have hdp:=ht.dep
 simp only [oE,QE,af hk.fu,aq,uK hk.fu hr.2 (show r.length<1073741824 by omega) (show aF i by unfold aF;omega) (show aF 1 by unfold aF;omega)]
 rw [decide_eq_false (by have:=ht.rows.no.2.2;omega),ad,ku _ ret]
 unfold eL
 rw [aM]
 by_cases h0:(a7 r i 1).2=0
 ·have hs:=gx h0
  rw [aY,decide_eq_true h0,Bool.not_true,ad,e_ h0,aR,ae7 hi hs t ht.ok ht.rows _ (ht.fd hk) (by omega) (by omega),ku _ ret]
 ·have hze:cz (a7 r i 1)= .error (a7 r i 1).2:=d5 h0
  have hen:0<(a7 r i 1).2∧(a7 r i 1).2≤1000:=by
   have:=lQ r i 1
   unfold EN at this;omega
  rw [aY,decide_eq_false h0,Bool.not_false,ae,hze,jt hen];rfl
end Go.Proofs.YtapmagaejigpnaaGreatDoor
namespace Go.Proofs.YtapmagaejigpnaaGreatDoor
open Go PI
set_option linter.unusedVariables false
set_option linter.unusedSimpArgs false
set_option maxRecDepth 20000
variable {S:Type} {k:Nat}
def In (k:Nat) (t:Tm):Prop:=OkT t∧Fd k (ar t)∧ax t<1073741824
theorem In.dep {t:Tm} (h:In k t):ar t<1099511627776:=by have:=gm t;have:=h.2.2;omega
theorem Fm.isIn {t:Tm} (h:Fm t) (hk:F3 k):In k t:=⟨h.ok,h.fd hk,by have:=h.siz;omega⟩
def bm:List Tm→Int
 |[]=>0
 |t::l=>if cG t=0 then bm l else cG t
theorem dW {l:List Tm} (hl: ∀t∈l,OkT t) (h:bm l=0): ∀t∈l,Fm t:=by
 induction l with
 |nil=>intro t h;cases h
 |cons x l ih=>
  intro t ht
  unfold bm at h
  split at h
  ·next h0=>
   rcases List.mem_cons.1 ht with rfl|ht
   ·exact ⟨hl _ (by simp),h0⟩
   ·exact ih (fun t ht=>hl t (by simp [ht])) h t ht
  ·next h0=>exact absurd h h0
theorem ahE (l:List Tm):0≤bm l∧bm l≤1000:=by
 induction l with
 |nil=>unfold bm;omega
 |cons x l ih=>
  unfold bm
  split
  ·exact ih
  ·exact IF x
theorem ma (c e:Int) (ret:Int→Option S):gc k e c ret=ret (if c=0 then e else c):=by
 simp only [gc,Ph,aY,aS]
 split<;>rfl
theorem aaC (hk:Fu k) (ret:Int→Option S) {l:List Tm} (hl: ∀t∈l,In k t) (hlen:l.length<1000):
  ∀ (r p:List Tm) (m:Nat) (b:Int),l=p++r→r.length<m→oW k ret l m b (p.length:Int)=ret (if b=0 then bm r else b):=by
 intro r
 induction r with
 |nil=>
  intro p m b h hm
  obtain ⟨m,rfl,hm'⟩:=ak hm
  simp only [oW,vd,aA h,ad,bm]
  split
  ·next h=>rw [h]
  ·rfl
 |cons x r ih=>
  intro p m b h hm
  obtain ⟨m,rfl,hm'⟩:=ak hm
  obtain ⟨e1,e2,e3,e4⟩:=az h (by omega)
  have hx:=hl x (by rw [h];simp)
  simp only [oW,vd,e1,ae,e2,Option.bind_some,af hk,aq,uD hx.1 hx.2.1 hx.dep,ma,e3,ih (p++[x]) m _ e4 hm',bm]
  congr 1
  have:=IF x
  by_cases hb:b=0
  ·rw [if_pos hb,if_pos hb]
  ·rw [if_neg hb,if_neg hb,if_neg hb]
theorem qD (hk:F3 k) {l:List Tm} (hl: ∀t∈l,In k t) (hlen:l.length<1000) (ret:Int→Option S):gQ k l ret=ret (bm l):=by
 simp only [gQ,Fw]
 have:=aaC hk.fu ret hl hlen l [] k 0 rfl (by have:4294968296≤k:=hk;omega)
 exact this
theorem ab2 (hk:Fu k) (ret:Int→Option S) {l:List Tm} (hl: ∀t∈l,In k t) (hlen:l.length<1000):
  ∀ (r p:List Tm) (m:Nat),l=p++r→r.length<m→pJ k ret l m (p.length:Int)=ret (bm r):=by
 intro r
 induction r with
 |nil=>
  intro p m h hm
  obtain ⟨m,rfl,hm'⟩:=ak hm
  simp only [pJ,wm,aA h,ad,bm]
 |cons x r ih=>
  intro p m h hm
  obtain ⟨m,rfl,hm'⟩:=ak hm
  obtain ⟨e1,e2,e3,e4⟩:=az h (by omega)
  have hx:=hl x (by rw [h];simp)
  simp only [pJ,wm,e1,ae,e2,Option.bind_some,af hk,aq,Fb hx.1 hx.2.1 (show ax x<1099511627776 by have:=hx.2.2;omega),e3,ih (p++[x]) m e4 hm',bm,aY]
  by_cases h0:cG x=0
  ·rw [decide_eq_true h0,if_pos h0,Bool.not_true,ad]
  ·rw [decide_eq_false h0,if_neg h0,Bool.not_false,ae]
theorem E0 (hk:F3 k) {l:List Tm} (hl: ∀t∈l,In k t) (hlen:l.length<1000) (ret:Int→Option S):gV k l ret=ret (bm l):=by
 simp only [gV,GM]
 exact ab2 hk.fu ret hl hlen l [] k rfl (by have:4294968296≤k:=hk;omega)
def cA (r:List Cl) (line:Tm):Except Int Tm:=bE (bL 0 2 0 1 line) (eL 0 r)
theorem fZ {r:List Cl} {t:Tm} {e:Int} (h:cA r t= .error e):0<e∧e≤1000:=by
 rcases a_ h with h|⟨s,_,h⟩
 ·exact kg t h
 ·exact uU h
theorem Be {r:List Cl} {t y:Tm} (h:cA r t= .ok y):y.kind=t.kind:=by
 obtain ⟨s,h1,h⟩:=aK h
 rw [Q8 h,np h1]
theorem IC {i:Int} {r:List Cl} {fa:Bool} {d:Int} {f g:List Cl} (hf:RF f) (h:bZ i r fa d f= .ok g):RF g:=by
 rw [tn] at h
 obtain ⟨m,h1,h⟩:=aK h
 injection h with h;subst h
 exact WU (qx hf h1).len
theorem Zj {i:Int} {r:List Cl} {fa:Bool} (d:Int):bZ i r fa d []= .ok []:=by
 rw [tn,NP,ao];rfl
theorem Q9 {i:Int} {r:List Cl} {t y:Tm} (h:eL i r t= .ok y):Wk t y:=by
 obtain ⟨s,_,h⟩:=aK h
 exact Ru (fun d f g hf h=>IC hf h) (fun d f g hf h=>IC hf h) Zj t 0 y h
theorem Bf {r:List Cl} {t y:Tm} (ht:Fm t) (h:cA r t= .ok y):OkT y∧RowsT y∧ar y≤200∧ax y≤20000:=by
 obtain ⟨s,h1,h⟩:=aK h
 have hs:=nn (by omega) ht h1
 obtain ⟨w1,w2,w3,w4⟩:=Q9 h
 have h4:=w4 hs.ok hs.rows
 have:=hs.dep;have:=hs.siz
 exact ⟨h4.1,h4.2,by omega,by omega⟩
section
variable {c:Int}
theorem afu (hc:c≠0) (hk:F3 k) (f:List Cl) (ret:List Cl×Int→Option S):iO k f c ret=ret ([],c):=by
 simp only [iO,FB,af hk.fu,cr,eK,aY,decide_eq_false hc,Bool.not_false,ae]
theorem OH (hc:c≠0) (hk:F3 k) (f g:List Cl) (ret:List Cl×Int→Option S):kM k f g c ret=ret ([],c):=by
 simp only [kM,FA,af hk.fu,cr,eK,aY,decide_eq_false hc,Bool.not_false,ae]
theorem zJ (hc:c≠0) (hk:F3 k) (l:Tm) (r:List Cl) (ret:Tm×Int→Option S):gR k l r c ret=ret (aN,c):=by
 simp only [gR,Fy,af hk.fu,cr,eK,aY,decide_eq_false hc,Bool.not_false,ae];rfl
theorem nN (hc:c≠0) (hk:F3 k) (l:Tm) (a b:Int) (ret:Tm×Int→Option S):co k l a b c ret=ret (aN,c):=by
 simp only [co,FC,af hk.fu,cr,eK,aY,decide_eq_false hc,Bool.not_false,ae];rfl
theorem it (hc:c≠0) (hk:F3 k) (l:Tm) (ret:Tm×Int×Int→Option S):cO k l c ret=ret (aN,c,c):=by
 simp only [cO,Fz,af hk.fu,cr,eK,aY,decide_eq_false hc,Bool.not_false,ae,ad];rfl
end
theorem OW (hk:F3 k) {f:List Cl} (hf:am f) (hl:f.length<1073741824) (ret:List Cl×Int→Option S):iO k f 0 ret=ret (a7 f 0 1):=by
 simp only [iO,FB,af hk.fu,cr,eK,uH hk.fu hf hl (show aF 0 by unfold aF;omega) (show aF 1 by unfold aF;omega),ma,if_true]
 rfl
theorem ae3 (hk:F3 k) {f g:List Cl} (hf:am f) (hg:am g) (h1:f.length<1073741824) (h2:g.length<1073741824) (ret:List Cl×Int→Option S):kM k f g 0 ret=ret (ee f g):=by
 simp only [kM,FA,af hk.fu,cr,eK,aeN hk.fu hf hg h1 h2,ma,if_true]
 rfl
theorem Fg (hk:F3 k) {t:Tm} (ht:Fm t) {a b:Int} (ha:0≤a∧a≤1000000) (hb:0≤b∧b<9223372036854775808) (ret:Tm×Int→Option S):co k t a b 0 ret=ret (tE (aD a b t)):=by
 simp only [co,FC,af hk.fu,cr,eK,aq,aeW hk ht ha hb,ma,if_true]
 rfl
theorem E2 (hk:F3 k) {t:Tm} (ht:Fm t) {r:List Cl} (hr:RF r) (ret:Tm×Int→Option S):gR k t r 0 ret=ret (tE (cA r t)):=by
 simp only [gR,Fy,af hk.fu,cr,eK,aq,aeX hk ht (show (0:Int)≤1∧(1:Int)≤24 by omega) (show (0:Int)≤2∧(2:Int)<9223372036854775808 by omega),ma,if_true]
 rw [show ((0:Int)==0)=true from rfl,Bool.not_true,ad,fU _ ret]
 unfold cA
 rw [aM]
 cases hx:bL 0 2 0 1 t with
 |error e=>
  have:=kg t hx
  show ab (!(e==0)) (ret (aN,e)) _=_
  rw [aY,decide_eq_false (by omega),Bool.not_false,ae];rfl
 |ok y=>
  have hy:=nn (by omega) ht hx
  show ab (!((0:Int)==0)) _ (og k y 0 r fun r5=>ret (r5.1,if (0:Int)=0 then r5.2 else 0))=_
  rw [show ((0:Int)==0)=true from rfl,Bool.not_true,ad,Oj hk hy (by omega) hr,aR]
  exact fU _ ret
theorem Ox (hk:F3 k) {t:Tm} (ht:In k t) (ret:Tm×Int×Int→Option S):cO k t 0 ret=ret (if cG t=0 then (t,0,0) else (aN,cG t,cG t)):=by
 simp only [cO,Fz,af hk.fu,cr,eK,aq,uD ht.1 ht.2.1 ht.dep,ma,if_true]
 rw [show ((0:Int)==0)=true from rfl,ae,aY]
 by_cases h0:cG t=0
 ·rw [decide_eq_true h0,if_pos h0,Bool.not_true,ad,h0]
 ·rw [decide_eq_false h0,if_neg h0,Bool.not_false,ae];rfl
def jF (line:Tm) (phi:List Cl) (a:Tm) (en:Cl) (r:List Cl):Except Int Tm:=
 bE (cz (a7 phi 0 1)) fun f1=>bE (cz (ee f1 [en])) fun f=>bE (cA r line) fun l=>bE (aD 0 1 a) fun a'=> .ok (.mk 14 0 ByteArray.empty f [l,a'] [])
def eD (x:Except Int Tm):Except Int Tm:=bE x fun t=>if cG t=0 then .ok t else .error (cG t)
def iE (line:Tm) (phi:List Cl) (a:Tm) (en:Cl) (r:List Cl):Except Int Tm:=
 if bm [line,a]=0 then if bD phi then eD (jF line phi a en r) else .error 2 else .error (bm [line,a])
theorem I0 (f g:List Cl):EN (ee f g).2:=by
 unfold ee
 split
 ·exact yu _ _
 ·exact jU
theorem ZL {f g:List Cl} (hf:am f) (hg:am g) (h:(ee f g).2=0):RFa (ee f g).1:=by
 unfold ee at h ⊢
 split
 ·next hc=>
  rw [if_pos hc] at h
  rw [Bool.and_eq_true] at hc
  exact tv ((gA hf).1 hc.1) ((gA hg).1 hc.2) h
 ·next hc=>rw [if_neg hc] at h;exact absurd h (by decide)
theorem qI {z:List Cl×Int} (hz:EN z.2) {e:Int} (h:cz z= .error e):0<e∧e≤1000:=by
 obtain ⟨h1,rfl⟩:=uW h
 unfold EN at hz;omega
theorem Hg {line:Tm} {phi:List Cl} {a:Tm} {en:Cl} {r:List Cl} {e:Int} (h:jF line phi a en r= .error e):0<e∧e≤1000:=by
 rcases a_ h with h|⟨_,_,h⟩
 ·exact qI (lQ _ _ _) h
 rcases a_ h with h|⟨_,_,h⟩
 ·exact qI (I0 _ _) h
 rcases a_ h with h|⟨_,_,h⟩
 ·exact fZ h
 rcases a_ h with h|⟨_,_,h⟩
 ·exact b_ h
 ·cases h
theorem u_ (hk:F3 k) {line:Tm} {phi:List Cl} {a:Tm} {en:Cl} {r:List Cl} (hl:Fm line) (ha:Fm a) (hp:RF phi) (he:aU en) {t:Tm} (h:jF line phi a en r= .ok t):In k t∧t.kind=14:=by
 obtain ⟨f1,h1,h⟩:=aK h
 obtain ⟨f,h2,h⟩:=aK h
 obtain ⟨l,h3,h⟩:=aK h
 obtain ⟨a',h4,h⟩:=aK h
 injection h with h;subst h
 obtain ⟨g1,rfl⟩:=me h1
 obtain ⟨g2,rfl⟩:=me h2
 have hf1:=gx g1
 have hf:=(ZL hf1.2 (fun c hc=>by simp at hc;subst hc;exact he) g2).1
 obtain ⟨l1,l2,l3,l4⟩:=Bf hl h3
 have ha':=qJ (by omega) ha h4
 have:=hf.len;have:=ha'.dep;have:=ha'.siz
 refine ⟨⟨?_,hk.fd ?_, ?_⟩,rfl⟩
 ·rw [OkT,bw,bw,bw,bu]
  refine ⟨⟨by unfold aF;omega,by unfold aF;omega,by show 0<_;omega,hf.2,by omega,by simp,by simp⟩,⟨l1,ha'.ok,trivial⟩,trivial⟩
 ·rw [ar,aP,aP,aP,bh];omega
 ·rw [ax,aw,aw,aw,aI];omega
theorem On (hk:F3 k) {line a:Tm} {phi r:List Cl} {en:Cl} (hl:In k line) (ha:In k a) (hp:am phi) (hpl:phi.length<1073741824) (he:aU en) (hr:RF r) (ret:Tm×Int→Option S):sg k line phi a en r ret=ret (tE (iE line phi a en r)):=by
 have hin: ∀t∈[line,a],In k t:=fun t ht=>by
  simp at ht
  rcases ht with rfl|rfl
  ·exact hl
  ·exact ha
 have hen:am [en]:=fun c hc=>by simp at hc;subst hc;exact he
 have bad: ∀c:Int,c≠0→(iO k phi c fun r4=>kM k r4.1 [en] r4.2 fun r5=>gR k line r r5.2 fun r6=>co k a 0 1 r6.2 fun r7=>
   bt k 14 [r6.1,r7.1] fun r8=>cO k (Tm.mk r8.1 r8.2.1 r8.2.2.1 r5.1 r8.2.2.2 []) r7.2 fun r9=>ret (r9.1,r9.2.1))=ret (aN,c):=by
  intro c hc
  simp only [afu hc hk,OH hc hk,zJ hc hk,nN hc hk,bt,fz,it hc hk]
 simp only [sg,Pg,af hk.fu,aq,qD hk hin (by simp),uI hk.fu hp (show phi.length<2147483648 by omega),ma]
 unfold iE
 by_cases h0:bm [line,a]=0
 ·simp only [h0,if_true]
  have hfm:=dW (fun t ht=>(hin t ht).1) h0
  have hl':=hfm line (by simp)
  have ha':=hfm a (by simp)
  cases hph:bD phi with
  |false=>
   rw [Bool.not_false,ae,if_neg (show ¬ (false=true) by decide)]
   exact bad 2 (by decide)
  |true=>
   have hrf:=(gA hp).1 hph
   rw [Bool.not_true,ad,if_pos (show true=true from rfl),OW hk hp hpl,fU _ ret]
   unfold eD
   rw [aM]
   have hal: ∀t,jF line phi a en r= .ok t→In k t:=fun t h=>(u_ hk hl' ha' hrf.1 he h).1
   revert hal
   unfold jF
   intro hal
   by_cases h1:(a7 phi 0 1).2=0
   ·have hf1:=gx h1
    have hlen1:=hf1.len
    rw [e_ h1,ao] at hal ⊢
    rw [h1,ae3 hk hf1.2 hen (by omega) (by simp)]
    by_cases h2:(ee (a7 phi 0 1).1 [en]).2=0
    ·rw [e_ h2,ao] at hal ⊢
     rw [h2,E2 hk hl' hr]
     cases h3:cA r line with
     |error e=>
      have hc:=(fZ h3).1
      show co k a 0 1 e _=ret (aN,e)
      simp only [nN (show e≠0 by omega) hk,bt,fz,it (show e≠0 by omega) hk]
     |ok l=>
      rw [h3,ao] at hal
      show co k a 0 1 0 _=_
      rw [Fg hk ha' (by omega) (by omega),ao]
      cases h4:aD 0 1 a with
      |error e=>
       have hc:=(b_ h4).1
       show bt k 14 _ _=ret (aN,e)
       simp only [bt,fz]
       show cO k _ e _=_
       simp only [it (show e≠0 by omega) hk]
      |ok a'=>
       rw [h4,ao] at hal
       show bt k 14 _ _=_
       simp only [bt,fz]
       show cO k (Tm.mk 14 0 ByteArray.empty (ee (a7 phi 0 1).1 [en]).1 [l,a'] []) 0 _=_
       rw [Ox hk (hal _ rfl),ao,aR]
       by_cases h5:cG (Tm.mk 14 0 ByteArray.empty (ee (a7 phi 0 1).1 [en]).1 [l,a'] [])=0
       ·rw [if_pos h5,if_pos h5];rfl
       ·rw [if_neg h5,if_neg h5];rfl
    ·rw [d5 h2]
     show _=ret (aN,(ee (a7 phi 0 1).1 [en]).2)
     simp only [zJ h2 hk,nN h2 hk,bt,fz,it h2 hk]
   ·rw [d5 h1]
    show _=ret (aN,(a7 phi 0 1).2)
    simp only [OH h1 hk,zJ h1 hk,nN h1 hk,bt,fz,it h1 hk]
 ·simp only [if_neg h0]
  cases bD phi with
  |false=>rw [Bool.not_false,ae];exact bad _ h0
  |true=>rw [Bool.not_true,ad];exact bad _ h0
theorem EZ (hk:F3 k) {t:Tm} (ht:Fm t) {r:List Cl} (hr:RF r) (ret:Tm→Option S):jO k t r ret=ret (rE (cA r t)):=by
 simp only [jO,QO,af hk.fu,aq,ae6 hk ht (show (0:Int)≤1∧(1:Int)≤24 by omega) (show (0:Int)≤2∧(2:Int)<9223372036854775808 by omega)]
 rw [decide_eq_false (by have:=ht.rows.no.2.2;omega),ad,ku _ ret]
 unfold cA
 rw [aM]
 cases hx:bL 0 2 0 1 t with
 |error e=>
  have:=kg t hx
  show ab (!(e==0)) (d_ k e _) _=ret (bp e)
  rw [aY,decide_eq_false (by omega),Bool.not_false,ae,jt this];rfl
 |ok y=>
  have hy:=nn (by omega) ht hx
  show ab (!((0:Int)==0)) _ (oE k y 0 r fun r3=>ret r3)=_
  rw [show ((0:Int)==0)=true from rfl,Bool.not_true,ad,Oa hk hy (by omega) hr,aR]
  exact ku _ ret
theorem Jl (hk:Fu k) (ret:Tm→Option S) {kd:Int} {l:List Tm} (hlen:l.length<1000):
  ∀ (r p:List Tm) (m:Nat),l=p++r→r.length<m→pI k ret kd l m (p.length:Int)=ret (match r.find? fun x=>decide (x.kind<0) with|some x=>x|none=> .mk kd 0 ByteArray.empty [] l []):=by
 intro r
 induction r with
 |nil=>
  intro p m h hm
  obtain ⟨m,rfl,hm'⟩:=ak hm
  simp only [pI,wl,aA h,ad];rfl
 |cons x r ih=>
  intro p m h hm
  obtain ⟨m,rfl,hm'⟩:=ak hm
  obtain ⟨e1,e2,e3,e4⟩:=az h (by omega)
  simp only [pI,wl,e1,ae,e2,Option.bind_some,aq,e3,ih (p++[x]) m e4 hm']
  rw [List.find?_cons]
  cases decide (x.kind<0) with
  |true=>rw [ae]
  |false=>rw [ad]
theorem Ol (hk:F3 k) {kd:Int} {x y:Except Int Tm} (hx: ∀e,x= .error e→0<e) (hx': ∀t,x= .ok t→0≤t.kind) (hy: ∀e,y= .error e→0<e) (hy': ∀t,y= .ok t→0≤t.kind) (ret:Tm→Option S):
  bV k kd (rE x) (rE y) ret=ret (rE (bE x fun a=>bE y fun b=> .ok (.mk kd 0 ByteArray.empty [] [a,b] []))):=by
 simp only [bV,QV,af hk.fu,aq,oF,zZ]
 have:=Jl hk.fu ret (kd:=kd) (l:=[rE x,rE y]) (by simp) [rE x,rE y] [] k rfl (by have:4294968296≤k:=hk;simp;omega)
 refine Eq.trans this ?_
 congr 1
 rw [List.find?_cons,List.find?_cons]
 cases x with
 |error e=>rw [show rE (.error e)=bp e from rfl,g6 (hx e rfl)];rfl
 |ok a=>
  rw [show rE (.ok a)=a from rfl,decide_eq_false (by have:=hx' a rfl;omega),ao]
  cases y with
  |error e=>rw [show rE (.error e)=bp e from rfl,g6 (hy e rfl)];rfl
  |ok b=>rw [show rE (.ok b)=b from rfl,decide_eq_false (by have:=hy' b rfl;omega)];rfl
theorem Rj {a b:Int} {t y:Tm} (h:aD a b t= .ok y):y.kind=t.kind:=by
 obtain ⟨s,h1,h⟩:=aK h
 rw [np h,np h1]
theorem N_ (hk:F3 k) {line a:Tm} {phi r:List Cl} {en:Cl} (hl:Fm line) (ha:Fm a) (hp:RF phi) (he:aU en) (hr:RF r) (ret:Tm→Option S):sQ k line phi a en r ret=ret (rE (jF line phi a en r)):=by
 have hplen:=hp.len
 have hen:am [en]:=fun c hc=>by simp at hc;subst hc;exact he
 have htwo: ∀g:Tm→Option S,bV k 14 (rE (cA r line)) (rE (aD 0 1 a)) g=_:=fun g=>Ol hk (fun e h=>(fZ h).1) (fun t h=>by rw [Be h];exact hl.rows.no.2.2) (fun e h=>(b_ h).1) (fun t h=>by rw [Rj h];exact ha.rows.no.2.2) g
 simp only [sQ,QG,af hk.fu,aq,uK hk.fu hp.2 (show phi.length<1073741824 by omega) (show aF 0 by unfold aF;omega) (show aF 1 by unfold aF;omega),EZ hk hl hr,iw hk ha (show (0:Int)≤0∧(0:Int)≤1000000000 by omega) (show (0:Int)≤1∧(1:Int)<9223372036854775808 by omega),htwo]
 rw [ku (jF line phi a en r) ret]
 unfold jF
 rw [aM]
 by_cases h1:(a7 phi 0 1).2=0
 ·have hf1:=gx h1
  have hlen1:=hf1.len
  rw [aY,decide_eq_true h1,ae,e_ h1,aR,ON hk.fu hf1.2 hen (by omega) (by simp),aM]
  by_cases h2:(ee (a7 phi 0 1).1 [en]).2=0
  ·rw [aY,decide_eq_true h2,Bool.not_true,ad,e_ h2,aR,aM]
   cases h3:cA r line with
   |error e=>rw [dx,show rE (.error e)=bp e from rfl,show decide ((bp e).kind≥0)=false from decide_eq_false (by have:=(fZ h3).1;show ¬ (-e≥0);omega),ad];rfl
   |ok l=>
    rw [ao,aR,aM]
    cases h4:aD 0 1 a with
    |error e=>rw [dx,show rE (.error e)=bp e from rfl,show decide ((bp e).kind≥0)=false from decide_eq_false (by have:=(b_ h4).1;show ¬ (-e≥0);omega),ad];rfl
    |ok a'=>rfl
  ·rw [aY,decide_eq_false h2,Bool.not_false,ae,d5 h2,jt (qI (I0 _ _) (d5 h2))];rfl
 ·rw [aY,decide_eq_false h1,ad,Bool.not_false,ae,d5 h1,jt (qI (lQ _ _ _) (d5 h1))];rfl
theorem EY (hk:F3 k) {x:Except Int Tm} (hx: ∀e,x= .error e→0<e∧e≤1000) (hx': ∀t,x= .ok t→In k t∧0≤t.kind) (ret:Tm×Int→Option S):gU k (rE x) ret=ret (tE (eD x)):=by
 simp only [gU,QL,af hk.fu,aq]
 unfold eD
 cases x with
 |error e=>
  have he:=hx e rfl
  rw [show rE (.error e)=bp e from rfl,g6 he.1,ae,bo (show-9223372036854775808≤0-(bp e).kind by show _≤0-(-e);omega) (by show 0-(-e)<_;omega)]
  show ret (aN,0-(-e))=ret (aN,e)
  rw [show (0:Int)-(-e)=e by omega]
 |ok t=>
  obtain ⟨hin,hkd⟩:=hx' t rfl
  rw [show rE (.ok t)=t from rfl,decide_eq_false (by omega),ad,Fb hin.1 hin.2.1 (by have:=hin.2.2;omega),ao,aY]
  by_cases h0:cG t=0
  ·rw [decide_eq_true h0,Bool.not_true,ad,if_pos h0];rfl
  ·rw [decide_eq_false h0,Bool.not_false,ae,if_neg h0];rfl
end Go.Proofs.YtapmagaejigpnaaGreatDoor
namespace Go.Proofs.YtapmagaejigpnaaGreatDoor
open Go PI
set_option maxRecDepth 100000
theorem agL {S:Type} (q:Nat) (ret:Bool→Option S):fF (q+400) ret=ret true:=by kernel_rfl
end Go.Proofs.YtapmagaejigpnaaGreatDoor
namespace Go.Proofs.YtapmagaejigpnaaGreatDoor
open Go PI
set_option linter.unusedVariables false
set_option linter.unusedSimpArgs false
set_option maxRecDepth 20000
variable {S:Type} {k:Nat}
theorem Fh (hk:F3 k) (ret:Bool→Option S):fF k ret=ret true:=by
 obtain ⟨q,rfl⟩: ∃q,k=q+400:=⟨k-400,by have:4294968296≤k:=hk;omega⟩
 exact agL q ret
theorem zB:RF [⟨3,0⟩]:=gz ⟨⟨by decide,by decide⟩,by decide,by decide⟩
theorem NK:RF [⟨0,1⟩,⟨2,0⟩]:=by
 refine ⟨by rfl,fun c hc=> ?_⟩
 simp only [List.mem_cons,List.not_mem_nil,or_false] at hc
 rcases hc with rfl|rfl
 ·exact ⟨⟨by decide,by decide⟩,by decide,by decide⟩
 ·exact ⟨⟨by decide,by decide⟩,by decide,by decide⟩
theorem ue:aU ⟨0,1⟩:=⟨⟨by decide,by decide⟩,by decide,by decide⟩
theorem uf:aU ⟨1,0⟩:=⟨⟨by decide,by decide⟩,by decide,by decide⟩
theorem Cy (x:Except Int Tm):((tE x).1,(tE x).2)=tE x:=by cases x<;>rfl
theorem aeC (hk:F3 k) {line a:Tm} {phi:List Cl} (hl:In k line) (ha:In k a) (hp:am phi) (hpl:phi.length<1073741824) (ret:Tm×Int→Option S):sf k line phi a ret=ret (tE (iE line phi a ⟨0,1⟩ [⟨3,0⟩])):=by
 simp only [sf,Pf,af hk.fu,aq,On hk hl ha hp hpl ue zB]
theorem aem (hk:F3 k) {line a:Tm} {phi:List Cl} (hl:In k line) (ha:In k a) (hp:am phi) (hpl:phi.length<1073741824) (ret:Tm×Int→Option S):wG k line phi a ret=ret (tE (iE line phi a ⟨1,0⟩ [⟨0,1⟩,⟨2,0⟩])):=by
 simp only [wG,Pb,af hk.fu,aq,On hk hl ha hp hpl uf NK]
theorem afo (hk:F3 k) {line a:Tm} {phi:List Cl} (hl:In k line) (ha:In k a) (hp:am phi) (hpl:phi.length<1073741824) (ret:Tm×Int→Option S):xL k line phi a ret=ret (tE (iE line phi a ⟨0,1⟩ [⟨3,0⟩])):=by
 have hin: ∀t∈[line,a],In k t:=fun t ht=>by
  simp at ht
  rcases ht with rfl|rfl
  ·exact hl
  ·exact ha
 obtain ⟨q,hq⟩: ∃q,k=q+1:=⟨k-1,by have:4294968296≤k:=hk;omega⟩
 have hj: ∀v,yD k ret line a phi k v=rR k ret line a phi v:=fun v=>by
  have: ∀j,j=q+1→yD k ret line a phi j v=rR k ret line a phi v:=by rintro j rfl;rfl
  exact this k hq
 simp only [xL,GL,af hk.fu,aq,E0 hk hin (by simp),ky hk.fu hp (show phi.length<2147483648 by omega),hj,rR,aY]
 unfold iE
 by_cases h0:bm [line,a]=0
 ·have hfm:=dW (fun t ht=>(hin t ht).1) h0
  have hl':=hfm line (by simp)
  have ha':=hfm a (by simp)
  simp only [h0,if_true,decide_true,Bool.not_true,ae,ad]
  cases hph:bD phi with
  |false=>rw [Bool.not_false,ae];rfl
  |true=>
   have hrf:=(gA hp).1 hph
   rw [Bool.not_true,ad]
   simp only [B1,QS,af hk.fu,aq,N_ hk hl' ha' hrf.1 ue zB]
   rw [EY hk (fun e h=>Hg h) (fun t h=>by have:=u_ hk hl' ha' hrf.1 ue h;exact ⟨this.1,by rw [this.2];decide⟩),Cy];rfl
 ·simp only [if_neg h0]
  rw [decide_eq_false h0,ad,Bool.not_false,ae];rfl
theorem aff (hk:F3 k) {line a:Tm} {phi:List Cl} (hl:In k line) (ha:In k a) (hp:am phi) (hpl:phi.length<1073741824) (ret:Tm×Int→Option S):xD k line phi a ret=ret (tE (iE line phi a ⟨1,0⟩ [⟨0,1⟩,⟨2,0⟩])):=by
 have hin: ∀t∈[line,a],In k t:=fun t ht=>by
  simp at ht
  rcases ht with rfl|rfl
  ·exact hl
  ·exact ha
 obtain ⟨q,hq⟩: ∃q,k=q+1:=⟨k-1,by have:4294968296≤k:=hk;omega⟩
 have hj: ∀v,yC k ret line a phi k v=rQ k ret line a phi v:=fun v=>by
  have: ∀j,j=q+1→yC k ret line a phi j v=rQ k ret line a phi v:=by rintro j rfl;rfl
  exact this k hq
 simp only [xD,GI,af hk.fu,aq,E0 hk hin (by simp),ky hk.fu hp (show phi.length<2147483648 by omega),hj,rQ,aY]
 unfold iE
 by_cases h0:bm [line,a]=0
 ·have hfm:=dW (fun t ht=>(hin t ht).1) h0
  have hl':=hfm line (by simp)
  have ha':=hfm a (by simp)
  simp only [h0,if_true,decide_true,Bool.not_true,ae,ad]
  cases hph:bD phi with
  |false=>rw [Bool.not_false,ae];rfl
  |true=>
   have hrf:=(gA hp).1 hph
   rw [Bool.not_true,ad]
   simp only [B0,QH,af hk.fu,aq,N_ hk hl' ha' hrf.1 uf NK]
   rw [EY hk (fun e h=>Hg h) (fun t h=>by have:=u_ hk hl' ha' hrf.1 uf h;exact ⟨this.1,by rw [this.2];decide⟩),Cy];rfl
 ·simp only [if_neg h0]
  rw [decide_eq_false h0,ad,Bool.not_false,ae];rfl
theorem acG:OkT aN:=by
 unfold aN
 rw [OkT,bw,bu]
 exact ⟨⟨by unfold aF;omega,by unfold aF;omega,by show 0<_;omega,fun c hc=>(by cases hc),by simp,by simp,by simp⟩,trivial,trivial⟩
theorem jk (hk:F3 k):In k aN:=⟨acG,hk.fd (by unfold aN;rw [ar,aP,bh];omega),by unfold aN;rw [ax,aw,aI];omega⟩
theorem Hh (hk:F3 k) {line a:Tm} {phi r:List Cl} {en:Cl} (hl:In k line) (ha:In k a) (hp:am phi) (he:aU en):In k (tE (iE line phi a en r)).1:=by
 unfold iE
 split
 ·next h0=>
  split
  ·next hph=>
   have hfm:=dW (l:=[line,a]) (fun t ht=>by
    simp at ht
    rcases ht with rfl|rfl
    ·exact hl.1
    ·exact ha.1) h0
   have hrf:=(gA hp).1 hph
   unfold eD
   cases hx:jF line phi a en r with
   |error e=>exact jk hk
   |ok t=>
    have:=(u_ hk (hfm line (by simp)) (hfm a (by simp)) hrf.1 he hx).1
    rw [ao]
    split
    ·exact this
    ·exact jk hk
  ·exact jk hk
 ·exact jk hk
theorem zL (hk:F3 k) {t:Tm} (ht:In k t) (e:Int) (ret:Bool→Option S):gg k t e t e ret=ret true:=by
 simp only [gg,P2,aq,Fe t ht.1 _ ht.2.1,ae,beq_self_eq_true]
theorem aeT (hk:F3 k) {a b:Tm} {sys:List (Br Tm)} (ha:In k a) (hb:In k b) (hs:In k (.mk 0 0 ByteArray.empty [] [] sys)) (ret:Bool→Option S): ∃c,jK k a b sys ret=ret c:=by
 simp only [jK,F4,aq]
 obtain ⟨w,hw⟩:=E9 a ha.1 150 (fun r1=>ab (decide (r1>150)) (ret true) (cP k b 150 fun r2=>ab (decide (r2>150)) (ret true) (cP k (.mk 0 0 ByteArray.empty [] [] sys) 150 fun r3=>ret (decide (r3>150))))) ha.2.1
 rw [hw]
 cases decide (w>150) with
 |true=>exact ⟨true,rfl⟩
 |false=>
  rw [ad]
  obtain ⟨w',hw'⟩:=E9 b hb.1 150 (fun r2=>ab (decide (r2>150)) (ret true) (cP k (.mk 0 0 ByteArray.empty [] [] sys) 150 fun r3=>ret (decide (r3>150)))) hb.2.1
  rw [hw']
  cases decide (w'>150) with
  |true=>exact ⟨true,rfl⟩
  |false=>
   rw [ad]
   obtain ⟨w'',hw''⟩:=E9 _ hs.1 150 (fun r3=>ret (decide (r3>150))) hs.2.1
   exact ⟨_,hw''⟩
theorem ahB (hk:F3 k) {line t:Tm} {phi:List Cl} (hl:In k line) (ht:In k t) (hp:am phi) (hpl:phi.length<1073741824) (ret:Bool→Option S):BV k line phi t ret=ret true:=by
 simp only [BV,P0,af hk.fu,aq,Fh hk,aeC hk hl ht hp hpl,aem hk hl ht hp hpl,afo hk hl ht hp hpl,aff hk hl ht hp hpl,zL hk (Hh hk hl ht hp ue),zL hk (Hh hk hl ht hp uf),ae]
 obtain ⟨c,hc⟩:=aeT hk hl ht (jk hk) (fun r1=>ab r1 (ret true) (ab (decide ((phi.length:Int)>24)) (ret true) (ret true)))
 refine Eq.trans hc ?_
 cases c with
 |true=>rfl
 |false=>rw [ad];cases decide ((phi.length:Int)>24)<;>rfl
end Go.Proofs.YtapmagaejigpnaaGreatDoor
namespace Go.Proofs.YtapmagaejigpnaaGreatDoor
open Go PI
set_option linter.unusedVariables false
set_option linter.unusedSimpArgs false
set_option maxRecDepth 20000
variable {S:Type} {k:Nat}
theorem afF (t:Tm):ax t=1+aw t.kids+aI t.sys:=by cases t;rw [ax];rfl
def kE (most w:Int) (n:Nat):Prop:=1≤w∧w≤2*most+1∧(w≤most→(n:Int)≤w)
def Mo (most:Int):Prop:=0≤most∧most≤1000
section
variable {hd:Tm→Int→(Int→Option S)→Option S} {t:Tm}
theorem aaI (hk:Fu k) (ret:Int→Option S) (rec1:Int→Int→Option S) {v most:Int} (hm0:Mo most) {x:Br Tm} (hv:al t.sys v=some x) (hQ: ∀y∈x.kids,∀n,Mo n→ ∀g,∃w,hd y n g=g w∧kE n w (ax y)) (hl:x.kids.length<1073741824):
  ∀ (r p:List Tm) (m:Nat) (a:Int),x.kids=p++r→r.length<m→1≤a→a≤2*most+1→ ∃w,fh hd k ret rec1 t most v m a (p.length:Int)=rec1 w (IntKind.wrap .i64 (v+1))∧a≤w∧w≤2*most+1∧(w≤most→a+(aw r:Int)≤w):=by
 obtain ⟨hm1,hm2⟩:=hm0
 intro r
 induction r with
 |nil=>
  intro p m a h hm ha ha'
  obtain ⟨m,rfl,hm'⟩:=ak hm
  exact ⟨a,by simp only [fh,nW,hv,Option.bind_some,aA h,ad],Int.le_refl _,ha',fun _=>by rw [aw];simp⟩
 |cons y r ih=>
  intro p m a h hm ha ha'
  obtain ⟨m,rfl,hm'⟩:=ak hm
  obtain ⟨e1,e2,e3,e4⟩:=az h (by omega)
  simp only [fh,nW,hv,e1,ae,e2,Option.bind_some,aq,e3]
  by_cases hc:a≤most
  ·rw [decide_eq_true hc,ae,bo (show-9223372036854775808≤most-a by omega) (by omega)]
   obtain ⟨w,hw,w1,w2,w3⟩:=hQ y (by rw [h];simp) (most-a) ⟨by omega,by omega⟩ (fun r8=>fh hd k ret rec1 t most v m (IntKind.wrap .i64 (a+r8)) (((p++[y]).length:Nat):Int))
   rw [hw,bo (show-9223372036854775808≤a+w by omega) (by omega)]
   obtain ⟨u,hu,u1,u2,u3⟩:=ih (p++[y]) m (a+w) e4 hm' (by omega) (by omega)
   exact ⟨u,hu,by omega,u2,fun hle=>by rw [aw];have:=u3 hle;have:=w3 (by omega);push_cast;omega⟩
  ·rw [decide_eq_false hc,ad]
   exact ⟨a,rfl,Int.le_refl _,ha',fun h=>absurd h hc⟩
theorem aaH (hk:Fu k) (ret:Int→Option S) {most:Int} (hm0:Mo most) (hQ: ∀b∈t.sys,∀y∈b.kids,∀n,Mo n→ ∀g,∃w,hd y n g=g w∧kE n w (ax y)) (ht:OkT t):
  ∀ (r p:List (Br Tm)) (m:Nat) (a:Int),t.sys=p++r→r.length<m→1≤a→a≤2*most+1→ ∃w,eW hd k ret t most m a (p.length:Int)=ret w∧a≤w∧w≤2*most+1∧(w≤most→a+(aI r:Int)≤w):=by
 obtain ⟨o1,o2,o3,o4,o5,o6,o7⟩:=ht.no
 have hm1:=hm0.1
 have hm2:=hm0.2
 intro r
 induction r with
 |nil=>
  intro p m a h hm ha ha'
  obtain ⟨m,rfl,hm'⟩:=ak hm
  exact ⟨a,by simp only [eW,mz,aA h,ad],Int.le_refl _,ha',fun _=>by rw [aI];simp⟩
 |cons x r ih=>
  intro p m a h hm ha ha'
  obtain ⟨m,rfl,hm'⟩:=ak hm
  obtain ⟨e1,e2,e3,e4⟩:=az h (by omega)
  have hx:x∈t.sys:=by rw [h];simp
  have hb:=(ht.bi hx).1
  simp only [eW,mz,e1,ae,e2,Option.bind_some,e3]
  by_cases hc:a≤most
  ·rw [decide_eq_true hc,ae]
   by_cases hf:((x.face.length:Nat):Int)>most
   ·rw [decide_eq_true hf,ae,bo (show-9223372036854775808≤most+1 by omega) (by omega)]
    exact ⟨_,rfl,by omega,by omega,fun h=>by omega⟩
   ·rw [decide_eq_false hf,ad,bo (show-9223372036854775808≤a+1 by omega) (by omega),bo (show-9223372036854775808≤a+1+((x.face.length:Nat):Int) by omega) (by omega)]
    obtain ⟨w,hw,w1,w2,w3⟩:=aaI (t:=t) (most:=most) hk ret (eW hd k ret t most m) hm0 e2 (hQ x hx) hb.2.2 x.kids [] k (a+1+((x.face.length:Nat):Int)) rfl (by have:4294967296≤k:=hk;omega) (by omega) (by omega)
    have hw:fh hd k ret (eW hd k ret t most m) t most (p.length:Int) k (a+1+((x.face.length:Nat):Int)) 0=_:=hw
    rw [hw,e3]
    obtain ⟨u,hu,u1,u2,u3⟩:=ih (p++[x]) m w e4 hm' (by omega) w2
    exact ⟨u,hu,by omega,u2,fun hle=>by rw [aI,kz];have:=u3 hle;have:=w3 (by omega);push_cast;omega⟩
  ·rw [decide_eq_false hc,ad]
   exact ⟨a,rfl,Int.le_refl _,ha',fun h=>absurd h hc⟩
theorem aaG (hk:Fu k) (ret:Int→Option S) {most:Int} (hm0:Mo most) (hQ: ∀y∈t.kids,∀n,Mo n→ ∀g,∃w,hd y n g=g w∧kE n w (ax y)) (hQ': ∀b∈t.sys,∀y∈b.kids,∀n,Mo n→ ∀g,∃w,hd y n g=g w∧kE n w (ax y)) (ht:OkT t):
  ∀ (r p:List Tm) (m:Nat) (a:Int),t.kids=p++r→r.length<m→1≤a→a≤2*most+1→ ∃w,g8 hd k ret t most m a (p.length:Int)=ret w∧a≤w∧w≤2*most+1∧(w≤most→a+(aw r:Int)+(aI t.sys:Int)≤w):=by
 obtain ⟨o1,o2,o3,o4,o5,o6,o7⟩:=ht.no
 have hm1:=hm0.1
 have hm2:=hm0.2
 intro r
 have hs:=fun a=>aaH (most:=most) hk ret hm0 hQ' ht t.sys [] k a rfl (by have:4294967296≤k:=hk;omega)
 induction r with
 |nil=>
  intro p m a h hm ha ha'
  obtain ⟨m,rfl,hm'⟩:=ak hm
  simp only [g8,my,aA h,ad]
  obtain ⟨w,hw,w1,w2,w3⟩:=hs a ha ha'
  exact ⟨w,hw,w1,w2,fun hle=>by rw [aw];have:=w3 hle;simp;omega⟩
 |cons y r ih=>
  intro p m a h hm ha ha'
  obtain ⟨m,rfl,hm'⟩:=ak hm
  obtain ⟨e1,e2,e3,e4⟩:=az h (by omega)
  simp only [g8,my,e1,ae,e2,Option.bind_some,aq,e3]
  by_cases hc:a≤most
  ·rw [decide_eq_true hc,ae,bo (show-9223372036854775808≤most-a by omega) (by omega)]
   obtain ⟨w,hw,w1,w2,w3⟩:=hQ y (by rw [h];simp) (most-a) ⟨by omega,by omega⟩ (fun r2=>g8 hd k ret t most m (IntKind.wrap .i64 (a+r2)) (((p++[y]).length:Nat):Int))
   rw [hw,bo (show-9223372036854775808≤a+w by omega) (by omega)]
   obtain ⟨u,hu,u1,u2,u3⟩:=ih (p++[y]) m (a+w) e4 hm' (by omega) (by omega)
   exact ⟨u,hu,by omega,u2,fun hle=>by rw [aw];have:=u3 hle;have:=w3 (by omega);push_cast;omega⟩
  ·rw [decide_eq_false hc,ad]
   obtain ⟨w,hw,w1,w2,w3⟩:=hs a ha ha'
   exact ⟨w,hw,w1,w2,fun hle=>by omega⟩
end
theorem E_ (t:Tm):OkT t→ ∀ {k:Nat} (most:Int),Mo most→ ∀ (ret:Int→Option S),Fd k (ar t)→ ∃w,cP k t most ret=ret w∧kE most w (ax t):=by
 induction t using d4 with
 |h t ih1 ih2=>
  intro ht k most hm0 ret hk
  have hm1:=hm0.1
  have hm2:=hm0.2
  obtain ⟨q,rfl,hq,hf⟩:=hk.pos' (cS t)
  obtain ⟨o1,o2,o3,o4,o5,o6,o7⟩:=ht.no
  have hQ: ∀y∈t.kids,∀n,Mo n→ ∀ (g:Int→Option S),∃w,cP q y n g=g w∧kE n w (ax y):=fun y hy n hn g=>ih1 y hy (ht.ki hy) n hn g (hf _ (cR hy))
  have hQ': ∀b∈t.sys,∀y∈b.kids,∀n,Mo n→ ∀ (g:Int→Option S),∃w,cP q y n g=g w∧kE n w (ax y):=fun b hb y hy n hn g=>ih2 b hb y hy ((ht.bi hb).2 y hy) n hn g (hf _ (cQ hb hy))
  simp only [cP,zY]
  have out: ∃w,ret (IntKind.wrap .i64 (most+1))=ret w∧kE most w (ax t):=⟨most+1,by rw [bo (show-9223372036854775808≤most+1 by omega) (by omega)],by omega,by omega,fun h=>by omega⟩
  by_cases hr:((t.r.length:Nat):Int)>most
  ·rw [decide_eq_true hr,ae];exact out
  ·rw [decide_eq_false hr,ad]
   by_cases hn:((t.name.size:Nat):Int)>most
   ·rw [decide_eq_true hn,ae];exact out
   ·rw [decide_eq_false hn,ad,bo (show-9223372036854775808≤1+((t.r.length:Nat):Int) by omega) (by omega),bo (show-9223372036854775808≤1+((t.r.length:Nat):Int)+((t.name.size:Nat):Int) by omega) (by omega)]
    obtain ⟨w,hw,w1,w2,w3⟩:=aaG hq ret hm0 hQ hQ' ht t.kids [] q (1+((t.r.length:Nat):Int)+((t.name.size:Nat):Int)) rfl (by have:4294967296≤q:=hq;omega) (by omega) (by omega)
    exact ⟨w,hw,by omega,w2,fun hle=>by rw [afF];have:=w3 hle;push_cast;omega⟩
theorem E6 (hk:Fu k) {a b:Tm} {sys:List (Br Tm)} (ha:OkT a) (ha':Fd k (ar a)) (hb:OkT b) (hb':Fd k (ar b)) (hs:OkT (.mk 0 0 ByteArray.empty [] [] sys)) (hs':Fd k (ar (.mk 0 0 ByteArray.empty [] [] sys))) (ret:Bool→Option S):
  ∃c,jK k a b sys ret=ret c∧(c=false→ax a≤150∧ax b≤150∧ax (.mk 0 0 ByteArray.empty [] [] sys)≤150):=by
 simp only [jK,F4,aq]
 have hm:Mo 150:=⟨by omega,by omega⟩
 obtain ⟨w,hw,w1,w2,w3⟩:=E_ a ha 150 hm (fun r1=>ab (decide (r1>150)) (ret true) (cP k b 150 fun r2=>ab (decide (r2>150)) (ret true) (cP k (.mk 0 0 ByteArray.empty [] [] sys) 150 fun r3=>ret (decide (r3>150))))) ha'
 rw [hw]
 by_cases hc:w>150
 ·rw [decide_eq_true hc];exact ⟨true,rfl,fun h=>by cases h⟩
 ·rw [decide_eq_false hc,ad]
  obtain ⟨u,hu,u1,u2,u3⟩:=E_ b hb 150 hm (fun r2=>ab (decide (r2>150)) (ret true) (cP k (.mk 0 0 ByteArray.empty [] [] sys) 150 fun r3=>ret (decide (r3>150)))) hb'
  rw [hu]
  by_cases hd:u>150
  ·rw [decide_eq_true hd];exact ⟨true,rfl,fun h=>by cases h⟩
  ·rw [decide_eq_false hd,ad]
   obtain ⟨z,hz,z1,z2,z3⟩:=E_ _ hs 150 hm (fun r3=>ret (decide (r3>150))) hs'
   rw [hz]
   refine ⟨_,rfl,fun h=> ?_⟩
   have h: ¬z>150:=of_decide_eq_false h
   have:=w3 (by omega);have:=u3 (by omega);have:=z3 (by omega)
   omega
end Go.Proofs.YtapmagaejigpnaaGreatDoor
