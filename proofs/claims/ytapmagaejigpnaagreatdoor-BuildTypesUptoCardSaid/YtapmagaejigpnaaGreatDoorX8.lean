/- Part 8 of a proof: the sources, with their names and remarks, lie in wip/. -/
import Derived.Test.YtapmagaejigpnaaGreatDoorX7
import Derived.KernelRfl
namespace Go.Proofs.YtapmagaejigpnaaGreatDoor
open Go PI
set_option linter.unusedVariables false
set_option linter.unusedSimpArgs false
set_option maxRecDepth 20000
variable {S:Type} {k:Nat}
theorem Ga: ∀ {l:List Tm},(∀x∈l,au x≤ay x)→bk l≤aI l:=by
 intro l
 induction l with
 |nil=>intro _;rw [bk,aI];omega
 |cons t l ih=>
  intro h
  rw [bk,aI]
  have:=h t (by simp)
  have:=ih fun x hx=>h x (by simp [hx])
  omega
theorem UX: ∀ {l:List (Br Tm)},(∀b∈l,∀x∈b.kids,au x≤ay x)→bN l≤aX l:=by
 intro l
 induction l with
 |nil=>intro _;rw [bN,aX];omega
 |cons b l ih=>
  intro h
  rw [bN,aX,nH,mV]
  have:=Ga (h b (by simp))
  have:=ih fun x hx=>h x (by simp [hx])
  omega
theorem ie (t:Tm):au t≤ay t:=by
 induction t using d4 with
 |h t ih1 ih2=>
  rw [rR,DS]
  have:=Ga ih1
  have:=UX ih2
  omega
section
variable {hd:Tm→(Int→Option S)→Option S} {t:Tm}
theorem ZR (hk:Fu k) (ret:Int→Option S) (rec1:Int→Int→Option S) {v:Int} {x:Br Tm} (hv:al t.sys v=some x) (hQ: ∀y∈x.kids,∀g,hd y g=g ((ay y:Nat):Int)) (hl:x.kids.length<1073741824):
  ∀ (r p:List Tm) (m a:Nat),x.kids=p++r→r.length<m→a+aI r<4611686018427387904→kS hd k ret rec1 t v m (a:Int) (p.length:Int)=rec1 ((a+aI r:Nat):Int) (IntKind.wrap .i64 (v+1)):=by
 intro r
 induction r with
 |nil=>
  intro p m a h hm ha
  obtain ⟨m,rfl,hm'⟩:=ak hm
  have hz:a+aI []=a:=by rw [aI];rfl
  rw [hz]
  simp only [kS,u6,hv,Option.bind_some,aA h,ad]
 |cons y r ih=>
  intro p m a h hm ha
  obtain ⟨m,rfl,hm'⟩:=ak hm
  obtain ⟨e1,e2,e3,e4⟩:=az h (by omega)
  have hy:=hQ y (by rw [h];simp)
  have hz:a+aI (y::r)=(a+ay y)+aI r:=by rw [aI];omega
  rw [hz] at ha ⊢
  have hw:IntKind.wrap .i64 ((a:Int)+((ay y:Nat):Int))=((a+ay y:Nat):Int):=by rw [bh (by omega) (by omega)];simp
  simp only [kS,u6,hv,e1,ae,e2,Option.bind_some,aD,hy,e3,hw,ih (p++[y]) m (a+ay y) e4 hm' ha]
theorem ZQ (hk:Fu k) (ret:Int→Option S) (hQ: ∀b∈t.sys,∀y∈b.kids,∀g,hd y g=g ((ay y:Nat):Int)) (hl:t.sys.length<1073741824) (hl': ∀b∈t.sys,b.kids.length<1073741824):
  ∀ (r p:List (Br Tm)) (m a:Nat),t.sys=p++r→r.length<m→a+aX r<4611686018427387904→gA hd k ret t m (a:Int) (p.length:Int)=ret ((a+aX r:Nat):Int):=by
 intro r
 induction r with
 |nil=>
  intro p m a h hm ha
  obtain ⟨m,rfl,hm'⟩:=ak hm
  have hz:a+aX []=a:=by rw [aX];rfl
  rw [hz]
  simp only [gA,qB,aA h,ad]
 |cons x r ih=>
  intro p m a h hm ha
  obtain ⟨m,rfl,hm'⟩:=ak hm
  obtain ⟨e1,e2,e3,e4⟩:=az h (by omega)
  have hx:x∈t.sys:=by rw [h];simp
  have hlx:=hl' x hx
  have hz:a+aX (x::r)=(a+aI x.kids)+aX r:=by rw [aX,mV];omega
  rw [hz] at ha ⊢
  have:=ZR (t:=t) hk ret (gA hd k ret t m) e2 (hQ x hx) hlx x.kids [] k a rfl (by have:4294967296≤k:=hk;omega) (by omega)
  have this:kS hd k ret (gA hd k ret t m) t (p.length:Int) k (a:Int) 0=_:=this
  simp only [gA,qB,e1,ae,this,e3,ih (p++[x]) m _ e4 hm' ha]
theorem ZP (hk:Fu k) (ret:Int→Option S) (hQ: ∀y∈t.kids,∀g,hd y g=g ((ay y:Nat):Int)) (hQ': ∀b∈t.sys,∀y∈b.kids,∀g,hd y g=g ((ay y:Nat):Int)) (ht:OkT t):
  ∀ (r p:List Tm) (m a:Nat),t.kids=p++r→r.length<m→a+aI r+aX t.sys<4611686018427387904→oC hd k ret t m (a:Int) (p.length:Int)=ret ((a+aI r+aX t.sys:Nat):Int):=by
 obtain ⟨o1,o2,o3,o4,o5,o6,o7⟩:=ht.no
 intro r
 induction r with
 |nil=>
  intro p m a h hm ha
  obtain ⟨m,rfl,hm'⟩:=ak hm
  have hz:a+aI []=a:=by rw [aI];rfl
  rw [hz] at ha ⊢
  have:=ZQ hk ret hQ' o7 (fun b hb=>(ht.bi hb).1.2.2) t.sys [] k a rfl (by have:4294967296≤k:=hk;omega) ha
  have this:gA hd k ret t k (a:Int) 0=_:=this
  simp only [oC,qA,aA h,ad,this]
 |cons y r ih=>
  intro p m a h hm ha
  obtain ⟨m,rfl,hm'⟩:=ak hm
  obtain ⟨e1,e2,e3,e4⟩:=az h (by omega)
  have hy:=hQ y (by rw [h];simp)
  have hz:a+aI (y::r)=(a+ay y)+aI r:=by rw [aI];omega
  rw [hz] at ha ⊢
  have hw:IntKind.wrap .i64 ((a:Int)+((ay y:Nat):Int))=((a+ay y:Nat):Int):=by rw [bh (by omega) (by omega)];simp
  simp only [oC,qA,e1,ae,e2,Option.bind_some,aD,hy,e3,hw,ih (p++[y]) m (a+ay y) e4 hm' ha]
end
theorem ade (t:Tm):OkT t→ ∀ {k:Nat} (ret:Int→Option S),Fd k (au t)→ay t<4611686018427387904→h9 k t ret=ret ((ay t:Nat):Int):=by
 induction t using d4 with
 |h t ih1 ih2=>
  intro ht k ret hk hs
  obtain ⟨q,rfl,hq,hf⟩:=hk.pos' (c8 t)
  have hz:=DS t
  have:=ZP hq ret (fun y hy g=>ih1 y hy (ht.ki hy) g (hf _ (c7 hy)) (by have:=yK hy;omega)) (fun b hb y hy g=>ih2 b hb y hy ((ht.bi hb).2 y hy) g (hf _ (cZ hb hy)) (by have:=yK hy;have:=Ni hb;omega)) ht t.kids [] q 1 rfl (by have:=ht.no.2.2.2.2.2.1;have:4294967296≤q:=hq;omega) (by omega)
  simp only [h9,E1]
  rw [hz]
  exact this
section
variable {hd:Tm→(Int→Option S)→Option S} {t:Tm}
theorem Jo (a b:Nat) {α:Type} (f:Int→α):ab (decide (((b:Nat):Int)>(a:Int))) (f (b:Int)) (f (a:Int))=f ((max a b:Nat):Int):=by
 rw [aK]
 by_cases h:((b:Nat):Int)>(a:Int)
 ·rw [if_pos h,Nat.max_eq_right (by omega)]
 ·rw [if_neg h,Nat.max_eq_left (by omega)]
theorem Zy (hk:Fu k) (ret:Int→Option S) (rec1:Int→Int→Option S) {v:Int} {x:Br Tm} (hv:al t.sys v=some x) (hQ: ∀y∈x.kids,∀g,hd y g=g ((au y:Nat):Int)) (hl:x.kids.length<1073741824):
  ∀ (r p:List Tm) (m a:Nat),x.kids=p++r→r.length<m→jv hd k ret rec1 t v m (a:Int) (p.length:Int)=rec1 ((max a (bk r):Nat):Int) (IntKind.wrap .i64 (v+1)):=by
 intro r
 induction r with
 |nil=>
  intro p m a h hm
  obtain ⟨m,rfl,hm'⟩:=ak hm
  have hz:max a (bk [])=a:=by rw [bk];omega
  rw [hz]
  simp only [jv,u4,hv,Option.bind_some,aA h,ad]
 |cons y r ih=>
  intro p m a h hm
  obtain ⟨m,rfl,hm'⟩:=ak hm
  obtain ⟨e1,e2,e3,e4⟩:=az h (by omega)
  have hy:=hQ y (by rw [h];simp)
  have hz:max a (bk (y::r))=max (max a (au y)) (bk r):=by rw [bk];omega
  rw [hz]
  simp only [jv,u4,hv,e1,ae,e2,Option.bind_some,aD,hy,e3]
  rw [Jo a (au y) (fun z=>jv hd k ret rec1 t v m z (((p++[y]).length:Nat):Int)),ih (p++[y]) m (max a (au y)) e4 hm']
theorem Zx (hk:Fu k) (ret:Int→Option S) (hQ: ∀b∈t.sys,∀y∈b.kids,∀g,hd y g=g ((au y:Nat):Int)) (hl:t.sys.length<1073741824) (hl': ∀b∈t.sys,b.kids.length<1073741824):
  ∀ (r p:List (Br Tm)) (m a:Nat),t.sys=p++r→r.length<m→max a (bN r)<4611686018427387904→gz hd k ret t m (a:Int) (p.length:Int)=ret ((max a (bN r)+1:Nat):Int):=by
 intro r
 induction r with
 |nil=>
  intro p m a h hm ha
  obtain ⟨m,rfl,hm'⟩:=ak hm
  have hz:max a (bN [])=a:=by rw [bN];omega
  rw [hz] at ha ⊢
  have hw:IntKind.wrap .i64 ((a:Int)+1)=((a+1:Nat):Int):=by rw [bh (by omega) (by omega)];simp
  simp only [gz,qz,aA h,ad,hw]
 |cons x r ih=>
  intro p m a h hm ha
  obtain ⟨m,rfl,hm'⟩:=ak hm
  obtain ⟨e1,e2,e3,e4⟩:=az h (by omega)
  have hx:x∈t.sys:=by rw [h];simp
  have hlx:=hl' x hx
  have hz:max a (bN (x::r))=max (max a (bk x.kids)) (bN r):=by rw [bN,nH];omega
  rw [hz] at ha ⊢
  have:=Zy (t:=t) hk ret (gz hd k ret t m) e2 (hQ x hx) hlx x.kids [] k a rfl (by have:4294967296≤k:=hk;omega)
  have this:jv hd k ret (gz hd k ret t m) t (p.length:Int) k (a:Int) 0=_:=this
  simp only [gz,qz,e1,ae,this,e3,ih (p++[x]) m _ e4 hm' ha]
theorem Zw (hk:Fu k) (ret:Int→Option S) (hQ: ∀y∈t.kids,∀g,hd y g=g ((au y:Nat):Int)) (hQ': ∀b∈t.sys,∀y∈b.kids,∀g,hd y g=g ((au y:Nat):Int)) (ht:OkT t):
  ∀ (r p:List Tm) (m a:Nat),t.kids=p++r→r.length<m→max (max a (bk r)) (bN t.sys)<4611686018427387904→mo hd k ret t m (a:Int) (p.length:Int)=ret ((max (max a (bk r)) (bN t.sys)+1:Nat):Int):=by
 obtain ⟨o1,o2,o3,o4,o5,o6,o7⟩:=ht.no
 intro r
 induction r with
 |nil=>
  intro p m a h hm ha
  obtain ⟨m,rfl,hm'⟩:=ak hm
  have hz:max a (bk [])=a:=by rw [bk];omega
  rw [hz] at ha ⊢
  have:=Zx hk ret hQ' o7 (fun b hb=>(ht.bi hb).1.2.2) t.sys [] k a rfl (by have:4294967296≤k:=hk;omega) ha
  have this:gz hd k ret t k (a:Int) 0=_:=this
  simp only [mo,qy,aA h,ad,this]
 |cons y r ih=>
  intro p m a h hm ha
  obtain ⟨m,rfl,hm'⟩:=ak hm
  obtain ⟨e1,e2,e3,e4⟩:=az h (by omega)
  have hy:=hQ y (by rw [h];simp)
  have hz:max a (bk (y::r))=max (max a (au y)) (bk r):=by rw [bk];omega
  rw [hz] at ha ⊢
  simp only [mo,qy,e1,ae,e2,Option.bind_some,aD,hy,e3]
  rw [Jo a (au y) (fun z=>mo hd k ret t m z (((p++[y]).length:Nat):Int)),ih (p++[y]) m (max a (au y)) e4 hm' ha]
end
theorem ac7 (t:Tm):OkT t→ ∀ {k:Nat} (ret:Int→Option S),Fd k (au t)→au t<4611686018427387904→hY k t ret=ret ((au t:Nat):Int):=by
 induction t using d4 with
 |h t ih1 ih2=>
  intro ht k ret hk hs
  obtain ⟨q,rfl,hq,hf⟩:=hk.pos' (c8 t)
  have hz:=rR t
  have:=Zw hq ret (fun y hy g=>ih1 y hy (ht.ki hy) g (hf _ (c7 hy)) (by have:=c7 hy;omega)) (fun b hb y hy g=>ih2 b hb y hy ((ht.bi hb).2 y hy) g (hf _ (cZ hb hy)) (by have:=cZ hb hy;omega)) ht t.kids [] q 0 rfl (by have:=ht.no.2.2.2.2.2.1;have:4294967296≤q:=hq;omega) (by omega)
  simp only [hY,EZ]
  refine Eq.trans this ?_
  rw [hz,Nat.zero_max]
section
variable {hd:Tm→Int→Int→Bool→(Bool→Option S)→Option S} {vars dims:Int} {bd:Bool} {t:Tm}
theorem Zv (hk:Fu k) (ret:Bool→Option S) (rec5:Int→Option S) (hv:VD vars dims 1) {v:Int} {x:Br Tm} (hQ: ∀y∈x.kids,∀g,hd y vars (dims+av t.kind) bd g=g (bq bd vars (dims+av t.kind) y)) (hl:x.kids.length<1073741824):
  ∀ (r p:List Tm) (m:Nat),x.kids=p++r→r.length<m→kR hd k ret rec5 x t vars v dims bd m (p.length:Int)=if dr bd vars dims t.kind r then rec5 (IntKind.wrap .i64 (v+1)) else ret false:=by
 have hmo:=dY t.kind
 unfold VD at hv
 intro r
 induction r with
 |nil=>
  intro p m h hm
  obtain ⟨m,rfl,hm'⟩:=ak hm
  simp only [kR,uY,aA h,ad];rfl
 |cons y r ih=>
  intro p m h hm
  obtain ⟨m,rfl,hm'⟩:=ak hm
  obtain ⟨e1,e2,e3,e4⟩:=az h (by omega)
  have hy:=hQ y (by rw [h];simp)
  simp only [kR,uY,e1,ae,e2,Option.bind_some,ah hk,aD,DM,bh (n:=dims+av t.kind) (by omega) (by omega),hy,e3,ih (p++[y]) m e4 hm',DP]
  rw [dr]
theorem Zu (hk:Fu k) (ret:Bool→Option S) (hv:VD vars dims 1) (hQ: ∀b∈t.sys,∀y∈b.kids,∀g,hd y vars (dims+av t.kind) bd g=g (bq bd vars (dims+av t.kind) y)) (ht:OkT t):
  ∀ (r p:List (Br Tm)) (m:Nat),t.sys=p++r→r.length<m→gx hd k ret t vars dims bd m (p.length:Int)=ret (r.all fun b=>cX t.kind dims b&&dr bd vars dims t.kind b.kids):=by
 obtain ⟨o1,o2,o3,o4,o5,o6,o7⟩:=ht.no
 have hv':=hv
 unfold VD at hv'
 intro r
 induction r with
 |nil=>
  intro p m h hm
  obtain ⟨m,rfl,hm'⟩:=ak hm
  simp only [gx,qx,aA h,ad];rfl
 |cons x r ih=>
  intro p m h hml
  obtain ⟨m,rfl,hm'⟩:=ak hml
  obtain ⟨e1,e2,e3,e4⟩:=az h (by omega)
  have hx:x∈t.sys:=by rw [h];simp
  have hb:=(ht.bi hx).1
  have:=Zv (t:=t) (bd:=bd) hk ret (gx hd k ret t vars dims bd m) hv (v:=(p.length:Int)) (hQ x hx) hb.2.2 x.kids [] k rfl (by have:4294967296≤k:=hk;omega)
  have this:kR hd k ret (gx hd k ret t vars dims bd m) x t vars (p.length:Int) dims bd k 0=_:=this
  have hq:((x.kids.length:Int)==b9 t.kind)=decide ((x.kids.length:Int)=b9 t.kind):=by rw [Bool.eq_iff_iff];simp
  simp only [gx,qx,e1,ae,e2,Option.bind_some,ah hk,M6,jN hk hb.1 (show x.face.length<2147483648 by omega),MT hk hb.1 hb.2.1,this,e3,ih (p++[x]) m e4 hm',BG,iF,hq]
  congr 1
  have:cX t.kind dims x=(decide ((x.kids.length:Int)=b9 t.kind)&&(bt x.face&&cA x.face dims)):=rfl
  rw [List.all_cons,this]
  simp only [Bool.and_assoc]
theorem Zt (hk:Fu k) (ret:Bool→Option S) (hv:VD vars dims 1) (hQ: ∀y∈t.kids,∀v d,0≤v∧v≤1→0≤d∧d≤1→ ∀g,hd y (dp vars v) (dims+d) bd g=g (bq bd (dp vars v) (dims+d) y)) (hQ': ∀b∈t.sys,∀y∈b.kids,∀g,hd y vars (dims+av t.kind) bd g=g (bq bd vars (dims+av t.kind) y)) (ht:OkT t):
  ∀ (r p:List Tm) (m:Nat),t.kids=p++r→r.length<m→iq hd k ret t vars dims bd m (p.length:Int)=ret (bZ bd vars dims t.kind p.length r&&t.sys.all fun b=>cX t.kind dims b&&dr bd vars dims t.kind b.kids):=by
 obtain ⟨o1,o2,o3,o4,o5,o6,o7⟩:=ht.no
 have hv':=hv
 unfold VD at hv'
 intro r
 induction r with
 |nil=>
  intro p m h hm
  obtain ⟨m,rfl,hm'⟩:=ak hm
  have hs:gx hd k ret t vars dims bd k 0=_:=Zu hk ret hv hQ' ht t.sys [] k rfl (by have:4294967296≤k:=hk;omega)
  simp only [iq,qw,aA h,ad,hs]
  rw [bZ,Bool.true_and]
 |cons y r ih=>
  intro p m h hm
  obtain ⟨m,rfl,hm'⟩:=ak hm
  obtain ⟨e1,e2,e3,e4⟩:=az h (by omega)
  have b1:=vn t.kind p.length
  have b2:=gi t.kind p.length
  have hy:=hQ y (by rw [h];simp) (dE t.kind p.length) (bK t.kind p.length) b1 b2
  simp only [iq,qw,e1,ae,e2,Option.bind_some,ah hk,DI hk,aD,bh (n:=dims+bK t.kind p.length) (by omega) (by omega),bh (n:=vars+0) (by omega) (by omega),bh (n:=vars+dE t.kind p.length) (by omega) (by omega),e3,ih (p++[y]) m e4 hm']
  have hvb:ab (decide (vars<0)) (hd y (vars+0) (dims+bK t.kind p.length) bd fun r8=>ab (!r8) (ret false) (ret (bZ bd vars dims t.kind (p++[y]).length r&&t.sys.all fun b=>cX t.kind dims b&&dr bd vars dims t.kind b.kids)))
    (hd y (vars+dE t.kind p.length) (dims+bK t.kind p.length) bd fun r10=>ab (!r10) (ret false) (ret (bZ bd vars dims t.kind (p++[y]).length r&&t.sys.all fun b=>cX t.kind dims b&&dr bd vars dims t.kind b.kids)))
    =hd y (dp vars (dE t.kind p.length)) (dims+bK t.kind p.length) bd fun r8=>ab (!r8) (ret false) (ret (bZ bd vars dims t.kind (p++[y]).length r&&t.sys.all fun b=>cX t.kind dims b&&dr bd vars dims t.kind b.kids)):=by
   rw [aK]
   unfold dp
   split
   ·rw [Int.add_zero]
   ·rfl
  rw [hvb,hy,iF,bZ,show (p++[y]).length=p.length+1 by simp,Bool.and_assoc]
end
def nK (vars:Int) (t:Tm):Bool:=if t.kind=1 then decide (0≤t.n)&&decide (vars<0∨t.n<vars) else decide (t.n=0)
def oW (t:Tm):Bool:=if t.kind=2 then jC t.name.data.toList else decide (t.name.size=0)
def rK (t:Tm):Bool:=if t.kind=13∨t.kind=21∨t.kind=26 then be t.r else if t.kind=14 then bt t.r else decide (t.r.length=0)
theorem B3 (d:Int) (l:List Cl) (h:l.length=0):cA l d=true:=by
 have:=List.length_eq_zero_iff.1 h
 subst this
 unfold cA
 rw [decide_eq_true_eq]
 intro i hi
 have:=(mem_bitsN.1 hi).2
 rw [A4] at this
 simp [fc] at this
theorem Ul {α:Type} (l:List α) (f g:α→Bool):(l.all fun x=>f x&&g x)=(l.all f&&l.all g):=by
 induction l with
 |nil=>rfl
 |cons x l ih=>rw [List.all_cons,List.all_cons,List.all_cons,ih];cases f x<;>cases g x<;>simp
theorem Uk {bd:Bool} {vars dims kd:Int}: ∀ {l:List (Br Tm)},(l.all fun b=>dr bd vars dims kd b.kids)=cR bd vars dims kd l:=by
 intro l
 induction l with
 |nil=>rw [cR];rfl
 |cons b l ih=>cases b;rw [cR,←ih,pX];rfl
theorem abP (vars dims:Int) (t:Tm) (AK AS:Bool):
  (decide (ef t.kind=t.kids.length)&&(decide (0<t.sys.length→b9 t.kind≠0)&&(nK vars t&&(oW t&&(rK t&&(cA t.r dims&&(AK&&(t.sys.all (cX t.kind dims)&&AS))))))))=(ep vars dims t&&(AK&&AS)):=by
 rw [JF]
 have hp:decide (0<t.sys.length→b9 t.kind≠0)=decide (b9 t.kind=0→t.sys.length=0):=rP ⟨fun h h0=>by
  by_cases h1:0<t.sys.length
  ·exact absurd h0 (h h1)
  ·omega,fun h h0 h1=>by have:=h h1;omega⟩
 rw [hp]
 cases decide (ef t.kind=t.kids.length) with
 |false=>rfl
 |true=>
  simp only [Bool.true_and]
  by_cases hs:b9 t.kind=0→t.sys.length=0
  ·rw [decide_eq_true hs]
   have nosys:b9 t.kind=0→t.sys.all (cX t.kind dims)=true:=fun h=>by
    have:=List.length_eq_zero_iff.1 (hs h);rw [this];rfl
   unfold nK oW rK kY
   by_cases c1:t.kind=1
   ·simp only [c1,if_true,show ((1:Int)=2)=False from by simp,show ((1:Int)=13)=False from by simp,show ((1:Int)=14)=False from by simp,show ((1:Int)=21)=False from by simp,show ((1:Int)=26)=False from by simp,or_self,if_false,true_or,decide_true,Bool.true_and,false_or]
    rw [c1] at nosys
    rw [nosys (by decide)]
    by_cases h0:t.r.length=0
    ·rw [B3 dims t.r h0,decide_eq_true h0]
     simp only [Bool.true_and,Bool.and_true]
     cases decide (t.name.size=0)<;>simp
    ·rw [decide_eq_false h0];simp
   ·by_cases c2:t.kind=2
    ·simp only [c2,if_true,show ((2:Int)=1)=False from by simp,show ((2:Int)=13)=False from by simp,show ((2:Int)=14)=False from by simp,show ((2:Int)=21)=False from by simp,show ((2:Int)=26)=False from by simp,or_self,if_false,true_or,decide_true,Bool.true_and,false_or]
     rw [c2] at nosys
     rw [nosys (by decide)]
     by_cases h0:t.r.length=0
     ·rw [B3 dims t.r h0,decide_eq_true h0]
      simp only [Bool.true_and,Bool.and_true,Bool.and_assoc]
     ·rw [decide_eq_false h0];simp
    ·simp only [c1,c2,if_false,false_or,Bool.true_and]
     by_cases c3:t.kind=13∨t.kind=21∨t.kind=26
     ·rw [if_pos c3,if_pos c3,nosys (by rcases c3 with h|h|h<;>rw [h]<;>decide)]
      simp only [Bool.true_and,Bool.and_true,Bool.and_assoc]
     ·rw [if_neg c3,if_neg c3]
      by_cases c4:t.kind=14
      ·rw [if_pos c4,if_pos c4,nosys (by rw [c4];decide)]
       simp only [Bool.true_and,Bool.and_true,Bool.and_assoc]
      ·rw [if_neg c4,if_neg c4]
       by_cases h0:t.r.length=0
       ·rw [B3 dims t.r h0,decide_eq_true h0]
        simp only [Bool.true_and,Bool.and_true,Bool.and_assoc]
        cases AK<;>cases t.sys.all (cX t.kind dims)<;>simp
       ·rw [decide_eq_false h0];simp
  ·rw [decide_eq_false hs];simp
theorem ac4 (t:Tm):OkT t→ ∀ {k:Nat} {vars dims:Int} {bd:Bool} (ret:Bool→Option S),Fd k (au t)→VD vars dims (au t)→b7 k t vars dims bd ret=ret (bq bd vars dims t):=by
 induction t using d4 with
 |h t ih1 ih2=>
  intro ht k vars dims bd ret hk hv
  obtain ⟨q,rfl,hq,hf⟩:=hk.pos' (c8 t)
  have hp:=c8 t
  have hv':=hv
  unfold VD at hv'
  have hv1:VD vars dims 1:=by unfold VD;omega
  have hm:=dY t.kind
  obtain ⟨o1,o2,o3,o4,o5,o6,o7⟩:=ht.no
  have hQ: ∀y∈t.kids,∀v d,0≤v∧v≤1→0≤d∧d≤1→ ∀g:Bool→Option S,b7 q y (dp vars v) (dims+d) bd g=g (bq bd (dp vars v) (dims+d) y):=fun y hy v d h1 h2 g=>ih1 y hy (ht.ki hy) g (hf _ (c7 hy)) (by
   have:=c7 hy;have:=PF (vars:=vars) h1;unfold VD;omega)
  have hQ': ∀b∈t.sys,∀y∈b.kids,∀g:Bool→Option S,b7 q y vars (dims+av t.kind) bd g=g (bq bd vars (dims+av t.kind) y):=fun b hb y hy g=>ih2 b hb y hy ((ht.bi hb).2 y hy) g (hf _ (cZ hb hy)) (by
   have:=cZ hb hy;unfold VD;omega)
  have h4:iq (b7 q) q ret t vars dims bd q 0=_:=Zt (bd:=bd) hq ret hv1 hQ hQ' ht t.kids [] q rfl (by have:4294967296≤q:=hq;omega)
  rw [Ul,Uk] at h4
  have h4:iq (b7 q) q ret t vars dims bd q 0=ret (bZ bd vars dims t.kind 0 t.kids&&(t.sys.all (cX t.kind dims)&&cR bd vars dims t.kind t.sys)):=h4
  generalize hAK:bZ bd vars dims t.kind 0 t.kids=AK at h4
  generalize hAS:cR bd vars dims t.kind t.sys=AS at h4
  generalize hw:(AK&&(t.sys.all (cX t.kind dims)&&AS))=W at h4
  obtain ⟨q',hq'⟩: ∃q',q=q'+1:=⟨q-1,by have:4294967296≤q:=hq;omega⟩
  have j3:oB (b7 q) q ret t vars dims bd q=ret (cA t.r dims&&W):=by
   have: ∀j,j=q'+1→oB (b7 q) q ret t vars dims bd j=qv (b7 q) q ret t vars dims bd (fun i9=>iq (b7 q) q ret t vars dims bd q i9):=by rintro j rfl;rfl
   rw [this q hq']
   simp only [qv,ah hq,MT hq o4 o5,h4,iF]
  have j2:oA (b7 q) q ret t vars dims bd q=ret (rK t&&(cA t.r dims&&W)):=by
   have: ∀j,j=q'+1→oA (b7 q) q ret t vars dims bd j=qu (b7 q) q ret t vars dims bd (oB (b7 q) q ret t vars dims bd q):=by rintro j rfl;rfl
   rw [this q hq',j3]
   simp only [qu,ah hq,f0 hq o4 (show t.r.length<2147483648 by omega),jN hq o4 (show t.r.length<2147483648 by omega),iF]
   have hr0:ab (decide (((t.r.length:Nat):Int)>0)) (ret false) (ret (cA t.r dims&&W))=ret (decide (t.r.length=0)&&(cA t.r dims&&W)):=by
    rw [aK]
    by_cases h0:t.r.length=0
    ·rw [if_neg (by omega),decide_eq_true h0,Bool.true_and]
    ·rw [if_pos (by omega),decide_eq_false h0,Bool.false_and]
   rw [hr0]
   simp only [co,beq_iff_eq]
   unfold rK
   by_cases c3:t.kind=13
   ·rw [if_pos c3,if_pos (.inl c3)]
   ·rw [if_neg c3]
    by_cases c4:t.kind=21
    ·rw [if_pos c4,if_pos (.inr (.inl c4))]
    ·rw [if_neg c4]
     by_cases c5:t.kind=26
     ·rw [if_pos c5,if_pos (.inr (.inr c5))]
     ·rw [if_neg c5,if_neg (show ¬ (t.kind=13∨t.kind=21∨t.kind=26) by omega)]
      by_cases c6:t.kind=14
      ·rw [if_pos c6,if_pos c6]
      ·rw [if_neg c6,if_neg c6]
  have j1:oz (b7 q) q ret t vars dims bd q=ret (oW t&&(rK t&&(cA t.r dims&&W))):=by
   have: ∀j,j=q'+1→oz (b7 q) q ret t vars dims bd j=qr (b7 q) q ret t vars dims bd (oA (b7 q) q ret t vars dims bd q):=by rintro j rfl;rfl
   rw [this q hq',j2]
   simp only [qr,ah hq,adh hq (show t.name.size<2147483648 by omega),Cp,iF]
   unfold oW
   by_cases c:t.kind=2
   ·rw [if_pos c,c,show ((2:Int)==2)=true from rfl,ae,Bool.not_true,ad,iF]
   ·have:(t.kind==2)=false:=by rw [beq_eq_false_iff_ne];exact c
    rw [if_neg c,this,ad,Bool.not_false,ae]
  have j0:xl (b7 q) q ret t vars dims bd q=ret (nK vars t&&(oW t&&(rK t&&(cA t.r dims&&W)))):=by
   have: ∀j,j=q'+1→xl (b7 q) q ret t vars dims bd j=qn (b7 q) q ret t vars dims bd (oz (b7 q) q ret t vars dims bd q):=by rintro j rfl;rfl
   rw [this q hq',j1]
   simp only [qn,a7,iF]
   unfold nK
   by_cases c:t.kind=1
   ·rw [if_pos c,c]
    rw [show ((1:Int)==1)=true from rfl,ae,aK,aK,aK]
    by_cases h1:t.n<0
    ·rw [if_pos h1,decide_eq_false (by omega)];rfl
    ·rw [if_neg h1,decide_eq_true (by omega),Bool.true_and]
     by_cases h2:vars≥0
     ·rw [if_pos h2]
      by_cases h3:t.n≥vars
      ·rw [if_pos h3,decide_eq_false (by omega)];rfl
      ·rw [if_neg h3,decide_eq_true (.inr (by omega))];rfl
     ·rw [if_neg h2,decide_eq_true (.inl (by omega))];rfl
   ·have:(t.kind==1)=false:=by rw [beq_eq_false_iff_ne];exact c
    rw [if_neg c,this,ad]
  simp only [b7,EX,aD,ah hq,ac_,M6,j0]
  have hkk:(ef t.kind==(t.kids.length:Int))=decide (ef t.kind=t.kids.length):=by rw [Bool.eq_iff_iff];simp
  generalize hZ:(nK vars t&&(oW t&&(rK t&&(cA t.r dims&&W))))=Z
  have hsy:ab (decide (((t.sys.length:Nat):Int)>0)) (ab (b9 t.kind==0) (ret false) (ret Z)) (ret Z)=ret (decide (0<t.sys.length→b9 t.kind≠0)&&Z):=by
   rw [aK,co]
   by_cases h1:0<t.sys.length
   ·rw [if_pos (by omega)]
    by_cases h2:b9 t.kind=0
    ·rw [if_pos (by rw [h2];rfl),decide_eq_false (fun h=>h h1 h2)];rfl
    ·rw [if_neg (by rw [beq_iff_eq];exact h2),decide_eq_true (fun _=>h2)];rfl
   ·rw [if_neg (by omega),decide_eq_true (fun h=>absurd h h1)];rfl
  rw [hsy,iF,hkk]
  have hfin:=abP vars dims t AK AS
  rw [hw,hZ] at hfin
  rw [hfin,pY,hAK,hAS]
  cases bd with
  |true=>
   rw [ae,aK,Bool.true_and]
   by_cases h24:dims>24
   ·rw [if_pos h24,decide_eq_true h24];rfl
   ·rw [if_neg h24,decide_eq_false h24];rfl
  |false=>rw [ad];rfl
theorem adf {t:Tm} (ht:OkT t) (hk:Fd k (au t)) (hs:ay t<1099511627776) (ret:Int→Option S):wq k t ret=ret (if au t>200 then 62 else if ay t>20000 then 221 else 0):=by
 have:=ie t
 simp only [wq,OS,aD,ac7 t ht _ hk (show au t<4611686018427387904 by omega),ade t ht _ hk (show ay t<4611686018427387904 by omega),aK]
 by_cases h1:au t>200
 ·rw [if_pos h1,if_pos (by omega)]
 ·rw [if_neg h1,if_neg (by omega)]
  by_cases h2:ay t>20000
  ·rw [if_pos h2,if_pos (by omega)]
  ·rw [if_neg h2,if_neg (by omega)]
theorem DL {t:Tm} (ht:OkT t) (hk:Fd k (au t)) (hs:ay t<1099511627776) (ret:Int→Option S):nB k t ret=ret (cx t):=by
 have:=ie t
 simp only [nB,ON,aD,ah hk.fu,adf ht hk hs,ac4 t ht _ hk (show VD (-1) 24 (au t) by unfold VD;omega),a7]
 unfold cx
 by_cases h1:au t>200
 ·rw [if_pos h1,if_pos h1];rfl
 ·rw [if_neg h1,if_neg h1]
  by_cases h2:ay t>20000
  ·rw [if_pos h2,if_pos h2];rfl
  ·rw [if_neg h2,if_neg h2,decide_eq_true rfl,ae]
   cases bq false (-1) 24 t<;>rfl
theorem ZS (hk:Fu k) (ret:Bool→Option S) {l:List Cl} (hlen:l.length<2147483648):
  ∀ (r p:List Cl) (m:Nat),l=p++r→r.length<m→ju k ret l l m (p.length:Int)=ret true:=by
 intro r
 induction r with
 |nil=>
  intro p m h hm
  obtain ⟨m,rfl,hm'⟩:=ak hm
  simp only [ju,m6,aA h,ad]
 |cons x r ih=>
  intro p m h hm
  obtain ⟨m,rfl,hm'⟩:=ak hm
  obtain ⟨e1,e2,e3,e4⟩:=az h (by omega)
  simp only [ju,m6,e1,ae,e2,Option.bind_some,e3,ih (p++[x]) m e4 hm',iW,decide_true,Bool.not_true,ad]
theorem M_ (hk:Fu k) {l:List Cl} (hlen:l.length<2147483648) (ret:Bool→Option S):hU k l l ret=ret true:=by
 simp only [hU,yT,beq_self_eq_true,Bool.not_true,ad]
 exact ZS hk ret hlen l [] k rfl (by have:4294967296≤k:=hk;omega)
section
variable {hd:Tm→Tm→(Bool→Option S)→Option S}
theorem Zc (hk:Fu k) (ret:Bool→Option S) {l:List Tm} (hlen:l.length<2147483648) (hQ: ∀y∈l,∀g,hd y y g=g true):
  ∀ (r p:List Tm) (m:Nat),l=p++r→r.length<m→oD hd k ret l l m (p.length:Int)=ret true:=by
 intro r
 induction r with
 |nil=>
  intro p m h hm
  obtain ⟨m,rfl,hm'⟩:=ak hm
  simp only [oD,u7,aA h,ad]
 |cons x r ih=>
  intro p m h hm
  obtain ⟨m,rfl,hm'⟩:=ak hm
  obtain ⟨e1,e2,e3,e4⟩:=az h (by omega)
  simp only [oD,u7,e1,ae,e2,Option.bind_some,aD,hQ x (by rw [h];simp),e3,ih (p++[x]) m e4 hm',Bool.not_true,ad]
theorem MS (hk:Fu k) (ret:Bool→Option S) {l:List Tm} (hlen:l.length<2147483648) (hQ: ∀y∈l,∀g,hd y y g=g true):ry hd k l l ret=ret true:=by
 simp only [ry,E2,beq_self_eq_true,Bool.not_true,ad]
 exact Zc hk ret hlen hQ l [] k rfl (by have:4294967296≤k:=hk;omega)
theorem Zs (hk:Fu k) (ret:Bool→Option S) {t:Tm} (ht:OkT t) (hQ: ∀b∈t.sys,∀y∈b.kids,∀g,hd y y g=g true):
  ∀ (r p:List (Br Tm)) (m:Nat),t.sys=p++r→r.length<m→mq hd k ret t t m (p.length:Int)=ret true:=by
 obtain ⟨o1,o2,o3,o4,o5,o6,o7⟩:=ht.no
 intro r
 induction r with
 |nil=>
  intro p m h hm
  obtain ⟨m,rfl,hm'⟩:=ak hm
  simp only [mq,u5,aA h,ad]
 |cons x r ih=>
  intro p m h hm
  obtain ⟨m,rfl,hm'⟩:=ak hm
  obtain ⟨e1,e2,e3,e4⟩:=az h (by omega)
  have hx:x∈t.sys:=by rw [h];simp
  have hb:=(ht.bi hx).1
  simp only [mq,u5,e1,ae,e2,Option.bind_some,ah hk,M_ hk (show x.face.length<2147483648 by omega),MS hk _ (show x.kids.length<2147483648 by omega) (hQ x hx),e3,ih (p++[x]) m e4 hm',Bool.not_true,ad]
end
theorem M8 (t:Tm):OkT t→ ∀ {k:Nat} (ret:Bool→Option S),Fd k (au t)→d8 k t t ret=ret true:=by
 induction t using d4 with
 |h t ih1 ih2=>
  intro ht k ret hk
  obtain ⟨q,rfl,hq,hf⟩:=hk.pos' (c8 t)
  obtain ⟨o1,o2,o3,o4,o5,o6,o7⟩:=ht.no
  have hQ: ∀y∈t.kids,∀g:Bool→Option S,d8 q y y g=g true:=fun y hy g=>ih1 y hy (ht.ki hy) g (hf _ (c7 hy))
  have hQ': ∀b∈t.sys,∀y∈b.kids,∀g:Bool→Option S,d8 q y y g=g true:=fun b hb y hy g=>ih2 b hb y hy ((ht.bi hb).2 y hy) g (hf _ (cZ hb hy))
  have:=Zs hq ret ht hQ' t.sys [] q rfl (by have:4294967296≤q:=hq;omega)
  have this:mq (d8 q) q ret t t q 0=_:=this
  have hn:(t.name==t.name)=true:=by rw [FM];exact decide_eq_true rfl
  simp only [d8,E0,beq_self_eq_true,hn,Bool.not_true,ad,ah hq,M_ hq (show t.r.length<2147483648 by omega),MS hq _ (show t.kids.length<2147483648 by omega) hQ,this]
section
variable {hd:Tm→Int→(Int→Option S)→Option S} {t:Tm}
theorem YF (hk:Fu k) (ret:Int→Option S) (rec1:Int→Int→Option S) {v most:Int} {x:Br Tm} (hv:al t.sys v=some x) (hQ: ∀y∈x.kids,∀n g,∃w,hd y n g=g w) (hl:x.kids.length<1073741824):
  ∀ (r p:List Tm) (m:Nat) (a:Int),x.kids=p++r→r.length<m→ ∃w,eX hd k ret rec1 t most v m a (p.length:Int)=rec1 w (IntKind.wrap .i64 (v+1)):=by
 intro r
 induction r with
 |nil=>
  intro p m a h hm
  obtain ⟨m,rfl,hm'⟩:=ak hm
  exact ⟨a,by simp only [eX,m7,hv,Option.bind_some,aA h,ad]⟩
 |cons y r ih=>
  intro p m a h hm
  obtain ⟨m,rfl,hm'⟩:=ak hm
  obtain ⟨e1,e2,e3,e4⟩:=az h (by omega)
  simp only [eX,m7,hv,e1,ae,e2,Option.bind_some,aD,e3]
  cases decide (a≤most) with
  |false=>exact ⟨a,rfl⟩
  |true=>
   rw [ae]
   obtain ⟨w,hw⟩:=hQ y (by rw [h];simp) (IntKind.wrap .i64 (most-a)) (fun r8=>eX hd k ret rec1 t most v m (IntKind.wrap .i64 (a+r8)) (((p++[y]).length:Nat):Int))
   rw [hw]
   exact ih (p++[y]) m _ e4 hm'
theorem YE (hk:Fu k) (ret:Int→Option S) {most:Int} (hQ: ∀b∈t.sys,∀y∈b.kids,∀n g,∃w,hd y n g=g w) (ht:OkT t):
  ∀ (r p:List (Br Tm)) (m:Nat) (a:Int),t.sys=p++r→r.length<m→ ∃w,eK hd k ret t most m a (p.length:Int)=ret w:=by
 obtain ⟨o1,o2,o3,o4,o5,o6,o7⟩:=ht.no
 intro r
 induction r with
 |nil=>
  intro p m a h hm
  obtain ⟨m,rfl,hm'⟩:=ak hm
  exact ⟨a,by simp only [eK,lG,aA h,ad]⟩
 |cons x r ih=>
  intro p m a h hm
  obtain ⟨m,rfl,hm'⟩:=ak hm
  obtain ⟨e1,e2,e3,e4⟩:=az h (by omega)
  have hx:x∈t.sys:=by rw [h];simp
  have hb:=(ht.bi hx).1
  simp only [eK,lG,e1,ae,e2,Option.bind_some,e3]
  cases decide (a≤most) with
  |false=>exact ⟨a,rfl⟩
  |true=>
   rw [ae]
   cases decide (((x.face.length:Nat):Int)>most) with
   |true=>exact ⟨_,rfl⟩
   |false=>
    rw [ad]
    obtain ⟨w,hw⟩:=YF (t:=t) (most:=most) hk ret (eK hd k ret t most m) e2 (hQ x hx) hb.2.2 x.kids [] k (IntKind.wrap .i64 (IntKind.wrap .i64 (a+1)+((x.face.length:Nat):Int))) rfl (by have:4294967296≤k:=hk;omega)
    have hw:eX hd k ret (eK hd k ret t most m) t most (p.length:Int) k (IntKind.wrap .i64 (IntKind.wrap .i64 (a+1)+((x.face.length:Nat):Int))) 0=_:=hw
    rw [hw,e3]
    exact ih (p++[x]) m w e4 hm'
theorem YD (hk:Fu k) (ret:Int→Option S) {most:Int} (hQ: ∀y∈t.kids,∀n g,∃w,hd y n g=g w) (hQ': ∀b∈t.sys,∀y∈b.kids,∀n g,∃w,hd y n g=g w) (ht:OkT t):
  ∀ (r p:List Tm) (m:Nat) (a:Int),t.kids=p++r→r.length<m→ ∃w,gy hd k ret t most m a (p.length:Int)=ret w:=by
 obtain ⟨o1,o2,o3,o4,o5,o6,o7⟩:=ht.no
 intro r
 have hs:=fun a=>YE (most:=most) hk ret hQ' ht t.sys [] k a rfl (by have:4294967296≤k:=hk;omega)
 induction r with
 |nil=>
  intro p m a h hm
  obtain ⟨m,rfl,hm'⟩:=ak hm
  simp only [gy,lE,aA h,ad]
  exact hs a
 |cons y r ih=>
  intro p m a h hm
  obtain ⟨m,rfl,hm'⟩:=ak hm
  obtain ⟨e1,e2,e3,e4⟩:=az h (by omega)
  simp only [gy,lE,e1,ae,e2,Option.bind_some,aD,e3]
  cases decide (a≤most) with
  |false=>exact hs a
  |true=>
   rw [ae]
   obtain ⟨w,hw⟩:=hQ y (by rw [h];simp) (IntKind.wrap .i64 (most-a)) (fun r2=>gy hd k ret t most m (IntKind.wrap .i64 (a+r2)) (((p++[y]).length:Nat):Int))
   rw [hw]
   exact ih (p++[y]) m _ e4 hm'
end
theorem DJ (t:Tm):OkT t→ ∀ {k:Nat} (most:Int) (ret:Int→Option S),Fd k (au t)→ ∃w,cF k t most ret=ret w:=by
 induction t using d4 with
 |h t ih1 ih2=>
  intro ht k most ret hk
  obtain ⟨q,rfl,hq,hf⟩:=hk.pos' (c8 t)
  obtain ⟨o1,o2,o3,o4,o5,o6,o7⟩:=ht.no
  have hQ: ∀y∈t.kids,∀n (g:Int→Option S),∃w,cF q y n g=g w:=fun y hy n g=>ih1 y hy (ht.ki hy) n g (hf _ (c7 hy))
  have hQ': ∀b∈t.sys,∀y∈b.kids,∀n (g:Int→Option S),∃w,cF q y n g=g w:=fun b hb y hy n g=>ih2 b hb y hy ((ht.bi hb).2 y hy) n g (hf _ (cZ hb hy))
  simp only [cF,yU]
  cases decide (((t.r.length:Nat):Int)>most) with
  |true=>exact ⟨_,rfl⟩
  |false=>
   rw [ad]
   cases decide (((t.name.size:Nat):Int)>most) with
   |true=>exact ⟨_,rfl⟩
   |false=>
    rw [ad]
    exact YD hq ret hQ hQ' ht t.kids [] q _ rfl (by have:4294967296≤q:=hq;omega)
end Go.Proofs.YtapmagaejigpnaaGreatDoor
namespace Go.Proofs.YtapmagaejigpnaaGreatDoor
open Go PI
set_option linter.unusedVariables false
set_option linter.unusedSimpArgs false
set_option maxRecDepth 20000
variable {S:Type} {k:Nat}
def pE {α:Type}:Except Int α→Pan Int α
 | .ok a=> .ok a
 | .error e=> .pan e
def eE {α β:Type} (x:Except Int α) (f:α→β) (g:Int→β):β:=match x with
 | .ok a=>f a
 | .error e=>g e
theorem lX {α β:Type} (x:Except Int α) (f:α→β) (g:Int→β):Pan.elim (pE x) f g=eE x f g:=by cases x<;>rfl
theorem aZ {α β γ:Type} (x:Except Int α) (f:α→Except Int β) (u:β→γ) (w:Int→γ):eE (bE x f) u w=eE x (fun a=>eE (f a) u w) w:=by cases x<;>rfl
theorem aU {α β:Type} (a:α) (f:α→β) (g:Int→β):eE (.ok a) f g=f a:=rfl
theorem abY {α:Type} (x:Except Int α) (ret:Pan Int α→Option S):ret (pE x)=eE x (fun a=>ret (.ok a)) fun e=>ret (.pan e):=by cases x<;>rfl
def aN:Tm:= .mk 0 0 ByteArray.empty [] [] []
def bH (e:Int):Tm:= .mk (-e) 0 ByteArray.empty [] [] []
def rE:Except Int Tm→Tm
 | .ok t=>t
 | .error e=>bH e
def tE:Except Int Tm→Tm×Int
 | .ok t=>(t,0)
 | .error e=>(aN,e)
theorem jI (x:Except Int Tm) (ret:Tm→Option S):ret (rE x)=eE x ret fun e=>ret (bH e):=by cases x<;>rfl
theorem bR {α β:Type} {x:Except Int α} {f f':α→β} {g g':Int→β} (h: ∀a,x= .ok a→f a=f' a) (h': ∀e,x= .error e→g e=g' e):eE x f g=eE x f' g':=by
 cases x with
 |ok a=>exact h a rfl
 |error e=>exact h' e rfl
theorem MU (hk:Fu k) {a b d:Int} {f:List Cl} (hf:am f) (hl:f.length<1073741824) (hd:aE d) (hb:aE b) (ret:Pan Int (List Cl)→Option S):rj k a b f d ret=ret (pE (cE d b f)):=by
 simp only [rj,Oq,ah hk,tG hk hf hl hd hb,a7,aK,aV (show 0+f.length≤1099511627776 by omega)]
 unfold cE
 by_cases h0:b=0
 ·rw [if_pos h0,if_pos (.inl h0)];rfl
 ·rw [if_neg h0]
  by_cases h1:d≥24
  ·rw [if_pos h1,if_pos (.inr h1)];rfl
  ·rw [if_neg h1,if_neg (show ¬ (b=0∨d≥24) by omega)]
   by_cases h2:(ba f d b).2=0
   ·rw [decide_eq_true h2,fL h2];rfl
   ·rw [decide_eq_false h2,eQ h2];rfl
theorem MW (hk:Fu k) {b d:Int} {f:List Cl} (hf:RF f) (hd:0≤d∧d<9223372036854775808) (hb:0≤b∧b<9223372036854775808) (ret:List Cl×Int→Option S): ∃z:List Cl×Int,ct z=cE d b f∧rA k f d b ret=ret z:=by
 have hl:=hf.len
 simp only [rA,OW,ah hk,yG hk hf.2 (show f.length<1073741824 by omega) (show aE d by unfold aE;omega) (show aE b by unfold aE;omega),oR,aK]
 by_cases h0:f.length=0
 ·refine ⟨([],0), ?_,by rw [if_pos h0]⟩
  have:=List.length_eq_zero_iff.1 h0
  subst this
  rw [yB];rfl
 ·refine ⟨ba f d b, ?_,by rw [if_neg h0]⟩
  unfold cE
  split
  ·next h=>rw [Z6 hf hd.1 hb.1 h];rfl
  ·rfl
section
variable {hd:Int→Int→Tm→Int→Int→(Pan Int Tm→Option S)→Option S} {vb db v d:Int} {t:Tm}
theorem Zb (hk:Fu k) (ret:Pan Int Tm→Option S) (rec2:List (Br Tm)→Int→Int→Option S) {r12 r2:List Cl} {b1 v90:Int} {ks:List Tm} {o:List (Br Tm)} {x:Br Tm} {more:Int} (hm:more=av t.kind)
  (hd0:0≤d∧d<4611686018427387904) (hQ: ∀y∈x.kids,∀g,hd vb db y v (d+more) g=g (pE (bA vb db v (d+more) y))) (hl:x.kids.length<1073741824) (ho:o.length<1073741824):
  ∀ (r p:List Tm) (m:Nat) (acc:List Tm),x.kids=p++r→r.length<m→acc.length=p.length→
  kM hd k ret rec2 r12 vb db t b1 r2 ks o x more v d v90 m acc (p.length:Int)=eE (dL vb db v d t.kind r) (fun l=>rec2 (o++[⟨r12,acc++l⟩]) more (IntKind.wrap .i64 (v90+1))) fun e=>ret (.pan e):=by
 subst hm
 have hmo:=dY t.kind
 intro r
 induction r with
 |nil=>
  intro p m acc h hm ha
  obtain ⟨m,rfl,hm'⟩:=ak hm
  simp only [kM,uD,aA h,ad,dL,aU,List.append_nil]
  rw [aV (by simp;omega)]
 |cons y r ih=>
  intro p m acc h hm ha
  obtain ⟨m,rfl,hm'⟩:=ak hm
  obtain ⟨e1,e2,e3,e4⟩:=az h (by omega)
  have hpl:p.length<x.kids.length:=by rw [h];simp
  have hy:=hQ y (by rw [h];simp)
  simp only [kM,uD,e1,ae,e2,Option.bind_some,aD,bh (n:=d+av t.kind) (by omega) (by omega),hy,lX,dL,aZ,aU]
  refine bR (fun t' ht'=> ?_) fun e _=>rfl
  rw [aV (by simp;omega),e3,ih (p++[y]) m (acc++[t']) e4 hm' (by simp;omega)]
  simp
theorem Za (hk:Fu k) (ret:Pan Int Tm→Option S) {r2:List Cl} {b1:Int} {ks:List Tm} {more:Int} (hm:more=av t.kind) (ht:OkT t) (hdb:aE db) (hd0:0≤d∧d<4611686018427387904)
  (hQ: ∀b∈t.sys,∀y∈b.kids,∀g,hd vb db y v (d+more) g=g (pE (bA vb db v (d+more) y))):
  ∀ (r p:List (Br Tm)) (m:Nat) (o:List (Br Tm)),t.sys=p++r→r.length<m→o.length=p.length→
  eW hd k ret vb db t b1 r2 ks v d m o more (p.length:Int)=eE (dO vb db v d t.kind r) (fun l=>ret (.ok (.mk t.kind b1 t.name r2 ks (o++l)))) fun e=>ret (.pan e):=by
 obtain ⟨o1,o2,o3,o4,o5,o6,o7⟩:=ht.no
 intro r
 induction r with
 |nil=>
  intro p m o h hml ho
  obtain ⟨m,rfl,hm'⟩:=ak hml
  simp only [eW,qf,aA h,ad,dO,aU,List.append_nil]
 |cons x r ih=>
  intro p m o h hml ho
  obtain ⟨m,rfl,hm'⟩:=ak hml
  obtain ⟨e1,e2,e3,e4⟩:=az h (by omega)
  have hx:x∈t.sys:=by rw [h];simp
  have hpl:p.length<t.sys.length:=by rw [h];simp
  have hb:=(ht.bi hx).1
  have hrow:=MU (S:=S) hk (a:=vb) hb.1 hb.2.1 (show aE d by unfold aE;omega) hdb
  have:=fun r12=>Zb hk ret (eW hd k ret vb db t b1 r2 ks v d m) (r12:=r12) (r2:=r2) (b1:=b1) (v90:=(p.length:Int)) (ks:=ks) (o:=o) hm hd0 (hQ x hx) hb.2.2 (by omega) x.kids [] k [] rfl (by have:4294967296≤k:=hk;omega) rfl
  have this: ∀r12,kM hd k ret (eW hd k ret vb db t b1 r2 ks v d m) r12 vb db t b1 r2 ks o x more v d (p.length:Int) k [] 0=_:=this
  have hB:my vb db v d t.kind x=bE (cE d db x.face) fun f'=>bE (dL vb db v d t.kind x.kids) fun ks'=> .ok (.mk f' ks'):=by cases x;rw [my]
  simp only [eW,qf,e1,ae,e2,Option.bind_some,ah hk,hrow,lX,this,dO,hB,aZ,aU,List.nil_append,e3]
  refine bR (fun f' _=>bR (fun ks' _=> ?_) fun e _=>rfl) fun e _=>rfl
  rw [ih (p++[x]) m (o++[Br.mk f' ks']) e4 hm' (by simp;omega)]
  simp
theorem Y_ (hk:Fu k) (ret:Pan Int Tm→Option S) {r2:List Cl} {b1:Int} (ht:OkT t) (hdb:aE db) (hd0:0≤d∧d<4611686018427387904) (hv0:0≤v∧v<4611686018427387904)
  (hQ: ∀y∈t.kids,∀a b,0≤a∧a≤1→0≤b∧b≤1→ ∀g,hd vb db y (v+a) (d+b) g=g (pE (bA vb db (v+a) (d+b) y))) (hQ': ∀b∈t.sys,∀y∈b.kids,∀g,hd vb db y v (d+av t.kind) g=g (pE (bA vb db v (d+av t.kind) y))):
  ∀ (r p:List Tm) (m:Nat) (acc:List Tm),t.kids=p++r→r.length<m→acc.length=p.length→
  js hd k ret vb db t b1 r2 v d m acc (p.length:Int)=eE (eh vb db v d t.kind p.length r) (fun l=>eE (dO vb db v d t.kind t.sys) (fun s=>ret (.ok (.mk t.kind b1 t.name r2 (acc++l) s))) fun e=>ret (.pan e)) fun e=>ret (.pan e):=by
 obtain ⟨o1,o2,o3,o4,o5,o6,o7⟩:=ht.no
 intro r
 induction r with
 |nil=>
  intro p m acc h hm ha
  obtain ⟨m,rfl,hm'⟩:=ak hm
  have hs:eW hd k ret vb db t b1 r2 acc v d k [] (av t.kind) 0=_:=Za hk ret rfl ht hdb hd0 hQ' t.sys [] k [] rfl (by have:4294967296≤k:=hk;omega) rfl
  simp only [js,qe,aA h,ad,eh,aU,List.append_nil]
  rw [co]
  have he:(if (t.kind==15)=true then eW hd k ret vb db t b1 r2 acc v d k [] 1 0 else eW hd k ret vb db t b1 r2 acc v d k [] 0 0)=eW hd k ret vb db t b1 r2 acc v d k [] (av t.kind) 0:=by
   unfold av
   by_cases h15:t.kind=15
   ·rw [if_pos h15,if_pos (by rw [h15];rfl)]
   ·rw [if_neg h15,if_neg (by rw [beq_iff_eq];exact h15)]
  rw [he,hs]
  simp only [List.nil_append]
 |cons y r ih=>
  intro p m acc h hm ha
  obtain ⟨m,rfl,hm'⟩:=ak hm
  obtain ⟨e1,e2,e3,e4⟩:=az h (by omega)
  have hpl:p.length<t.kids.length:=by rw [h];simp
  have b1':=vn t.kind p.length
  have b2':=gi t.kind p.length
  have hy:=hQ y (by rw [h];simp) (dE t.kind p.length) (bK t.kind p.length) b1' b2'
  simp only [js,qe,e1,ae,e2,Option.bind_some,ah hk,pA,aD,bh (n:=v+dE t.kind p.length) (by omega) (by omega),bh (n:=d+bK t.kind p.length) (by omega) (by omega),hy,lX,eh,aZ,aU]
  refine bR (fun t' ht'=> ?_) fun e _=>rfl
  rw [aV (by simp;omega),e3,ih (p++[y]) m (acc++[t']) e4 hm' (by simp;omega),show (p++[y]).length=p.length+1 by simp]
  simp
end
theorem B0 (vb db v d:Int) (t:Tm):bA vb db v d t=if t.kind=1∧t.n≥v∧t.n>1000000000-vb then .error 100 else bE (cE d db t.r) fun r'=>bE (eh vb db v d t.kind 0 t.kids) fun ks'=>bE (dO vb db v d t.kind t.sys) fun sys'=> .ok (.mk t.kind (if t.kind=1∧t.n≥v then t.n+vb else t.n) t.name r' ks' sys'):=by cases t;rw [bA];rfl
theorem RowsT.no {t:Tm} (h:RowsT t):RF t.r∧(t.kind=1→t.r=[])∧0≤t.kind:=by cases t;rw [RowsT] at h;exact h.1
theorem RowsT.ki {t x:Tm} (h:RowsT t) (hx:x∈t.kids):RowsT x:=by cases t;rw [RowsT] at h;exact rowsK_iff.1 h.2.1 x hx
theorem RowsT.bi {t:Tm} {b:Br Tm} (h:RowsT t) (hb:b∈t.sys):RF b.face∧ ∀x∈b.kids,RowsT x:=by cases t;rw [RowsT] at h;exact rowsS_iff.1 h.2.2 b hb
def VP (v d:Int) (n:Nat):Prop:=0≤v∧v+n<4611686018427387904∧0≤d∧d+n<4611686018427387904
theorem DH {vb db:Int} (hvb:0≤vb∧vb≤1000000000) (hdb:aE db) (t:Tm):OkT t→RowsT t→ ∀ {k:Nat} {v d:Int} (ret:Pan Int Tm→Option S),Fd k (au t)→VP v d (au t)→dv k vb db t v d ret=ret (pE (bA vb db v d t)):=by
 induction t using d4 with
 |h t ih1 ih2=>
  intro ht hro k v d ret hk hv
  obtain ⟨q,rfl,hq,hf⟩:=hk.pos' (c8 t)
  obtain ⟨q',hq'⟩: ∃q',q=q'+1:=⟨q-1,by have:4294967296≤q:=hq;omega⟩
  have hp:=c8 t
  unfold VP at hv
  obtain ⟨o1,o2,o3,o4,o5,o6,o7⟩:=ht.no
  have hmo:=dY t.kind
  have hQ: ∀y∈t.kids,∀a b,0≤a∧a≤1→0≤b∧b≤1→ ∀g:Pan Int Tm→Option S,dv q vb db y (v+a) (d+b) g=g (pE (bA vb db (v+a) (d+b) y)):=fun y hy a b h1 h2 g=>
   ih1 y hy (ht.ki hy) (hro.ki hy) g (hf _ (c7 hy)) (by have:=c7 hy;unfold VP;omega)
  have hQ': ∀b∈t.sys,∀y∈b.kids,∀g:Pan Int Tm→Option S,dv q vb db y v (d+av t.kind) g=g (pE (bA vb db v (d+av t.kind) y)):=fun b hb y hy g=>
   ih2 b hb y hy ((ht.bi hb).2 y hy) ((hro.bi hb).2 y hy) g (hf _ (cZ hb hy)) (by have:=cZ hb hy;unfold VP;omega)
  have h1:=fun r2 b1=>Y_ (r2:=r2) (b1:=b1) hq ret ht hdb (show 0≤d∧d<4611686018427387904 by omega) (show 0≤v∧v<4611686018427387904 by omega) hQ hQ' t.kids [] q [] rfl (by have:4294967296≤q:=hq;omega) rfl
  have h0: ∀r2 b1,sy (dv q) q ret vb db t r2 v d q b1=js (dv q) q ret vb db t b1 r2 v d q [] 0:=by
   intro r2 b1
   have: ∀j,j=q'+1→sy (dv q) q ret vb db t r2 v d j b1=js (dv q) q ret vb db t b1 r2 v d q [] 0:=by rintro j rfl;rfl
   exact this q hq'
  have h2: ∀r2 b1,sy (dv q) q ret vb db t r2 v d q b1=_:=fun r2 b1=>(h0 r2 b1).trans (h1 r2 b1)
  have hrow:=MU (S:=S) hq (a:=vb) o4 o5 (show aE d by unfold aE;omega) hdb
  simp only [dv,Ez,ah hq,hrow,lX,h2,List.length_nil,List.nil_append]
  rw [abY _ ret,B0]
  unfold aE at o2
  by_cases hc:t.kind=1
  ·have hr:=hro.no.2.1 hc
   rw [hr,yB,aU,hc,show ((1:Int)==1)=true from rfl,ae,aK]
   by_cases hn:t.n≥v
   ·rw [if_pos hn,bh (n:=1000000000-vb) (by omega) (by omega),aK]
    by_cases hb:t.n>1000000000-vb
    ·rw [if_pos hb,if_pos (show (1:Int)=1∧t.n≥v∧t.n>1000000000-vb from ⟨rfl,hn,hb⟩)];rfl
    ·rw [if_neg hb,if_neg (show ¬ ((1:Int)=1∧t.n≥v∧t.n>1000000000-vb) from fun h=>hb h.2.2),ao,aZ]
     rw [if_pos (show (1:Int)=1∧t.n≥v from ⟨rfl,hn⟩),bh (n:=t.n+vb) (by omega) (by omega)]
     simp only [aZ,aU]
   ·rw [if_neg hn,if_neg (show ¬ ((1:Int)=1∧t.n≥v∧t.n>1000000000-vb) from fun h=>hn h.2.1),ao,aZ]
    rw [if_neg (show ¬ ((1:Int)=1∧t.n≥v) from fun h=>hn h.2)]
    simp only [aZ,aU]
  ·have hc':(t.kind==1)=false:=by rw [beq_eq_false_iff_ne];exact hc
   rw [hc',if_neg (show ¬ (t.kind=1∧t.n≥v∧t.n>1000000000-vb) from fun h=>hc h.1)]
   simp only [ad,aZ,aU,if_neg (show ¬ (t.kind=1∧t.n≥v) from fun h=>hc h.1)]
theorem jL {e:Int} (he:0<e∧e≤1000) (ret:Int×Int×ByteArray→Option S):d9 k e ret=ret (-e,0,ByteArray.empty):=by
 simp only [d9,OT,bh (n:=0-e) (by omega) (by omega)]
 rw [Int.zero_sub]
theorem jr {e:Int} (he:0<e):decide ((bH e).kind<0)=true:=decide_eq_true (show-e<0 by omega)
section
variable {hd:Tm→Int→Int→Int→Int→(Tm→Option S)→Option S} {vb db v d:Int} {t:Tm}
theorem tj {x:Except Int Tm} (hx: ∀e,x= .error e→0<e) (hx': ∀y,x= .ok y→0≤y.kind) (f:Tm→Option S) (ret:Tm→Option S):
  (fun r:Tm=>ab (decide (r.kind<0)) (ret r) (f r)) (rE x)=eE x f fun e=>ret (bH e):=by
 cases x with
 |error e=>show ab _ _ _=_;rw [show rE (.error e)=bH e from rfl,jr (hx e rfl),ae];rfl
 |ok y=>show ab _ _ _=_;rw [show rE (.ok y)=y from rfl,decide_eq_false (by have:=hx' y rfl;omega),ad];rfl
theorem mA {vb db v d:Int} {x y:Tm} (h:bA vb db v d x= .ok y):y.kind=x.kind:=by
 rw [B0] at h
 split at h
 ·cases h
 ·obtain ⟨_,_,h⟩:=aM h
  obtain ⟨_,_,h⟩:=aM h
  obtain ⟨_,_,h⟩:=aM h
  injection h with h;subst h;rfl
theorem ZG (hk:Fu k) (ret:Tm→Option S) (rec2:List (Br Tm)→Int→Option S) {r9 r2:List Cl×Int} {b1 i18:Int} {ks:List Tm} {o:List (Br Tm)} {x:Br Tm} (hi:al t.sys i18=some x)
  (hd0:0≤d∧d<4611686018427387904) (hQ: ∀y∈x.kids,∀g,hd y v vb (d+av t.kind) db g=g (rE (bA vb db v (d+av t.kind) y))) (hkd: ∀y∈x.kids,0≤y.kind) (hl:x.kids.length<1073741824) (ho:o.length<1073741824):
  ∀ (r p:List Tm) (m:Nat) (acc:List Tm),x.kids=p++r→r.length<m→acc.length=p.length→
  ir hd k ret rec2 t b1 r2 ks o r9 v i18 vb d db m acc (p.length:Int)=eE (dL vb db v d t.kind r) (fun l=>rec2 (o++[⟨r9.1,acc++l⟩]) (IntKind.wrap .i64 (i18+1))) fun e=>ret (bH e):=by
 have hmo:=dY t.kind
 intro r
 induction r with
 |nil=>
  intro p m acc h hm ha
  obtain ⟨m,rfl,hm'⟩:=ak hm
  simp only [ir,u9,hi,Option.bind_some,aA h,ad,dL,aU,List.append_nil]
  rw [aV (by simp;omega)]
 |cons y r ih=>
  intro p m acc h hm ha
  obtain ⟨m,rfl,hm'⟩:=ak hm
  obtain ⟨e1,e2,e3,e4⟩:=az h (by omega)
  have hpl:p.length<x.kids.length:=by rw [h];simp
  have hym:y∈x.kids:=by rw [h];simp
  have hy:=hQ y hym
  simp only [ir,u9,hi,e1,ae,e2,Option.bind_some,ah hk,DM,aD,bh (n:=d+av t.kind) (by omega) (by omega),hy]
  refine Eq.trans (tj (fun e he=>(jz y he).1) (fun z hz=>by rw [mA hz];exact hkd y hym) (fun z=>Option.bind (ax 1099511627776 acc.length [z].length) fun _=>ir hd k ret rec2 t b1 r2 ks o r9 v i18 vb d db m (acc++[z]) (IntKind.wrap .i64 ((p.length:Int)+1))) ret) ?_
  simp only [dL,aZ,aU]
  refine bR (fun t' ht'=> ?_) fun e _=>rfl
  rw [aV (by simp;omega),e3,ih (p++[y]) m (acc++[t']) e4 hm' (by simp;omega)]
  simp
theorem tT {z:List Cl×Int} {α:Type} (f:List Cl→α) (g:Int→α):ab (!(z.2==0)) (g z.2) (f z.1)=eE (ct z) f g:=by
 rw [a7]
 unfold ct
 by_cases h:z.2=0
 ·rw [decide_eq_true h,if_pos h];rfl
 ·rw [decide_eq_false h,if_neg h];rfl
theorem ZF (hk:Fu k) (ret:Tm→Option S) {r2:List Cl×Int} {b1:Int} {ks:List Tm} (ht:OkT t) (hro:RowsT t) (hdb:0≤db∧db<9223372036854775808) (hd0:0≤d∧d<4611686018427387904)
  (hQ: ∀b∈t.sys,∀y∈b.kids,∀g,hd y v vb (d+av t.kind) db g=g (rE (bA vb db v (d+av t.kind) y))):
  ∀ (r p:List (Br Tm)) (m:Nat) (o:List (Br Tm)),t.sys=p++r→r.length<m→o.length=p.length→
  eL hd k ret t b1 r2 ks v vb d db m o (p.length:Int)=eE (dO vb db v d t.kind r) (fun l=>ret (.mk t.kind b1 t.name r2.1 ks (o++l))) fun e=>ret (bH e):=by
 obtain ⟨o1,o2,o3,o4,o5,o6,o7⟩:=ht.no
 intro r
 induction r with
 |nil=>
  intro p m o h hml ho
  obtain ⟨m,rfl,hm'⟩:=ak hml
  simp only [eL,qF,aA h,ad,dO,aU,List.append_nil]
 |cons x r ih=>
  intro p m o h hml ho
  obtain ⟨m,rfl,hm'⟩:=ak hml
  obtain ⟨e1,e2,e3,e4⟩:=az h (by omega)
  have hx:x∈t.sys:=by rw [h];simp
  have hpl:p.length<t.sys.length:=by rw [h];simp
  have hb:=(ht.bi hx).1
  obtain ⟨z,hz,hrow⟩:=MW (S:=S) hk (hro.bi hx).1 (show 0≤d∧d<9223372036854775808 by omega) hdb (fun r9=>ab (!(r9.2==0)) (d9 k r9.2 fun r10=>ret (Tm.mk r10.1 r10.2.1 r10.2.2 [] [] []))
   (ir hd k ret (eL hd k ret t b1 r2 ks v vb d db m) t b1 r2 ks o r9 v (p.length:Int) vb d db k [] 0))
  have:=ZG (r9:=z) (r2:=r2) (b1:=b1) (ks:=ks) (o:=o) hk ret (eL hd k ret t b1 r2 ks v vb d db m) e2 hd0 (hQ x hx) (fun y hy=>((hro.bi hx).2 y hy).no.2.2) hb.2.2 (by omega) x.kids [] k [] rfl (by have:4294967296≤k:=hk;omega) rfl
  have this:ir hd k ret (eL hd k ret t b1 r2 ks v vb d db m) t b1 r2 ks o z v (p.length:Int) vb d db k [] 0=_:=this
  have hB:my vb db v d t.kind x=bE (cE d db x.face) fun f'=>bE (dL vb db v d t.kind x.kids) fun ks'=> .ok (.mk f' ks'):=by cases x;rw [my]
  simp only [eL,qF,e1,ae,e2,Option.bind_some,ah hk,hrow,this,dO,hB,aZ,aU,List.nil_append,e3]
  have hbad:ab (!(z.2==0)) (d9 k z.2 fun r10=>ret (Tm.mk r10.1 r10.2.1 r10.2.2 [] [] [])) (eE (dL vb db v d t.kind x.kids) (fun l=>eL hd k ret t b1 r2 ks v vb d db m (o++[Br.mk z.1 l]) (((p++[x]).length:Nat):Int)) fun e=>ret (bH e))
    =ab (!(z.2==0)) (ret (bH z.2)) (eE (dL vb db v d t.kind x.kids) (fun l=>eL hd k ret t b1 r2 ks v vb d db m (o++[Br.mk z.1 l]) (((p++[x]).length:Nat):Int)) fun e=>ret (bH e)):=by
   by_cases h0:z.2=0
   ·rw [h0];rfl
   ·have hze:ct z= .error z.2:=eQ h0
    rw [hz] at hze
    rw [jL (yA hze)];rfl
  rw [hbad,tT (z:=z) (fun f'=>eE (dL vb db v d t.kind x.kids) (fun l=>eL hd k ret t b1 r2 ks v vb d db m (o++[Br.mk f' l]) (((p++[x]).length:Nat):Int)) fun e=>ret (bH e)) (fun e=>ret (bH e)),hz]
  refine bR (fun f' _=>bR (fun ks' _=> ?_) fun e _=>rfl) fun e _=>rfl
  rw [ih (p++[x]) m (o++[Br.mk f' ks']) e4 hm' (by simp;omega)]
  simp
theorem ZE (hk:Fu k) (ret:Tm→Option S) {r2:List Cl×Int} {b1:Int} (ht:OkT t) (hro:RowsT t) (hdb:0≤db∧db<9223372036854775808) (hd0:0≤d∧d<4611686018427387904) (hv0:0≤v∧v<4611686018427387904)
  (hQ: ∀y∈t.kids,∀a b,0≤a∧a≤1→0≤b∧b≤1→ ∀g,hd y (v+a) vb (d+b) db g=g (rE (bA vb db (v+a) (d+b) y))) (hQ': ∀b∈t.sys,∀y∈b.kids,∀g,hd y v vb (d+av t.kind) db g=g (rE (bA vb db v (d+av t.kind) y))):
  ∀ (r p:List Tm) (m:Nat) (acc:List Tm),t.kids=p++r→r.length<m→acc.length=p.length→
  gD hd k ret t b1 r2 v vb d db m acc (p.length:Int)=eE (eh vb db v d t.kind p.length r) (fun l=>eE (dO vb db v d t.kind t.sys) (fun s=>ret (.mk t.kind b1 t.name r2.1 (acc++l) s)) fun e=>ret (bH e)) fun e=>ret (bH e):=by
 obtain ⟨o1,o2,o3,o4,o5,o6,o7⟩:=ht.no
 intro r
 induction r with
 |nil=>
  intro p m acc h hm ha
  obtain ⟨m,rfl,hm'⟩:=ak hm
  have hs:eL hd k ret t b1 r2 acc v vb d db k [] 0=_:=ZF hk ret ht hro hdb hd0 hQ' t.sys [] k [] rfl (by have:4294967296≤k:=hk;omega) rfl
  simp only [gD,qE,aA h,ad,eh,aU,List.append_nil,hs,List.nil_append]
 |cons y r ih=>
  intro p m acc h hm ha
  obtain ⟨m,rfl,hm'⟩:=ak hm
  obtain ⟨e1,e2,e3,e4⟩:=az h (by omega)
  have hpl:p.length<t.kids.length:=by rw [h];simp
  have b1':=vn t.kind p.length
  have b2':=gi t.kind p.length
  have hym:y∈t.kids:=by rw [h];simp
  have hy:=hQ y hym (dE t.kind p.length) (bK t.kind p.length) b1' b2'
  simp only [gD,qE,e1,ae,e2,Option.bind_some,ah hk,DI hk,aD,bh (n:=v+dE t.kind p.length) (by omega) (by omega),bh (n:=d+bK t.kind p.length) (by omega) (by omega),hy]
  refine Eq.trans (tj (fun e he=>(jz y he).1) (fun z hz=>by rw [mA hz];exact (hro.ki hym).no.2.2) (fun z=>Option.bind (ax 1099511627776 acc.length [z].length) fun _=>gD hd k ret t b1 r2 v vb d db m (acc++[z]) (IntKind.wrap .i64 ((p.length:Int)+1))) ret) ?_
  simp only [eh,aZ,aU]
  refine bR (fun t' ht'=> ?_) fun e _=>rfl
  rw [aV (by simp;omega),e3,ih (p++[y]) m (acc++[t']) e4 hm' (by simp;omega),show (p++[y]).length=p.length+1 by simp]
  simp
end
theorem DO {vb db:Int} (hvb:0≤vb∧vb≤1000000000) (hdb:0≤db∧db<9223372036854775808) (t:Tm):OkT t→RowsT t→ ∀ {k:Nat} {v d:Int} (ret:Tm→Option S),Fd k (au t)→VP v d (au t)→cY k t v vb d db ret=ret (rE (bA vb db v d t)):=by
 induction t using d4 with
 |h t ih1 ih2=>
  intro ht hro k v d ret hk hv
  obtain ⟨q,rfl,hq,hf⟩:=hk.pos' (c8 t)
  obtain ⟨q',hq'⟩: ∃q',q=q'+1:=⟨q-1,by have:4294967296≤q:=hq;omega⟩
  have hp:=c8 t
  unfold VP at hv
  obtain ⟨o1,o2,o3,o4,o5,o6,o7⟩:=ht.no
  have hmo:=dY t.kind
  have hQ: ∀y∈t.kids,∀a b,0≤a∧a≤1→0≤b∧b≤1→ ∀g:Tm→Option S,cY q y (v+a) vb (d+b) db g=g (rE (bA vb db (v+a) (d+b) y)):=fun y hy a b h1 h2 g=>
   ih1 y hy (ht.ki hy) (hro.ki hy) g (hf _ (c7 hy)) (by have:=c7 hy;unfold VP;omega)
  have hQ': ∀b∈t.sys,∀y∈b.kids,∀g:Tm→Option S,cY q y v vb (d+av t.kind) db g=g (rE (bA vb db v (d+av t.kind) y)):=fun b hb y hy g=>
   ih2 b hb y hy ((ht.bi hb).2 y hy) ((hro.bi hb).2 y hy) g (hf _ (cZ hb hy)) (by have:=cZ hb hy;unfold VP;omega)
  have h1:=fun r2 b1=>ZE (r2:=r2) (b1:=b1) hq ret ht hro hdb (show 0≤d∧d<4611686018427387904 by omega) (show 0≤v∧v<4611686018427387904 by omega) hQ hQ' t.kids [] q [] rfl (by have:4294967296≤q:=hq;omega) rfl
  have h1: ∀r2 b1,gD (cY q) q ret t b1 r2 v vb d db q [] 0=_:=h1
  have h0: ∀b1,xq (cY q) q ret t v vb d db q b1=eE (cE d db t.r) (fun r'=>eE (eh vb db v d t.kind 0 t.kids) (fun l=>eE (dO vb db v d t.kind t.sys) (fun s=>ret (.mk t.kind b1 t.name r' l s)) fun e=>ret (bH e)) fun e=>ret (bH e)) fun e=>ret (bH e):=by
   intro b1
   have: ∀j,j=q'+1→xq (cY q) q ret t v vb d db j b1=qD (cY q) q ret t v vb d db (fun b11_1 r2 b11_4 i14=>gD (cY q) q ret t b11_1 r2 v vb d db q b11_4 i14) b1:=by rintro j rfl;rfl
   rw [this q hq']
   obtain ⟨z,hz,hrow⟩:=MW (S:=S) hq hro.no.1 (show 0≤d∧d<9223372036854775808 by omega) hdb (fun r2=>ab (!(r2.2==0)) (d9 q r2.2 fun r3=>ret (Tm.mk r3.1 r3.2.1 r3.2.2 [] [] [])) (gD (cY q) q ret t b1 r2 v vb d db q [] 0))
   simp only [qD,ah hq,hrow]
   rw [h1]
   simp only [List.nil_append]
   rw [←hz]
   by_cases hz0:z.2=0
   ·rw [fL hz0,hz0];rfl
   ·have hze:ct z= .error z.2:=eQ hz0
    have hze':=hze
    rw [hz] at hze'
    rw [hze,a7,decide_eq_false hz0,Bool.not_false,ae,jL (yA hze')];rfl
  simp only [cY,E5,ah hq,h0]
  rw [jI _ ret,B0]
  unfold aE at o2
  by_cases hc:t.kind=1
  ·rw [hc,show ((1:Int)==1)=true from rfl,ae,aK]
   by_cases hn:t.n≥v
   ·rw [if_pos hn,bh (n:=1000000000-vb) (by omega) (by omega),aK]
    by_cases hb:t.n>1000000000-vb
    ·rw [if_pos hb,if_pos (show (1:Int)=1∧t.n≥v∧t.n>1000000000-vb from ⟨rfl,hn,hb⟩),jL (by omega)];rfl
    ·rw [if_neg hb,if_neg (show ¬ ((1:Int)=1∧t.n≥v∧t.n>1000000000-vb) from fun h=>hb h.2.2)]
     rw [if_pos (show (1:Int)=1∧t.n≥v from ⟨rfl,hn⟩),bh (n:=t.n+vb) (by omega) (by omega)]
     simp only [aZ,aU]
   ·rw [if_neg hn,if_neg (show ¬ ((1:Int)=1∧t.n≥v∧t.n>1000000000-vb) from fun h=>hn h.2.1)]
    rw [if_neg (show ¬ ((1:Int)=1∧t.n≥v) from fun h=>hn h.2)]
    simp only [aZ,aU]
  ·have hc':(t.kind==1)=false:=by rw [beq_eq_false_iff_ne];exact hc
   rw [hc',if_neg (show ¬ (t.kind=1∧t.n≥v∧t.n>1000000000-vb) from fun h=>hc h.1)]
   simp only [ad,aZ,aU,if_neg (show ¬ (t.kind=1∧t.n≥v) from fun h=>hc h.1)]
end Go.Proofs.YtapmagaejigpnaaGreatDoor
namespace Go.Proofs.YtapmagaejigpnaaGreatDoor
open Go PI
set_option linter.unusedVariables false
set_option linter.unusedSimpArgs false
set_option maxRecDepth 20000
variable {S:Type} {k:Nat}
theorem kr {t:Tm} (h:cx t=0):au t≤200∧ay t≤20000∧bq false (-1) 24 t=true:=by
 unfold cx at h
 split at h
 ·cases h
 ·split at h
  ·cases h
  ·split at h
   ·next h1 h2 h3=>exact ⟨by omega,by omega,h3⟩
   ·cases h
theorem G_ {t:Tm} (h1:au t≤200) (h2:ay t≤20000) (h3:bq false (-1) 24 t=true):cx t=0:=by
 unfold cx
 rw [if_neg (by omega),if_neg (by omega),if_pos h3]
theorem G9 (t:Tm):0≤cx t∧cx t≤1000:=by
 unfold cx
 split
 ·omega
 ·split
  ·omega
  ·split<;>omega
def Fm (t:Tm):Prop:=OkT t∧cx t=0
theorem Fm.ok {t:Tm} (h:Fm t):OkT t:=h.1
theorem Fm.rows {t:Tm} (h:Fm t):RowsT t:=Un t h.1 (kr h.2).2.2
theorem Fm.dep {t:Tm} (h:Fm t):au t≤200:=(kr h.2).1
theorem Fm.siz {t:Tm} (h:Fm t):ay t≤20000:=(kr h.2).2.1
theorem mz {vb db v d:Int} (hvb:0≤vb∧vb≤1000000000) {t t':Tm} (h:Fm t) (hl:bA vb db v d t= .ok t'):Fm t':=by
 obtain ⟨h1,h2,h3,h4⟩:=B1 hvb.1 hvb.2 t v d t' hl
 obtain ⟨a,b,c⟩:=kr h.2
 have:=h4 h.1
 exact ⟨this.1,G_ (by omega) (by omega) (this.2.2 24 24 (by omega) (by omega) c)⟩
abbrev F3 (k:Nat):Prop:=4294968296≤k
theorem F3.fu (h:F3 k):Fu k:=by have:4294968296≤k:=h;show 4294967296≤k;omega
theorem F3.fd (h:F3 k) {n:Nat} (hn:n≤1000):Fd k n:=by have:4294968296≤k:=h;show 4294967296+n≤k;omega
theorem Fm.fd {t:Tm} (h:Fm t) (hk:F3 k):Fd k (au t):=hk.fd (by have:=h.dep;omega)
theorem Fm.vp {t:Tm} (h:Fm t) {v d:Int} (hv:0≤v∧v≤4611686018427380000) (hd:0≤d∧d≤4611686018427380000):VP v d (au t):=by have:=h.dep;unfold VP;omega
theorem jJ (x:Except Int Tm) (ret:Tm×Int→Option S):ret (tE x)=eE x (fun t=>ret (t,0)) fun e=>ret (aN,e):=by cases x<;>rfl
theorem Y4 (hk:Fu k) (ret:Tm×Int→Option S) {c0 c2:Int} {c1:Tm} {ns:List Int} (hl:ns.length<1000) (hn: ∀x∈ns,0≤x):
  ∀ (r p:List Int) (m:Nat),ns=p++r→r.length<m→me k ret c0 c1 c2 ns m (p.length:Int)=wc k c0 c1 c2 fun r4=>Pan.elim r4 (fun r4=>ret (r4,0)) fun e5=>ret (aN,e5):=by
 intro r
 induction r with
 |nil=>
  intro p m h hm
  obtain ⟨m,rfl,hm'⟩:=ak hm
  simp only [me,uB,aA h,ad,ah hk,aD];rfl
 |cons x r ih=>
  intro p m h hm
  obtain ⟨m,rfl,hm'⟩:=ak hm
  obtain ⟨e1,e2,e3,e4⟩:=az h (by omega)
  have hx:=hn x (by rw [h];simp)
  simp only [me,uB,e1,ae,e2,Option.bind_some,e3,ih (p++[x]) m e4 hm',aK]
  rw [if_neg (by omega)]
theorem acM (hk:F3 k) {t:Tm} (ht:Fm t) {f b:Int} (hf:0≤f∧f≤24) (hb:0≤b∧b<9223372036854775808) (ret:Tm×Int→Option S):wa k t f b ret=ret (tE (bA 0 b 0 f t)):=by
 have hl:=Y4 hk.fu ret (c0:=b) (c2:=f) (c1:=t) (ns:=[f,b]) (by simp) (by simp;omega) [f,b] [] k rfl (by have:4294968296≤k:=hk;simp;omega)
 have hl:me k ret b t f [f,b] k 0=_:=hl
 simp only [wa,On,ah hk.fu,aD,AP,Ew,tC ht.ok (ht.fd hk) (show au t<1099511627776 by have:=ht.dep;omega),ht.2,hl,wc,Oo]
 rw [show ((0:Int)==0)=true from rfl,Bool.not_true,ad,if_neg (by omega),DH (by omega) (by unfold aE;omega) t ht.ok ht.rows _ (ht.fd hk) (ht.vp (by omega) (by omega)),lX,jJ _ ret]
 exact bR (fun _ _=>rfl) fun _ _=>rfl
theorem acV (hk:F3 k) {t:Tm} (ht:Fm t) {f b:Int} (hf:0≤f∧f≤24) (hb:0≤b∧b<9223372036854775808) (ret:Tm×Int→Option S):ws k t f b ret=ret (tE (bA 0 b 0 f t)):=by
 simp only [ws,OU,ah hk.fu,aD,AR,OX,DL ht.ok (ht.fd hk) (show ay t<1099511627776 by have:=ht.siz;omega),ht.2,aK]
 rw [show ((0:Int)==0)=true from rfl,ae,if_neg (by omega),if_neg (by omega)]
 rw [Bool.not_true,ad,if_neg (by omega),DO (by omega) (by omega) t ht.ok ht.rows _ (ht.fd hk) (ht.vp (by omega) (by omega))]
 simp only [wt,OV]
 cases hx:bA 0 b 0 f t with
 |ok y=>
  rw [show rE (.ok y)=y from rfl,decide_eq_false (by have:=mA hx;have:=ht.rows.no.2.2;omega),ad]
  simp only [aD];rfl
 |error e=>
  have he:=jz t hx
  rw [show rE (.error e)=bH e from rfl,jr he.1,ae,bh (show-9223372036854775808≤0-(bH e).kind by show _≤0-(-e);omega) (by show 0-(-e)<_;omega)]
  show ret (aN,0-(-e))=ret (aN,e)
  rw [show (0:Int)-(-e)=e by omega]
def aG (vb db:Int) (t:Tm):Except Int Tm:=bE (bA vb 0 0 0 t) (bA 0 db 0 0)
theorem Fy {vb db:Int} (hvb:0≤vb∧vb≤1000000000) {t t':Tm} (h:Fm t) (hl:aG vb db t= .ok t'):Fm t':=by
 obtain ⟨a,h1,h2⟩:=aM hl
 exact mz (by omega) (mz hvb h h1) h2
theorem dc {vb db:Int} {t:Tm} {e:Int} (h:aG vb db t= .error e):0<e∧e≤1000:=by
 rcases bm h with h|⟨a,_,h⟩
 ·exact jz t h
 ·exact jz a h
theorem Y5 (hk:Fu k) (ret:Tm×Int→Option S) {c0 c1:Int} {c2:Tm} {ns:List Int} (hl:ns.length<1000) (hn: ∀x∈ns,0≤x):
  ∀ (r p:List Int) (m:Nat),ns=p++r→r.length<m→mf k ret c0 c1 c2 ns m (p.length:Int)=v_ k c0 c1 c2 fun r4=>Pan.elim r4 (fun r4=>ret (r4,0)) fun e5=>ret (aN,e5):=by
 intro r
 induction r with
 |nil=>
  intro p m h hm
  obtain ⟨m,rfl,hm'⟩:=ak hm
  simp only [mf,uC,aA h,ad,ah hk,aD];rfl
 |cons x r ih=>
  intro p m h hm
  obtain ⟨m,rfl,hm'⟩:=ak hm
  obtain ⟨e1,e2,e3,e4⟩:=az h (by omega)
  have hx:=hn x (by rw [h];simp)
  simp only [mf,uC,e1,ae,e2,Option.bind_some,e3,ih (p++[x]) m e4 hm',aK]
  rw [if_neg (by omega)]
theorem acL (hk:F3 k) {t:Tm} (ht:Fm t) {vb db:Int} (hvb:0≤vb∧vb≤1000000) (hdb:0≤db∧db<9223372036854775808) (ret:Tm×Int→Option S):vZ k t vb db ret=ret (tE (aG vb db t)):=by
 have hl:=Y5 hk.fu ret (c0:=db) (c1:=vb) (c2:=t) (ns:=[vb,db,1000000-vb]) (by simp) (by simp;omega) [vb,db,1000000-vb] [] k rfl (by have:4294968296≤k:=hk;simp;omega)
 have hl:mf k ret db vb t [vb,db,1000000-vb] k 0=_:=hl
 simp only [vZ,Ol,ah hk.fu,aD,bh (n:=1000000-vb) (by omega) (by omega),AQ,Ey,tC ht.ok (ht.fd hk) (show au t<1099511627776 by have:=ht.dep;omega),ht.2,hl,v_,Om]
 rw [show ((0:Int)==0)=true from rfl,Bool.not_true,ad,DH (show 0≤vb∧vb≤1000000000 by omega) (show aE 0 by unfold aE;omega) t ht.ok ht.rows _ (ht.fd hk) (ht.vp (by omega) (by omega)),lX,jJ _ ret]
 unfold aG
 rw [aZ]
 refine bR (fun y hy=> ?_) fun _ _=>rfl
 have hy':=mz (show 0≤vb∧vb≤1000000000 by omega) ht hy
 rw [DH (show (0:Int)≤0∧(0:Int)≤1000000000 by omega) (show aE db by unfold aE;omega) y hy'.ok hy'.rows _ (hy'.fd hk) (hy'.vp (by omega) (by omega)),lX]
 exact bR (fun _ _=>rfl) fun _ _=>rfl
theorem mS (hk:F3 k) {t:Tm} (ht:Fm t) {vb db:Int} (hvb:0≤vb∧vb≤1000000000) (hdb:0≤db∧db<9223372036854775808) (ret:Tm→Option S):d_ k t vb db ret=ret (rE (aG vb db t)):=by
 have hkd:=ht.rows.no.2.2
 simp only [d_,E4,aD]
 rw [decide_eq_false (by omega),ad,DO hvb (by omega) t ht.ok ht.rows _ (ht.fd hk) (ht.vp (by omega) (by omega))]
 refine Eq.trans (tj (x:=bA vb 0 0 0 t) (fun e he=>(jz t he).1) (fun z hz=>by rw [mA hz];exact hkd) (fun r1=>cY k r1 0 0 0 db fun r2=>ret r2) ret) ?_
 rw [jI (aG vb db t) ret]
 unfold aG
 rw [aZ]
 refine bR (fun y hy=> ?_) fun _ _=>rfl
 have hy':=mz hvb ht hy
 rw [DO (by omega) hdb y hy'.ok hy'.rows _ (hy'.fd hk) (hy'.vp (by omega) (by omega)),jI _ ret]
end Go.Proofs.YtapmagaejigpnaaGreatDoor
namespace Go.Proofs.YtapmagaejigpnaaGreatDoor
open Go PI
set_option linter.unusedVariables false
set_option linter.unusedSimpArgs false
set_option maxRecDepth 20000
variable {S:Type} {k:Nat}
def aW (i:Int) (r:List Cl) (fa:Bool):dD:=fun d f=>if bF (gn f) (i+d) then bE (ct (ba r 0 d)) fun s=>ct (if fa then gN f (i+d) s else gO f (i+d) s) else .ok f
theorem A2 (f:List Cl):U32 (gn f):=by
 have:=A3 f
 exact ⟨Int.natCast_nonneg _,by show ((eH f:Nat):Int)<_;omega⟩
theorem abl {f r:List Cl} {i:Int} (hr:am r) (h:(gO f i r).2=0):RF (gO f i r).1:=by
 unfold gO at h ⊢
 split
 ·next hc=>
  rw [if_pos hc] at h
  simp only [Bool.and_eq_true] at hc
  exact G7 (fun h c hh h0=>JG ((fH hr).1 hc.1.2) h c hh h0) tz h
 ·next hc=>rw [if_neg hc] at h;exact absurd h (by decide)
theorem Cn (f g:List Cl):EN (da f g).2:=oO _
theorem xg (f g:List Cl):EN (bU f g).2:=oO _
theorem aam (f g:List Cl):EN (ei f g).2:=oO _
theorem Jw (f:List Cl):EN (cK f).2:=w6 fun h c=>Cn _ _
theorem abc (i:Int) (r:List Cl) (c:Cl):EN (dP i r c).2:=by
 unfold dP
 split
 ·exact Cn _ _
 ·exact lY
theorem abe (i:Int) (r:List Cl) (c:Cl) (g:List Cl):EN (eN i r c g).2:=by
 unfold eN
 split
 ·split
  ·exact Cn _ _
  ·exact Jw _
 ·exact lY
theorem abb (i:Int) (r h:List Cl) (c:Cl):EN (dA i r h c).2:=by
 unfold dA
 split
 ·split
  ·exact xg _ _
  ·exact abe _ _ _ _
 ·exact abc _ _ _
theorem abk (f:List Cl) (i:Int) (r:List Cl):EN (gO f i r).2:=by
 unfold gO
 split
 ·exact w6 fun h c=>abb i r h c
 ·exact jj
theorem aaA (f:List Cl):EN (eo f).2:=by
 unfold eo
 split
 ·exact oO _
 ·exact jj
theorem aaB (f:List Cl):EN (fE f).2:=by
 unfold fE
 split
 ·split
  ·exact oO _
  ·exact Jw _
 ·exact jj
theorem JH {i:Int} {c:Cl} {h:List Cl} {q:List Cl×Int} (hq:EN q.2):EN (dZ i c h q).2:=by
 unfold dZ
 split
 ·split
  ·exact xg _ _
  ·exact aam _ _
 ·exact hq
theorem abh (f:List Cl) (i:Int) (r:List Cl):EN (gN f i r).2:=by
 unfold gN
 split
 ·refine w6 fun h c=> ?_
  unfold ck
  split
  ·exact JH (aaA _)
  ·split
   ·exact JH (aaB _)
   ·exact xg _ _
 ·exact jj
theorem px {i:Int} {r:List Cl} {fa:Bool} {d:Int} {f g:List Cl} (hf:RF f) (h:aW i r fa d f= .ok g):RF g:=by
 unfold aW at h
 split at h
 ·obtain ⟨s,h1,h⟩:=aM h
  obtain ⟨h0,rfl⟩:=mW h1
  have hs:=gI h0
  obtain ⟨h2,rfl⟩:=mW h
  cases fa with
  |true=>exact (abi hf.2 hs.2 h2).1
  |false=>exact abl hs.2 h2
 ·injection h with h;subst h;exact hf
theorem yC {i:Int} {r:List Cl} {fa:Bool} {d:Int} {f:List Cl} {e:Int} (h:aW i r fa d f= .error e):0<e∧e≤1000:=by
 unfold aW at h
 split at h
 ·rcases bm h with h|⟨s,_,h⟩
  ·obtain ⟨h1,rfl⟩:=tR h
   have:=oT r 0 d
   unfold EN at this;omega
  ·obtain ⟨h1,rfl⟩:=tR h
   cases fa with
   |true=>
    have:=abh f (i+d) s
    unfold EN at this
    simp only [if_true] at h1 ⊢
    omega
   |false=>
    have:=abk f (i+d) s
    unfold EN at this
    simp only [Bool.false_eq_true,if_false] at h1 ⊢
    omega
 ·cases h
theorem L_ {i:Int} {r:List Cl} {fa:Bool} {d:Int}:aW i r fa d []= .ok []:=by
 unfold aW
 rw [if_neg]
 intro h
 unfold bF at h
 rw [Bool.and_eq_true] at h
 have:=h.2
 unfold gn at this
 rw [Int.toNat_natCast,A4] at this
 simp [fc] at this
def dB (i:Int) (r:List Cl) (fa:Bool) (d:Int) (f:List Cl):List Cl×Int:=if bF (gn f) (i+d) then if (ba r 0 d).2=0 then if fa then gN f (i+d) (ba r 0 d).1 else gO f (i+d) (ba r 0 d).1 else ([],(ba r 0 d).2) else (f,0)
theorem mX (i:Int) (r:List Cl) (fa:Bool) (d:Int) (f:List Cl):ct (dB i r fa d f)=aW i r fa d f:=by
 unfold dB aW
 split
 ·by_cases h0:(ba r 0 d).2=0
  ·rw [if_pos h0,fL h0,ao]
  ·rw [if_neg h0,eQ h0,fg,eQ (show ¬ (([]:List Cl),(ba r 0 d).2).2=0 from h0)]
 ·rfl
section
variable {i d:Int} {r f:List Cl}
theorem M9 (hk:Fu k) (hf:RF f) (hr:RF r) (hi:0≤i∧i<24) (hd:0≤d∧d<4611686018427387000) (ret:List Cl×Int→Option S):ra k f d i r ret=ret (dB i r true d f):=by
 have l1:=hf.len;have l2:=hr.len
 simp only [ra,NQ,ah hk,bh (n:=i+d) (by omega) (by omega),DE hk hf.2 (show f.length<4294967296 by omega),pB hk (A2 f),q_,D8,aV (show 0+f.length≤1099511627776 by omega),tG hk hr.2 (show r.length<1073741824 by omega) (show aE 0 by unfold aE;omega) (show aE d by unfold aE;omega)]
 unfold dB
 cases bF (gn f) (i+d) with
 |false=>rw [Bool.not_false,ae];rfl
 |true=>
  rw [Bool.not_true,ad,a7,if_pos rfl]
  by_cases h0:(ba r 0 d).2=0
  ·have hs:=gI h0
   rw [decide_eq_true h0,Bool.not_true,ad,acF hk hf.2 hs.2 hf.lt hs.lt,if_pos h0,if_pos rfl]
  ·rw [decide_eq_false h0,Bool.not_false,ae,if_neg h0]
theorem adi (hk:Fu k) (hf:RF f) (hr:RF r) (hi:0≤i∧i<24) (hd:0≤d∧d<4611686018427387000) (ret:List Cl×Int→Option S):vG k f d i r ret=ret (dB i r false d f):=by
 have l1:=hf.len;have l2:=hr.len
 simp only [vG,NP,ah hk,bh (n:=i+d) (by omega) (by omega),DE hk hf.2 (show f.length<4294967296 by omega),pB hk (A2 f),q_,D8,aV (show 0+f.length≤1099511627776 by omega),tG hk hr.2 (show r.length<1073741824 by omega) (show aE 0 by unfold aE;omega) (show aE d by unfold aE;omega)]
 unfold dB
 cases bF (gn f) (i+d) with
 |false=>rw [Bool.not_false,ae];rfl
 |true=>
  rw [Bool.not_true,ad,a7,if_pos rfl]
  by_cases h0:(ba r 0 d).2=0
  ·have hs:=gI h0
   rw [decide_eq_true h0,Bool.not_true,ad,acB hk hf.2 hs.2 hf.lt hs.lt,if_pos h0,if_neg (by decide)]
  ·rw [decide_eq_false h0,Bool.not_false,ae,if_neg h0]
theorem MX (hk:Fu k) {fa:Bool} (hf:RF f) (hr:RF r) (hi:0≤i∧i<24) (hd:0≤d∧d<4611686018427387000) (ret:List Cl×Int→Option S):rD k f fa i r d ret=ret (dB i r fa d f):=by
 have l1:=hf.len;have l2:=hr.len
 simp only [rD,OZ,ah hk,bh (n:=i+d) (by omega) (by omega),M2 hk hf.2 (show f.length<1073741824 by omega),gR hk (A2 f),yG hk hr.2 (show r.length<1073741824 by omega) (show aE 0 by unfold aE;omega) (show aE d by unfold aE;omega)]
 unfold dB
 cases bF (gn f) (i+d) with
 |false=>rw [Bool.not_false,ae];rfl
 |true=>
  rw [Bool.not_true,ad,a7,if_pos rfl]
  by_cases h0:(ba r 0 d).2=0
  ·have hs:=gI h0
   rw [decide_eq_true h0,Bool.not_true,ad,if_pos h0]
   cases fa with
   |true=>rw [ae,ac3 hk hf.2 hs.2 hf.lt hs.lt,if_pos rfl]
   |false=>rw [ad,adb hk hf.2 hs.2 hf.lt hs.lt,if_neg (by decide)]
  ·rw [decide_eq_false h0,Bool.not_false,ae,if_neg h0]
end
def iY (j:Int) (c:Cl):Cl:=⟨nI c.pos j,nI c.neg j⟩
def a6 (j:Int) (f:List Cl):List Cl:=(a8 (f.map (iY j))).1
theorem Ge (s j:Int):0≤nI s j∧nI s j<16777216:=by
 have:=U1 s.toNat j
 exact ⟨Int.natCast_nonneg _,by show ((jg s.toNat j:Nat):Int)<_;omega⟩
theorem Au (j:Int) (c:Cl):RC (iY j c):=⟨Ge _ _,Ge _ _⟩
theorem Aw (j:Int) (f:List Cl): ∀c∈f.map (iY j),RC c:=fun c hc=>by
 obtain ⟨d,_,rfl⟩:=List.mem_map.1 hc
 exact Au j d
theorem Av {j:Int} {f:List Cl} (hf:f.length≤64):a8 (f.map (iY j))=(a6 j f,0):=Prod.ext rfl (HU (Aw j f) (by rw [List.length_map];exact hf))
theorem UV {j:Int} {f:List Cl} (hf:f.length≤64):RF (a6 j f):=oQ (fun c hc=>(Aw j f c hc).ok) (by rw [Av hf])
theorem aav: ∀ (n:Nat) {l:List Cl} {c:Cl},(l.filter fun d=>cW c d&& !decide (d=c)).length≤n→(∀d∈l,RC d)→c∈l→ ∃d∈l,bJ l d=true:=by
 have hle: ∀ {a b:Cl},RC a→RC b→(cW a b=true↔(∀j,b.pos.toNat.testBit j=true→a.pos.toNat.testBit j=true)∧ ∀j,b.neg.toNat.testBit j=true→a.neg.toNat.testBit j=true):=by
  intro a b ha hb
  unfold cW cD
  rw [decide_eq_true_eq]
  have hor: ∀ {x y:Int},0≤x→(dz x y=x↔ ∀j,y.toNat.testBit j=true→x.toNat.testBit j=true):=by
   intro x y hx
   unfold dz
   constructor
   ·intro h j hj
    have:(x.toNat|||y.toNat)=x.toNat:=by omega
    rw [←this,Nat.testBit_or,hj,Bool.or_true]
   ·intro h
    have:(x.toNat|||y.toNat)=x.toNat:=by
     apply Nat.eq_of_testBit_eq
     intro j
     rw [Nat.testBit_or]
     cases hy:y.toNat.testBit j with
     |false=>rw [Bool.or_false]
     |true=>rw [h j hy];rfl
    rw [this];omega
  cases a with
  |mk p q=>
   have h1:0≤p:=ha.1.1
   have h2:0≤q:=ha.2.1
   rw [←hor h1,←hor h2]
   constructor
   ·intro h;injection h with h1 h2;exact ⟨h1,h2⟩
   ·rintro ⟨h1,h2⟩;simp only at h1 h2 ⊢;rw [h1,h2]
 have hanti: ∀ {a b:Cl},RC a→RC b→cW a b=true→cW b a=true→a=b:=by
  intro a b ha hb h1 h2
  have e1:=(hle ha hb).1 h1
  have e2:=(hle hb ha).1 h2
  have hx: ∀ {x y:Int},0≤x→0≤y→(∀j,y.toNat.testBit j=true→x.toNat.testBit j=true)→(∀j,x.toNat.testBit j=true→y.toNat.testBit j=true)→x=y:=by
   intro x y hx hy a b
   have:x.toNat=y.toNat:=by
    apply Nat.eq_of_testBit_eq
    intro j
    rw [Bool.eq_iff_iff]
    exact ⟨b j,a j⟩
   omega
  cases a;cases b
  have p1:=hx ha.1.1 hb.1.1 e1.1 e2.1
  have p2:=hx ha.2.1 hb.2.1 e1.2 e2.2
  simp only at p1 p2
  rw [p1,p2]
 intro n
 induction n with
 |zero=>
  intro l c hn hl hc
  refine ⟨c,hc, ?_⟩
  unfold bJ
  rw [List.all_eq_true]
  intro d hd
  have:(l.filter fun d=>cW c d&& !decide (d=c))=[]:=List.length_eq_zero_iff.1 (by omega)
  have hnot:=List.filter_eq_nil_iff.1 this d hd
  cases h1:decide (d=c) with
  |true=>rfl
  |false=>
   rw [h1] at hnot
   cases h2:cW c d with
   |false=>rfl
   |true=>rw [h2] at hnot;exact absurd rfl hnot
 |succ n ih=>
  intro l c hn hl hc
  by_cases h:bJ l c=true
  ·exact ⟨c,hc,h⟩
  ·unfold bJ at h
   rw [List.all_eq_true] at h
   have: ∃d∈l,¬ ((decide (d=c)|| !cW c d)=true):=Classical.byContradiction fun hh=>h fun d hd=>Classical.byContradiction fun h2=>hh ⟨d,hd,h2⟩
   obtain ⟨d,hd,hd'⟩:=this
   have h1:d≠c:=fun h=>hd' (by rw [decide_eq_true h];rfl)
   have h2:cW c d=true:=by
    cases hb:cW c d with
    |true=>rfl
    |false=>exact absurd (by rw [hb,Bool.not_false,Bool.or_true]) hd'
   refine ih (c:=d) ?_ hl hd
   have hsub:(l.filter fun e=>cW d e&& !decide (e=d)).length<(l.filter fun e=>cW c e&& !decide (e=c)).length:=by
    have hc':=hl c hc;have hdr:=hl d hd
    have himp: ∀e∈l,(cW d e&& !decide (e=d))=true→(cW c e&& !decide (e=c))=true:=by
     intro e he hh
     rw [Bool.and_eq_true] at hh ⊢
     have her:=hl e he
     have e1:=(hle hdr her).1 hh.1
     have e2:=(hle hc' hdr).1 h2
     refine ⟨(hle hc' her).2 ⟨fun j hj=>e2.1 j (e1.1 j hj),fun j hj=>e2.2 j (e1.2 j hj)⟩, ?_⟩
     rw [Bool.not_eq_true',decide_eq_false_iff_not]
     intro h3
     subst h3
     exact h1 (hanti hdr hc' hh.1 h2)
    have hle2: ∀ (p q:Cl→Bool) (m:List Cl),(∀e∈m,p e=true→q e=true)→(m.filter p).length≤(m.filter q).length:=by
     intro p q m
     induction m with
     |nil=>intro _;exact Nat.le_refl _
     |cons e m im=>
      intro hm
      have:=im fun e he=>hm e (by simp [he])
      by_cases hp:p e=true
      ·rw [List.filter_cons_of_pos hp,List.filter_cons_of_pos (hm e (by simp) hp),List.length_cons,List.length_cons];omega
      ·rw [List.filter_cons_of_neg hp]
       by_cases hq:q e=true
       ·rw [List.filter_cons_of_pos hq,List.length_cons];omega
       ·rw [List.filter_cons_of_neg hq];omega
    have hlt: ∀ (p q:Cl→Bool) (m:List Cl),(∀e∈m,p e=true→q e=true)→d∈m→p d=false→q d=true→(m.filter p).length<(m.filter q).length:=by
     intro p q m
     induction m with
     |nil=>intro _ h;cases h
     |cons e m im=>
      intro hm hdm hp hq
      have hrest: ∀e∈m,p e=true→q e=true:=fun e he=>hm e (by simp [he])
      have hb:=hle2 p q m hrest
      rcases List.mem_cons.1 hdm with rfl|hdm
      ·rw [List.filter_cons_of_neg (by rw [hp];decide),List.filter_cons_of_pos hq,List.length_cons];omega
      ·have:=im hrest hdm hp hq
       by_cases hp':p e=true
       ·rw [List.filter_cons_of_pos hp',List.filter_cons_of_pos (hm e (by simp) hp'),List.length_cons,List.length_cons];omega
       ·rw [List.filter_cons_of_neg hp']
        by_cases hq':q e=true
        ·rw [List.filter_cons_of_pos hq',List.length_cons];omega
        ·rw [List.filter_cons_of_neg hq'];omega
    exact hlt _ _ l himp hd (by simp) (by rw [h2,decide_eq_false h1];rfl)
   omega
theorem F5 {j:Int} {f:List Cl} (hf:RF f):(a6 j f).length=0↔f.length=0:=by
 have h:=Av (j:=j) hf.len
 have hm:=(oP h).1
 constructor
 ·intro h0
  apply Classical.byContradiction
  intro hne
  obtain ⟨c,hc⟩:=List.exists_mem_of_length_pos (l:=f.map (iY j)) (by rw [List.length_map];omega)
  obtain ⟨d,hd,hn⟩:=aav _ (Nat.le_refl _) (Aw j f) hc
  have:d∈a6 j f:=by rw [hm];exact mem_mins.2 ⟨hd,hn⟩
  rw [List.length_eq_zero_iff.1 h0] at this
  cases this
 ·intro h0
  have:=List.length_eq_zero_iff.1 h0
  subst this;rfl
theorem YO (hk:Fu k) (ret:List Cl×Int→Option S) {i d:Int} (hi:0≤i∧i<24) (hd:0≤d∧d<4611686018427387000) {f:List Cl} (hf:am f) (hlen:f.length<1073741824):
  ∀ (r p:List Cl) (m:Nat) (o:List Cl),f=p++r→r.length<m→am o→o.length=p.length→nW k ret i d f m (p.length:Int) o=ret (a8 (o++r.map (iY (i+d)))):=by
 intro r
 induction r with
 |nil=>
  intro p m o h hm hok ho
  obtain ⟨m,rfl,hm'⟩:=ak hm
  have:o.length<1073741824:=by rw [ho];rw [h] at hlen;simpa using hlen
  simp only [nW,ue,aA h,ad,ah hk,jM hk hok (show o.length<2147483648 by omega),List.map_nil,List.append_nil]
 |cons x r ih=>
  intro p m o h hm hok ho
  obtain ⟨m,rfl,hm'⟩:=ak hm
  obtain ⟨e1,e2,e3,e4⟩:=az h (by omega)
  have hx:aL x:=hf x (by rw [h];simp)
  have hpl:p.length<f.length:=by rw [h];simp
  simp only [nW,ue,e1,ae,e2,Option.bind_some,ah hk,bh (n:=i+d) (by omega) (by omega),Mu hk hx.1,Mu hk hx.2,e3]
  rw [aV (by simp;omega)]
  have:=ih (p++[x]) m (o++[iY (i+d) x]) e4 hm' (eM hok fun c hc=>by simp at hc;subst hc;exact (Au _ _).ok) (by simp;omega)
  refine Eq.trans this ?_
  simp
theorem MK (hk:Fu k) {i d:Int} (hi:0≤i∧i<24) (hd:0≤d∧d<4611686018427387000) {f:List Cl} (hf:RF f) (ret:List Cl×Int→Option S):ni k f d i ret=ret (a6 (i+d) f,0):=by
 have l1:=hf.len
 have:=YO hk ret hi hd hf.2 (by omega) f [] k [] rfl (by have:4294967296≤k:=hk;omega) (fun c hc=>by cases hc) rfl
 simp only [ni,D7]
 refine Eq.trans this ?_
 rw [List.nil_append,Av l1]
theorem YM (hk:Fu k) (ret:List Cl→Option S) {j:Int} {f:List Cl} (hf:am f) (hlen:f.length<1073741824):
  ∀ (r p:List Cl) (m:Nat) (o:List Cl),f=p++r→r.length<m→am o→o.length=p.length→oE k ret f j m o (p.length:Int)=ret (a8 (o++r.map (iY j))).1:=by
 intro r
 induction r with
 |nil=>
  intro p m o h hm hok ho
  obtain ⟨m,rfl,hm'⟩:=ak hm
  have:o.length<1073741824:=by rw [ho];rw [h] at hlen;simpa using hlen
  simp only [oE,u_,aA h,ad,ah hk,mT hk hok (show o.length<2147483648 by omega),List.map_nil,List.append_nil]
 |cons x r ih=>
  intro p m o h hm hok ho
  obtain ⟨m,rfl,hm'⟩:=ak hm
  obtain ⟨e1,e2,e3,e4⟩:=az h (by omega)
  have hx:aL x:=hf x (by rw [h];simp)
  have hpl:p.length<f.length:=by rw [h];simp
  simp only [oE,u_,e1,ae,e2,Option.bind_some,ah hk,M3 hk hx.1,M3 hk hx.2,e3]
  rw [aV (by simp;omega)]
  have:=ih (p++[x]) m (o++[iY j x]) e4 hm' (eM hok fun c hc=>by simp at hc;subst hc;exact (Au _ _).ok) (by simp;omega)
  refine Eq.trans this ?_
  simp
theorem MI (hk:Fu k) {j:Int} {f:List Cl} (hf:RF f) (ret:List Cl→Option S):rC k f j ret=ret (a6 j f):=by
 have l1:=hf.len
 have:=YM hk ret (j:=j) hf.2 (by omega) f [] k [] rfl (by have:4294967296≤k:=hk;omega) (fun c hc=>by cases hc) rfl
 simp only [rC,E6]
 exact this
end Go.Proofs.YtapmagaejigpnaaGreatDoor
namespace Go.Proofs.YtapmagaejigpnaaGreatDoor
open Go PI
set_option linter.unusedVariables false
set_option linter.unusedSimpArgs false
set_option maxRecDepth 20000
variable {S:Type} {k:Nat}
theorem y7 (fo fa:dD) (d:Int) (t:Tm):aO fo fa d t=bE (if t.kind=14 then fa d t.r else fo d t.r) fun r'=>bE (bo fo fa d t.kind 0 t.kids) fun ks'=>bE (aQ fo fa d t.kind t.sys) fun sys'=> .ok (.mk t.kind t.n t.name r' ks' sys'):=by cases t;rw [aO];rfl
theorem Fz {fo fa:dD} {d:Int} {x y:Tm} (h:aO fo fa d x= .ok y):y.kind=x.kind:=by
 rw [y7] at h
 obtain ⟨_,_,h⟩:=aM h
 obtain ⟨_,_,h⟩:=aM h
 obtain ⟨_,_,h⟩:=aM h
 injection h with h;subst h;rfl
theorem y6 (fo fa:dD) (d kd:Int) (b:Br Tm):eR fo fa d kd b=bE (fa d b.face) fun f'=>if f'.length=0 then .ok [] else bE (bu fo fa d kd b.kids) fun ks'=> .ok [.mk f' ks']:=by cases b;rw [eR]
section
variable {fo fa:dD} (hfo: ∀d f e,fo d f= .error e→0<e∧e≤1000) (hfa: ∀d f e,fa d f= .error e→0<e∧e≤1000)
include hfo hfa
theorem iM (t:Tm): ∀ {d e},aO fo fa d t= .error e→0<e∧e≤1000:=by
 induction t using lk with
 |h kd n nm r ks sys ih1 ih2=>
  intro d e h
  rw [aO] at h
  rcases bm h with h|⟨_,_,h⟩
  ·split at h
   ·exact hfa _ _ _ h
   ·exact hfo _ _ _ h
  have hkids: ∀ {l:List Tm} {i:Nat},(∀x∈l,∀ {d e},aO fo fa d x= .error e→0<e∧e≤1000)→bo fo fa d kd i l= .error e→0<e∧e≤1000:=by
   intro l
   induction l with
   |nil=>intro i _ h;rw [bo] at h;cases h
   |cons t l ih=>
    intro i hl h
    rw [bo] at h
    rcases bm h with h|⟨_,_,h⟩
    ·exact hl t (by simp) h
    ·rcases bm h with h|⟨_,_,h⟩
     ·exact ih (fun x hx=>hl x (by simp [hx])) h
     ·cases h
  have hmore: ∀ {l:List Tm},(∀x∈l,∀ {d e},aO fo fa d x= .error e→0<e∧e≤1000)→ ∀ {e},bu fo fa d kd l= .error e→0<e∧e≤1000:=by
   intro l
   induction l with
   |nil=>intro _ e h;rw [bu] at h;cases h
   |cons t l ih=>
    intro hl e h
    rw [bu] at h
    rcases bm h with h|⟨_,_,h⟩
    ·exact hl t (by simp) h
    ·rcases bm h with h|⟨_,_,h⟩
     ·exact ih (fun x hx=>hl x (by simp [hx])) h
     ·cases h
  have hsys: ∀ {l:List (Br Tm)},(∀b∈l,∀x∈b.kids,∀ {d e},aO fo fa d x= .error e→0<e∧e≤1000)→aQ fo fa d kd l= .error e→0<e∧e≤1000:=by
   intro l
   induction l with
   |nil=>intro _ h;rw [aQ] at h;cases h
   |cons b l ih=>
    intro hl h
    rw [aQ] at h
    rcases bm h with h|⟨_,_,h⟩
    ·rw [y6] at h
     rcases bm h with h|⟨_,_,h⟩
     ·exact hfa _ _ _ h
     ·split at h
      ·cases h
      ·rcases bm h with h|⟨_,_,h⟩
       ·exact hmore (hl b (by simp)) h
       ·cases h
    ·rcases bm h with h|⟨_,_,h⟩
     ·exact ih (fun b hb=>hl b (by simp [hb])) h
     ·cases h
  rcases bm h with h|⟨_,_,h⟩
  ·exact hkids (fun x hx=>ih1 x hx) h
  ·rcases bm h with h|⟨_,_,h⟩
   ·exact hsys ih2 h
   ·cases h
theorem PG {kd d:Int}: ∀ {l:List Tm} {i:Nat} {e:Int},bo fo fa d kd i l= .error e→0<e∧e≤1000:=by
 intro l
 induction l with
 |nil=>intro i e h;rw [bo] at h;cases h
 |cons t l ih=>
  intro i e h
  rw [bo] at h
  rcases bm h with h|⟨_,_,h⟩
  ·exact iM hfo hfa t h
  ·rcases bm h with h|⟨_,_,h⟩
   ·exact ih h
   ·cases h
theorem PH {kd d:Int}: ∀ {l:List Tm} {e:Int},bu fo fa d kd l= .error e→0<e∧e≤1000:=by
 intro l
 induction l with
 |nil=>intro e h;rw [bu] at h;cases h
 |cons t l ih=>
  intro e h
  rw [bu] at h
  rcases bm h with h|⟨_,_,h⟩
  ·exact iM hfo hfa t h
  ·rcases bm h with h|⟨_,_,h⟩
   ·exact ih h
   ·cases h
end
theorem tO {α β:Type} (x:Except Int Tm) (hx: ∀e,x= .error e→0<e∧e≤1000) (f:Tm→α) (g:Int→α):(fun r:Tm×Int=>ab (!(r.2==0)) (g r.2) (f r.1)) (tE x)=eE x f g:=by
 cases x with
 |ok t=>rfl
 |error e=>
  have:=(hx e rfl).1
  show ab (!(e==0)) (g e) (f aN)=g e
  rw [a7,decide_eq_false (by omega),Bool.not_false,ae]
theorem xP {α β γ:Type} (x:Except Int α) (hx: ∀e,x= .error e→0<e∧e≤1000) (z:α) (f:α→β) (g:Int→β):eE x (fun l=>(fun r:α×Int=>ab (!(r.2==0)) (g r.2) (f r.1)) (l,0)) (fun e=>(fun r:α×Int=>ab (!(r.2==0)) (g r.2) (f r.1)) (z,e))=eE x f g:=by
 cases x with
 |ok t=>rfl
 |error e=>
  have:=(hx e rfl).1
  show ab (!(e==0)) (g e) (f z)=g e
  rw [a7,decide_eq_false (by omega),Bool.not_false,ae]
theorem kW {G:Int→List Cl→List Cl}: ∀d f e,aw G d f= .error e→0<e∧e≤1000:=fun d f e h=>by cases h
theorem iE {i:Int} {r:List Cl} {fa:Bool}: ∀d f e,aW i r fa d f= .error e→0<e∧e≤1000:=fun d f e h=>yC h
section
variable {hd:Tm→Int→Int→List Cl→(Tm×Int→Option S)→Option S} {i d:Int} {t:Tm} {r:List Cl}
theorem abp (hk:Fu k) (hi:0≤i∧i<24) (hr:RF r) (hd0:0≤d∧d<4611686018427386000) (hro:RowsT t) (ret:List Cl×Int→Option S): ∃z:List Cl×Int,ct z=(if t.kind=14 then (aW i r true) d t.r else (aW i r false) d t.r)∧vH k t d i r ret=ret z:=by
 have hr0:=hro.no.1
 simp only [vH,NT,ah hk,M9 hk hr0 hr hi (show 0≤d∧d<4611686018427387000 by omega),adi hk hr0 hr hi (show 0≤d∧d<4611686018427387000 by omega)]
 by_cases h:t.kind=14
 ·rw [h,if_pos rfl,show ((14:Int)==14)=true from rfl,ae]
  exact ⟨_,mX _ _ _ _ _,rfl⟩
 ·rw [if_neg h,show (t.kind==14)=false from by rw [beq_eq_false_iff_ne];exact h,ad]
  exact ⟨_,mX _ _ _ _ _,rfl⟩
theorem abm (hk:Fu k) (ret:List Tm×Int→Option S) (hd0:0≤d∧d<4611686018427386000) (hQ: ∀y∈t.kids,∀b,0≤b∧b≤1→ ∀g,hd y (d+b) i r g=g (tE (aO (aW i r false) (aW i r true) (d+b) y))) (hl:t.kids.length<1073741824):
  ∀ (r' p:List Tm) (m:Nat) (acc:List Tm),t.kids=p++r'→r'.length<m→acc.length=p.length→
  kJ hd k ret i r t t.kids d m acc (p.length:Int)=eE (bo (aW i r false) (aW i r true) d t.kind p.length r') (fun l=>ret (acc++l,0)) fun e=>ret ([],e):=by
 intro r'
 induction r' with
 |nil=>
  intro p m acc h hm ha
  obtain ⟨m,rfl,hm'⟩:=ak hm
  simp only [kJ,ui,aA h,ad,bo,aU,List.append_nil]
 |cons y r' ih=>
  intro p m acc h hm ha
  obtain ⟨m,rfl,hm'⟩:=ak hm
  obtain ⟨e1,e2,e3,e4⟩:=az h (by omega)
  have hpl:p.length<t.kids.length:=by rw [h];simp
  have b2':=gi t.kind p.length
  have hy:=hQ y (by rw [h];simp) (bK t.kind p.length) b2'
  simp only [kJ,ui,e1,ae,e2,Option.bind_some,ah hk,rd,Ec,pA,aD,bh (n:=d+bK t.kind p.length) (by omega) (by omega),hy]
  refine Eq.trans (tO (β:=Unit) _ (fun e he=>iM iE iE y he) (fun z=>Option.bind (ax 1099511627776 acc.length [z].length) fun _=>kJ hd k ret i r t t.kids d m (acc++[z]) (IntKind.wrap .i64 ((p.length:Int)+1))) fun e=>ret ([],e)) ?_
  simp only [bo,aZ,aU]
  refine bR (fun t' ht'=> ?_) fun e _=>rfl
  rw [aV (by simp;omega),e3,ih (p++[y]) m (acc++[t']) e4 hm' (by simp;omega),show (p++[y]).length=p.length+1 by simp]
  simp
theorem abn (hk:Fu k) (ret:List Tm×Int→Option S) {x:Br Tm} {kd:Int} (hd0:0≤d∧d<4611686018427386000) (hQ: ∀y∈x.kids,∀g,hd y (d+av kd) i r g=g (tE (aO (aW i r false) (aW i r true) (d+av kd) y))) (hl:x.kids.length<1073741824):
  ∀ (r' p:List Tm) (m:Nat) (acc:List Tm),x.kids=p++r'→r'.length<m→acc.length=p.length→
  kI hd k ret i r (av kd) x.kids d m acc (p.length:Int)=eE (bu (aW i r false) (aW i r true) d kd r') (fun l=>ret (acc++l,0)) fun e=>ret ([],e):=by
 have hmo:=dY kd
 intro r'
 induction r' with
 |nil=>
  intro p m acc h hm ha
  obtain ⟨m,rfl,hm'⟩:=ak hm
  simp only [kI,uh,aA h,ad,bu,aU,List.append_nil]
 |cons y r' ih=>
  intro p m acc h hm ha
  obtain ⟨m,rfl,hm'⟩:=ak hm
  obtain ⟨e1,e2,e3,e4⟩:=az h (by omega)
  have hpl:p.length<x.kids.length:=by rw [h];simp
  have hy:=hQ y (by rw [h];simp)
  simp only [kI,uh,e1,ae,e2,Option.bind_some,ah hk,re,Ed,aD,bh (n:=d+av kd) (by omega) (by omega),hy]
  refine Eq.trans (tO (β:=Unit) _ (fun e he=>iM iE iE y he) (fun z=>Option.bind (ax 1099511627776 acc.length [z].length) fun _=>kI hd k ret i r (av kd) x.kids d m (acc++[z]) (IntKind.wrap .i64 ((p.length:Int)+1))) fun e=>ret ([],e)) ?_
  simp only [bu,aZ,aU]
  refine bR (fun t' ht'=> ?_) fun e _=>rfl
  rw [aV (by simp;omega),e3,ih (p++[y]) m (acc++[t']) e4 hm' (by simp;omega)]
  simp
theorem abo (hk:Fu k) (ret:Tm×Int→Option S) (hi:0≤i∧i<24) (hr:RF r) (hd0:0≤d∧d<4611686018427386000) {r1:List Cl×Int} {r2:List Tm×Int} (ht:OkT t) (hro:RowsT t) (hQ: ∀b∈t.sys,∀y∈b.kids,∀g,hd y (d+av t.kind) i r g=g (tE (aO (aW i r false) (aW i r true) (d+av t.kind) y))):
  ∀ (r' p:List (Br Tm)) (m:Nat) (o:List (Br Tm)),t.sys=p++r'→r'.length<m→o.length≤p.length→
  fw hd k ret i r t r1 r2 d m (av t.kind) o (p.length:Int)=eE (aQ (aW i r false) (aW i r true) d t.kind r') (fun s=>ret (.mk t.kind t.n t.name r1.1 r2.1 (o++s),0)) fun e=>ret (aN,e):=by
 obtain ⟨o1,o2,o3,o4,o5,o6,o7⟩:=ht.no
 intro r'
 induction r' with
 |nil=>
  intro p m o h hml ho
  obtain ⟨m,rfl,hm'⟩:=ak hml
  simp only [fw,uj,aA h,ad,aQ,aU,List.append_nil]
 |cons x r' ih=>
  intro p m o h hml ho
  obtain ⟨m,rfl,hm'⟩:=ak hml
  obtain ⟨e1,e2,e3,e4⟩:=az h (by omega)
  have hx:x∈t.sys:=by rw [h];simp
  have hpl:p.length<t.sys.length:=by rw [h];simp
  have hb:=(ht.bi hx).1
  have hr0:=(hro.bi hx).1
  have hM:=fun g:List Tm×Int→Option S=>abn (kd:=t.kind) hk g hd0 (hQ x hx) hb.2.2 x.kids [] k [] rfl (by have:4294967296≤k:=hk;omega) rfl
  have hM: ∀g:List Tm×Int→Option S,kI hd k g i r (av t.kind) x.kids d k [] 0=_:=hM
  simp only [fw,uj,e1,ae,e2,Option.bind_some,ah hk,M9 hk hr0 hr hi (show 0≤d∧d<4611686018427387000 by omega),AF,Ea,hM,e3,List.nil_append]
  have hin:=fun f':List Cl=>xP (β:=Option S) (γ:=Unit) (bu (aW i r false) (aW i r true) d t.kind x.kids) (fun e he=>PH iE iE he) [] (fun l=>Option.bind (ax 1099511627776 o.length [Br.mk f' l].length) fun _=>fw hd k ret i r t r1 r2 d m (av t.kind) (o++[Br.mk f' l]) (((p++[x]).length:Nat):Int)) fun e=>ret (aN,e)
  refine Eq.trans (tT (z:=(dB i r true d x.face)) (fun f'=>ab (((f'.length:Nat):Int)==0) (fw hd k ret i r t r1 r2 d m (av t.kind) o (((p++[x]).length:Nat):Int)) (eE (bu (aW i r false) (aW i r true) d t.kind x.kids) (fun l=>(fun r5:List Tm×Int=>ab (!(r5.2==0)) (ret (aN,r5.2)) (Option.bind (ax 1099511627776 o.length [Br.mk f' r5.1].length) fun _=>fw hd k ret i r t r1 r2 d m (av t.kind) (o++[Br.mk f' r5.1]) (((p++[x]).length:Nat):Int))) (l,0)) fun e=>(fun r5:List Tm×Int=>ab (!(r5.2==0)) (ret (aN,r5.2)) (Option.bind (ax 1099511627776 o.length [Br.mk f' r5.1].length) fun _=>fw hd k ret i r t r1 r2 d m (av t.kind) (o++[Br.mk f' r5.1]) (((p++[x]).length:Nat):Int))) ([],e))) fun e=>ret (aN,e)) ?_
  rw [show ct (dB i r true d x.face)=(aW i r true) d x.face from mX _ _ _ _ _]
  rw [aQ,y6,aZ,aZ]
  refine bR (fun f' hf'=> ?_) fun e _=>rfl
  rw [oR,aK]
  by_cases h0:f'.length=0
  ·rw [if_pos h0,if_pos h0,aU,aZ,ih (p++[x]) m o e4 hm' (by simp;omega)]
   exact bR (fun _ _=>rfl) fun _ _=>rfl
  ·rw [if_neg h0,if_neg h0,hin f',aZ]
   refine bR (fun l hl=> ?_) fun e _=>rfl
   rw [aU,aZ,aV (by simp;omega),ih (p++[x]) m (o++[Br.mk f' l]) e4 hm' (by simp;omega)]
   refine bR (fun s _=> ?_) fun e _=>rfl
   rw [aU];simp
end
theorem abq {i:Int} {r:List Cl} (hi:0≤i∧i<24) (hr:RF r) (t:Tm):OkT t→RowsT t→ ∀ {k:Nat} {d:Int} (ret:Tm×Int→Option S),Fd k (au t)→0≤d→d+au t<4611686018427386000→dM k t d i r ret=ret (tE (aO (aW i r false) (aW i r true) d t)):=by
 induction t using d4 with
 |h t ih1 ih2=>
  intro ht hro k d ret hk hv hv'
  obtain ⟨q,rfl,hq,hf⟩:=hk.pos' (c8 t)
  have hp:=c8 t
  have hd0:0≤d∧d<4611686018427386000:=by omega
  obtain ⟨o1,o2,o3,o4,o5,o6,o7⟩:=ht.no
  have hmo:=dY t.kind
  have hQ: ∀y∈t.kids,∀b,0≤b∧b≤1→ ∀g:Tm×Int→Option S,dM q y (d+b) i r g=g (tE (aO (aW i r false) (aW i r true) (d+b) y)):=fun y hy b h2 g=>
   ih1 y hy (ht.ki hy) (hro.ki hy) g (hf _ (c7 hy)) (by omega) (by have:=c7 hy;omega)
  have hQ': ∀b∈t.sys,∀y∈b.kids,∀g:Tm×Int→Option S,dM q y (d+av t.kind) i r g=g (tE (aO (aW i r false) (aW i r true) (d+av t.kind) y)):=fun b hb y hy g=>
   ih2 b hb y hy ((ht.bi hb).2 y hy) ((hro.bi hb).2 y hy) g (hf _ (cZ hb hy)) (by omega) (by have:=cZ hb hy;omega)
  have hK: ∀g:List Tm×Int→Option S,kJ (dM q) q g i r t t.kids d q [] 0=_:=fun g=>abm hq g hd0 hQ o6 t.kids [] q [] rfl (by have:4294967296≤q:=hq;omega) rfl
  have hS:=fun (r1:List Cl×Int) (r2:List Tm×Int)=>abo (r1:=r1) (r2:=r2) hq ret hi hr hd0 ht hro hQ' t.sys [] q [] rfl (by have:4294967296≤q:=hq;omega) (Nat.le_refl _)
  have hS: ∀ (r1:List Cl×Int) (r2:List Tm×Int),fw (dM q) q ret i r t r1 r2 d q (av t.kind) [] 0=_:=hS
  have hcase: ∀ (r1:List Cl×Int) (r2:List Tm×Int),ab (t.kind==15) (fw (dM q) q ret i r t r1 r2 d q 1 [] 0) (fw (dM q) q ret i r t r1 r2 d q 0 [] 0)=eE (aQ (aW i r false) (aW i r true) d t.kind t.sys) (fun s=>ret (.mk t.kind t.n t.name r1.1 r2.1 s,0)) fun e=>ret (aN,e):=by
   intro r1 r2
   have:=hS r1 r2
   simp only [List.nil_append] at this
   rw [←this,co]
   unfold av
   by_cases h15:t.kind=15
   ·rw [if_pos h15,if_pos (by rw [h15];rfl)]
   ·rw [if_neg h15,if_neg (by rw [beq_iff_eq];exact h15)]
  obtain ⟨z,hz,hrow⟩:=abp hq hi hr hd0 hro (fun r1=>ab (!(r1.2==0)) (ret (aN,r1.2)) (eE (bo (aW i r false) (aW i r true) d t.kind 0 t.kids) (fun l=>(fun r2:List Tm×Int=>ab (!(r2.2==0)) (ret (aN,r2.2)) (eE (aQ (aW i r false) (aW i r true) d t.kind t.sys) (fun s=>ret (.mk t.kind t.n t.name r1.1 r2.1 s,0)) fun e=>ret (aN,e))) (l,0)) fun e=>(fun r2:List Tm×Int=>ab (!(r2.2==0)) (ret (aN,r2.2)) (eE (aQ (aW i r false) (aW i r true) d t.kind t.sys) (fun s=>ret (.mk t.kind t.n t.name r1.1 r2.1 s,0)) fun e=>ret (aN,e))) ([],e)))
  simp only [dM,Ee,ah hq,aD,AG,Eb,hK,hcase,List.nil_append,List.length_nil]
  refine Eq.trans hrow ?_
  rw [jJ _ ret,y7,←hz]
  refine Eq.trans (tT (z:=z) (fun r'=>eE (bo (aW i r false) (aW i r true) d t.kind 0 t.kids) (fun l=>(fun r2:List Tm×Int=>ab (!(r2.2==0)) (ret (aN,r2.2)) (eE (aQ (aW i r false) (aW i r true) d t.kind t.sys) (fun s=>ret (.mk t.kind t.n t.name r' r2.1 s,0)) fun e=>ret (aN,e))) (l,0)) fun e=>(fun r2:List Tm×Int=>ab (!(r2.2==0)) (ret (aN,r2.2)) (eE (aQ (aW i r false) (aW i r true) d t.kind t.sys) (fun s=>ret (.mk t.kind t.n t.name r' r2.1 s,0)) fun e=>ret (aN,e))) ([],e)) fun e=>ret (aN,e)) ?_
  rw [aZ]
  refine bR (fun r' _=> ?_) fun e _=>rfl
  refine Eq.trans (xP (β:=Option S) (γ:=Unit) (bo (aW i r false) (aW i r true) d t.kind 0 t.kids) (fun e he=>PG iE iE he) [] (fun l=>eE (aQ (aW i r false) (aW i r true) d t.kind t.sys) (fun s=>ret (.mk t.kind t.n t.name r' l s,0)) fun e=>ret (aN,e)) fun e=>ret (aN,e)) ?_
  simp only [aZ,aU]
section
variable {hd:Tm→Int→Int→(Tm×Int→Option S)→Option S} {i d:Int} {t:Tm}
theorem U5 (hk:Fu k) (hi:0≤i∧i<24) (hd0:0≤d∧d<4611686018427386000) (hro:RowsT t) (ret:List Cl×Int→Option S): ∃z:List Cl×Int,ct z=(if t.kind=14 then (aw fun d f=>a6 (i+d) f) d t.r else (aw fun d f=>a6 (i+d) f) d t.r)∧vI k t d i ret=ret z:=by
 have hr0:=hro.no.1
 simp only [vI,NU,ah hk,MK hk hi (show 0≤d∧d<4611686018427387000 by omega) hr0]
 by_cases h:t.kind=14
 ·rw [h,if_pos rfl,show ((14:Int)==14)=true from rfl,ae]
  exact ⟨_,rfl,rfl⟩
 ·rw [if_neg h,show (t.kind==14)=false from by rw [beq_eq_false_iff_ne];exact h,ad]
  exact ⟨_,rfl,rfl⟩
theorem U2 (hk:Fu k) (ret:List Tm×Int→Option S) (hd0:0≤d∧d<4611686018427386000) (hQ: ∀y∈t.kids,∀b,0≤b∧b≤1→ ∀g,hd y (d+b) i g=g (tE (aO (aw fun d f=>a6 (i+d) f) (aw fun d f=>a6 (i+d) f) (d+b) y))) (hl:t.kids.length<1073741824):
  ∀ (r' p:List Tm) (m:Nat) (acc:List Tm),t.kids=p++r'→r'.length<m→acc.length=p.length→
  kH hd k ret i t t.kids d m acc (p.length:Int)=eE (bo (aw fun d f=>a6 (i+d) f) (aw fun d f=>a6 (i+d) f) d t.kind p.length r') (fun l=>ret (acc++l,0)) fun e=>ret ([],e):=by
 intro r'
 induction r' with
 |nil=>
  intro p m acc h hm ha
  obtain ⟨m,rfl,hm'⟩:=ak hm
  simp only [kH,ug,aA h,ad,bo,aU,List.append_nil]
 |cons y r' ih=>
  intro p m acc h hm ha
  obtain ⟨m,rfl,hm'⟩:=ak hm
  obtain ⟨e1,e2,e3,e4⟩:=az h (by omega)
  have hpl:p.length<t.kids.length:=by rw [h];simp
  have b2':=gi t.kind p.length
  have hy:=hQ y (by rw [h];simp) (bK t.kind p.length) b2'
  simp only [kH,ug,e1,ae,e2,Option.bind_some,ah hk,rd,Ec,pA,aD,bh (n:=d+bK t.kind p.length) (by omega) (by omega),hy]
  refine Eq.trans (tO (β:=Unit) _ (fun e he=>iM kW kW y he) (fun z=>Option.bind (ax 1099511627776 acc.length [z].length) fun _=>kH hd k ret i t t.kids d m (acc++[z]) (IntKind.wrap .i64 ((p.length:Int)+1))) fun e=>ret ([],e)) ?_
  simp only [bo,aZ,aU]
  refine bR (fun t' ht'=> ?_) fun e _=>rfl
  rw [aV (by simp;omega),e3,ih (p++[y]) m (acc++[t']) e4 hm' (by simp;omega),show (p++[y]).length=p.length+1 by simp]
  simp
theorem U3 (hk:Fu k) (ret:List Tm×Int→Option S) {x:Br Tm} {kd:Int} (hd0:0≤d∧d<4611686018427386000) (hQ: ∀y∈x.kids,∀g,hd y (d+av kd) i g=g (tE (aO (aw fun d f=>a6 (i+d) f) (aw fun d f=>a6 (i+d) f) (d+av kd) y))) (hl:x.kids.length<1073741824):
  ∀ (r' p:List Tm) (m:Nat) (acc:List Tm),x.kids=p++r'→r'.length<m→acc.length=p.length→
  kG hd k ret i (av kd) x.kids d m acc (p.length:Int)=eE (bu (aw fun d f=>a6 (i+d) f) (aw fun d f=>a6 (i+d) f) d kd r') (fun l=>ret (acc++l,0)) fun e=>ret ([],e):=by
 have hmo:=dY kd
 intro r'
 induction r' with
 |nil=>
  intro p m acc h hm ha
  obtain ⟨m,rfl,hm'⟩:=ak hm
  simp only [kG,uf,aA h,ad,bu,aU,List.append_nil]
 |cons y r' ih=>
  intro p m acc h hm ha
  obtain ⟨m,rfl,hm'⟩:=ak hm
  obtain ⟨e1,e2,e3,e4⟩:=az h (by omega)
  have hpl:p.length<x.kids.length:=by rw [h];simp
  have hy:=hQ y (by rw [h];simp)
  simp only [kG,uf,e1,ae,e2,Option.bind_some,ah hk,re,Ed,aD,bh (n:=d+av kd) (by omega) (by omega),hy]
  refine Eq.trans (tO (β:=Unit) _ (fun e he=>iM kW kW y he) (fun z=>Option.bind (ax 1099511627776 acc.length [z].length) fun _=>kG hd k ret i (av kd) x.kids d m (acc++[z]) (IntKind.wrap .i64 ((p.length:Int)+1))) fun e=>ret ([],e)) ?_
  simp only [bu,aZ,aU]
  refine bR (fun t' ht'=> ?_) fun e _=>rfl
  rw [aV (by simp;omega),e3,ih (p++[y]) m (acc++[t']) e4 hm' (by simp;omega)]
  simp
theorem U4 (hk:Fu k) (ret:Tm×Int→Option S) (hi:0≤i∧i<24) (hd0:0≤d∧d<4611686018427386000) {r1:List Cl×Int} {r2:List Tm×Int} (ht:OkT t) (hro:RowsT t) (hQ: ∀b∈t.sys,∀y∈b.kids,∀g,hd y (d+av t.kind) i g=g (tE (aO (aw fun d f=>a6 (i+d) f) (aw fun d f=>a6 (i+d) f) (d+av t.kind) y))):
  ∀ (r' p:List (Br Tm)) (m:Nat) (o:List (Br Tm)),t.sys=p++r'→r'.length<m→o.length≤p.length→
  fy hd k ret i t r1 r2 d m (av t.kind) o (p.length:Int)=eE (aQ (aw fun d f=>a6 (i+d) f) (aw fun d f=>a6 (i+d) f) d t.kind r') (fun s=>ret (.mk t.kind t.n t.name r1.1 r2.1 (o++s),0)) fun e=>ret (aN,e):=by
 obtain ⟨o1,o2,o3,o4,o5,o6,o7⟩:=ht.no
 intro r'
 induction r' with
 |nil=>
  intro p m o h hml ho
  obtain ⟨m,rfl,hm'⟩:=ak hml
  simp only [fy,uk,aA h,ad,aQ,aU,List.append_nil]
 |cons x r' ih=>
  intro p m o h hml ho
  obtain ⟨m,rfl,hm'⟩:=ak hml
  obtain ⟨e1,e2,e3,e4⟩:=az h (by omega)
  have hx:x∈t.sys:=by rw [h];simp
  have hpl:p.length<t.sys.length:=by rw [h];simp
  have hb:=(ht.bi hx).1
  have hr0:=(hro.bi hx).1
  have hM:=fun g:List Tm×Int→Option S=>U3 (kd:=t.kind) hk g hd0 (hQ x hx) hb.2.2 x.kids [] k [] rfl (by have:4294967296≤k:=hk;omega) rfl
  have hM: ∀g:List Tm×Int→Option S,kG hd k g i (av t.kind) x.kids d k [] 0=_:=hM
  simp only [fy,uk,e1,ae,e2,Option.bind_some,ah hk,MK hk hi (show 0≤d∧d<4611686018427387000 by omega) hr0,AD,D9,hM,e3,List.nil_append]
  have hin:=fun f':List Cl=>xP (β:=Option S) (γ:=Unit) (bu (aw fun d f=>a6 (i+d) f) (aw fun d f=>a6 (i+d) f) d t.kind x.kids) (fun e he=>PH kW kW he) [] (fun l=>Option.bind (ax 1099511627776 o.length [Br.mk f' l].length) fun _=>fy hd k ret i t r1 r2 d m (av t.kind) (o++[Br.mk f' l]) (((p++[x]).length:Nat):Int)) fun e=>ret (aN,e)
  refine Eq.trans (tT (z:=(a6 (i+d) x.face,(0:Int))) (fun f'=>ab (((f'.length:Nat):Int)==0) (fy hd k ret i t r1 r2 d m (av t.kind) o (((p++[x]).length:Nat):Int)) (eE (bu (aw fun d f=>a6 (i+d) f) (aw fun d f=>a6 (i+d) f) d t.kind x.kids) (fun l=>(fun r5:List Tm×Int=>ab (!(r5.2==0)) (ret (aN,r5.2)) (Option.bind (ax 1099511627776 o.length [Br.mk f' r5.1].length) fun _=>fy hd k ret i t r1 r2 d m (av t.kind) (o++[Br.mk f' r5.1]) (((p++[x]).length:Nat):Int))) (l,0)) fun e=>(fun r5:List Tm×Int=>ab (!(r5.2==0)) (ret (aN,r5.2)) (Option.bind (ax 1099511627776 o.length [Br.mk f' r5.1].length) fun _=>fy hd k ret i t r1 r2 d m (av t.kind) (o++[Br.mk f' r5.1]) (((p++[x]).length:Nat):Int))) ([],e))) fun e=>ret (aN,e)) ?_
  rw [show ct (a6 (i+d) x.face,(0:Int))=(aw fun d f=>a6 (i+d) f) d x.face from rfl]
  rw [aQ,y6,aZ,aZ]
  refine bR (fun f' hf'=> ?_) fun e _=>rfl
  rw [oR,aK]
  by_cases h0:f'.length=0
  ·rw [if_pos h0,if_pos h0,aU,aZ,ih (p++[x]) m o e4 hm' (by simp;omega)]
   exact bR (fun _ _=>rfl) fun _ _=>rfl
  ·rw [if_neg h0,if_neg h0,hin f',aZ]
   refine bR (fun l hl=> ?_) fun e _=>rfl
   rw [aU,aZ,aV (by simp;omega),ih (p++[x]) m (o++[Br.mk f' l]) e4 hm' (by simp;omega)]
   refine bR (fun s _=> ?_) fun e _=>rfl
   rw [aU];simp
end
theorem U6 {i:Int} (hi:0≤i∧i<24) (t:Tm):OkT t→RowsT t→ ∀ {k:Nat} {d:Int} (ret:Tm×Int→Option S),Fd k (au t)→0≤d→d+au t<4611686018427386000→dG k t d i ret=ret (tE (aO (aw fun d f=>a6 (i+d) f) (aw fun d f=>a6 (i+d) f) d t)):=by
 induction t using d4 with
 |h t ih1 ih2=>
  intro ht hro k d ret hk hv hv'
  obtain ⟨q,rfl,hq,hf⟩:=hk.pos' (c8 t)
  have hp:=c8 t
  have hd0:0≤d∧d<4611686018427386000:=by omega
  obtain ⟨o1,o2,o3,o4,o5,o6,o7⟩:=ht.no
  have hmo:=dY t.kind
  have hQ: ∀y∈t.kids,∀b,0≤b∧b≤1→ ∀g:Tm×Int→Option S,dG q y (d+b) i g=g (tE (aO (aw fun d f=>a6 (i+d) f) (aw fun d f=>a6 (i+d) f) (d+b) y)):=fun y hy b h2 g=>
   ih1 y hy (ht.ki hy) (hro.ki hy) g (hf _ (c7 hy)) (by omega) (by have:=c7 hy;omega)
  have hQ': ∀b∈t.sys,∀y∈b.kids,∀g:Tm×Int→Option S,dG q y (d+av t.kind) i g=g (tE (aO (aw fun d f=>a6 (i+d) f) (aw fun d f=>a6 (i+d) f) (d+av t.kind) y)):=fun b hb y hy g=>
   ih2 b hb y hy ((ht.bi hb).2 y hy) ((hro.bi hb).2 y hy) g (hf _ (cZ hb hy)) (by omega) (by have:=cZ hb hy;omega)
  have hK: ∀g:List Tm×Int→Option S,kH (dG q) q g i t t.kids d q [] 0=_:=fun g=>U2 hq g hd0 hQ o6 t.kids [] q [] rfl (by have:4294967296≤q:=hq;omega) rfl
  have hS:=fun (r1:List Cl×Int) (r2:List Tm×Int)=>U4 (r1:=r1) (r2:=r2) hq ret hi hd0 ht hro hQ' t.sys [] q [] rfl (by have:4294967296≤q:=hq;omega) (Nat.le_refl _)
  have hS: ∀ (r1:List Cl×Int) (r2:List Tm×Int),fy (dG q) q ret i t r1 r2 d q (av t.kind) [] 0=_:=hS
  have hcase: ∀ (r1:List Cl×Int) (r2:List Tm×Int),ab (t.kind==15) (fy (dG q) q ret i t r1 r2 d q 1 [] 0) (fy (dG q) q ret i t r1 r2 d q 0 [] 0)=eE (aQ (aw fun d f=>a6 (i+d) f) (aw fun d f=>a6 (i+d) f) d t.kind t.sys) (fun s=>ret (.mk t.kind t.n t.name r1.1 r2.1 s,0)) fun e=>ret (aN,e):=by
   intro r1 r2
   have:=hS r1 r2
   simp only [List.nil_append] at this
   rw [←this,co]
   unfold av
   by_cases h15:t.kind=15
   ·rw [if_pos h15,if_pos (by rw [h15];rfl)]
   ·rw [if_neg h15,if_neg (by rw [beq_iff_eq];exact h15)]
  obtain ⟨z,hz,hrow⟩:=U5 hq hi hd0 hro (fun r1=>ab (!(r1.2==0)) (ret (aN,r1.2)) (eE (bo (aw fun d f=>a6 (i+d) f) (aw fun d f=>a6 (i+d) f) d t.kind 0 t.kids) (fun l=>(fun r2:List Tm×Int=>ab (!(r2.2==0)) (ret (aN,r2.2)) (eE (aQ (aw fun d f=>a6 (i+d) f) (aw fun d f=>a6 (i+d) f) d t.kind t.sys) (fun s=>ret (.mk t.kind t.n t.name r1.1 r2.1 s,0)) fun e=>ret (aN,e))) (l,0)) fun e=>(fun r2:List Tm×Int=>ab (!(r2.2==0)) (ret (aN,r2.2)) (eE (aQ (aw fun d f=>a6 (i+d) f) (aw fun d f=>a6 (i+d) f) d t.kind t.sys) (fun s=>ret (.mk t.kind t.n t.name r1.1 r2.1 s,0)) fun e=>ret (aN,e))) ([],e)))
  simp only [dG,Ef,ah hq,aD,AE,D_,hK,hcase,List.nil_append,List.length_nil]
  refine Eq.trans hrow ?_
  rw [jJ _ ret,y7,←hz]
  refine Eq.trans (tT (z:=z) (fun r'=>eE (bo (aw fun d f=>a6 (i+d) f) (aw fun d f=>a6 (i+d) f) d t.kind 0 t.kids) (fun l=>(fun r2:List Tm×Int=>ab (!(r2.2==0)) (ret (aN,r2.2)) (eE (aQ (aw fun d f=>a6 (i+d) f) (aw fun d f=>a6 (i+d) f) d t.kind t.sys) (fun s=>ret (.mk t.kind t.n t.name r' r2.1 s,0)) fun e=>ret (aN,e))) (l,0)) fun e=>(fun r2:List Tm×Int=>ab (!(r2.2==0)) (ret (aN,r2.2)) (eE (aQ (aw fun d f=>a6 (i+d) f) (aw fun d f=>a6 (i+d) f) d t.kind t.sys) (fun s=>ret (.mk t.kind t.n t.name r' r2.1 s,0)) fun e=>ret (aN,e))) ([],e)) fun e=>ret (aN,e)) ?_
  rw [aZ]
  refine bR (fun r' _=> ?_) fun e _=>rfl
  refine Eq.trans (xP (β:=Option S) (γ:=Unit) (bo (aw fun d f=>a6 (i+d) f) (aw fun d f=>a6 (i+d) f) d t.kind 0 t.kids) (fun e he=>PG kW kW he) [] (fun l=>eE (aQ (aw fun d f=>a6 (i+d) f) (aw fun d f=>a6 (i+d) f) d t.kind t.sys) (fun s=>ret (.mk t.kind t.n t.name r' l s,0)) fun e=>ret (aN,e)) fun e=>ret (aN,e)) ?_
  simp only [aZ,aU]
end Go.Proofs.YtapmagaejigpnaaGreatDoor
namespace Go.Proofs.YtapmagaejigpnaaGreatDoor
open Go PI
set_option linter.unusedVariables false
set_option linter.unusedSimpArgs false
set_option maxRecDepth 20000
variable {S:Type} {k:Nat}
def vu (i:Int):Int→List Cl→List Cl:=fun d f=>a6 (i+d) f
def bS (i:Int) (r:List Cl) (fa:Bool):dD:=cS (aW i r fa) (vu i)
theorem sk (i:Int) (r:List Cl) (fa:Bool) (d:Int) (f:List Cl):bS i r fa d f=bE (aW i r fa d f) fun m=> .ok (a6 (i+d) m):=rfl
theorem nR {i:Int} {r:List Cl} {fa:Bool}: ∀d f e,bS i r fa d f= .error e→0<e∧e≤1000:=fun d f e h=>by
 rw [sk] at h
 rcases bm h with h|⟨_,_,h⟩
 ·exact yC h
 ·cases h
section
variable {hd:Tm→Int→List Cl→Int→Bool→(Tm→Option S)→Option S} {i d:Int} {r:List Cl} {t:Tm}
theorem ZO (hk:Fu k) (ret:Tm→Option S) (rec1:List (Br Tm)→Int→Option S) {v18:Int} {r3:List Cl} {ks:List Tm} {o:List (Br Tm)} {x:Br Tm} (hi:al t.sys v18=some x)
  (hd0:0≤d∧d<4611686018427386000) (hQ: ∀y∈x.kids,∀g,hd y i r (d+av t.kind) true g=g (rE (aO (bS i r false) (bS i r true) (d+av t.kind) y))) (hkd: ∀y∈x.kids,0≤y.kind) (hl:x.kids.length<1073741824) (ho:o.length<1073741824) {f'':List Cl}:
  ∀ (r' p:List Tm) (m:Nat) (acc:List Tm),x.kids=p++r'→r'.length<m→acc.length=p.length→
  jx hd k ret rec1 t r3 ks o i v18 r d true m f'' acc (p.length:Int)=eE (bu (bS i r false) (bS i r true) d t.kind r') (fun l=>rec1 (o++[Br.mk f'' (acc++l)]) (IntKind.wrap .i64 (v18+1))) fun e=>ret (bH e):=by
 have hmo:=dY t.kind
 intro r'
 induction r' with
 |nil=>
  intro p m acc h hm ha
  obtain ⟨m,rfl,hm'⟩:=ak hm
  simp only [jx,va,hi,Option.bind_some,aA h,ad,bu,aU,List.append_nil]
  rw [aV (by simp;omega)]
 |cons y r' ih=>
  intro p m acc h hm ha
  obtain ⟨m,rfl,hm'⟩:=ak hm
  obtain ⟨e1,e2,e3,e4⟩:=az h (by omega)
  have hpl:p.length<x.kids.length:=by rw [h];simp
  have hym:y∈x.kids:=by rw [h];simp
  have hy:=hQ y hym
  simp only [jx,va,hi,e1,ae,e2,Option.bind_some,ah hk,DM,aD,bh (n:=d+av t.kind) (by omega) (by omega),hy]
  refine Eq.trans (tj (fun e he=>(iM nR nR y he).1) (fun z hz=>by rw [Fz hz];exact hkd y hym) (fun z=>Option.bind (ax 1099511627776 acc.length [z].length) fun _=>jx hd k ret rec1 t r3 ks o i v18 r d true m f'' (acc++[z]) (IntKind.wrap .i64 ((p.length:Int)+1))) ret) ?_
  simp only [bu,aZ,aU]
  refine bR (fun t' ht'=> ?_) fun e _=>rfl
  rw [aV (by simp;omega),e3,ih (p++[y]) m (acc++[t']) e4 hm' (by simp;omega)]
  simp
theorem ZN (hk:Fu k) (ret:Tm→Option S) (hi:0≤i∧i<24) (hr:RF r) {r3:List Cl} {ks:List Tm} (ht:OkT t) (hro:RowsT t) (hd0:0≤d∧d<4611686018427386000)
  (hQ: ∀b∈t.sys,∀y∈b.kids,∀g,hd y i r (d+av t.kind) true g=g (rE (aO (bS i r false) (bS i r true) (d+av t.kind) y))):
  ∀ (r' p:List (Br Tm)) (m:Nat) (o:List (Br Tm)),t.sys=p++r'→r'.length<m→o.length≤p.length→
  gE hd k ret t r3 ks i r d true m o (p.length:Int)=eE (aQ (bS i r false) (bS i r true) d t.kind r') (fun l=>ret (.mk t.kind t.n t.name r3 ks (o++l))) fun e=>ret (bH e):=by
 obtain ⟨o1,o2,o3,o4,o5,o6,o7⟩:=ht.no
 intro r'
 induction r' with
 |nil=>
  intro p m o h hml ho
  obtain ⟨m,rfl,hm'⟩:=ak hml
  simp only [gE,qH,aA h,ad,aQ,aU,List.append_nil]
 |cons x r' ih=>
  intro p m o h hml ho
  obtain ⟨m,rfl,hm'⟩:=ak hml
  obtain ⟨e1,e2,e3,e4⟩:=az h (by omega)
  have hx:x∈t.sys:=by rw [h];simp
  have hpl:p.length<t.sys.length:=by rw [h];simp
  have hb:=(ht.bi hx).1
  have hr0:=(hro.bi hx).1
  have hM:=fun f'':List Cl=>ZO (f'':=f'') (r3:=r3) (ks:=ks) (o:=o) hk ret (gE hd k ret t r3 ks i r d true m) e2 hd0 (hQ x hx) (fun y hy=>((hro.bi hx).2 y hy).no.2.2) hb.2.2 (by omega) x.kids [] k [] rfl (by have:4294967296≤k:=hk;omega) rfl
  have hM: ∀f'':List Cl,jx hd k ret (gE hd k ret t r3 ks i r d true m) t r3 ks o i (p.length:Int) r d true k f'' [] 0=_:=hM
  simp only [gE,qH,e1,ae,e2,Option.bind_some,ah hk,MX hk hr0 hr hi (show 0≤d∧d<4611686018427387000 by omega),bh (n:=i+d) (by omega) (by omega),hM,e3,List.nil_append]
  rw [aQ,y6,aZ,aZ,sk,aZ,←mX]
  have hz:=mX i r true d x.face
  by_cases h0:(dB i r true d x.face).2=0
  ·have hrf:RF (dB i r true d x.face).1:=px hr0 (hz.symm.trans (fL h0))
   rw [a7,decide_eq_true h0,Bool.not_true,ad,fL h0,aU,aU,oR,aK,MI hk hrf]
   have hlen:=F5 (j:=i+d) hrf
   by_cases hl:(dB i r true d x.face).1.length=0
   ·rw [if_pos hl,if_pos (hlen.2 hl),aU,aZ,ih (p++[x]) m o e4 hm' (by simp;omega)]
    exact bR (fun _ _=>rfl) fun _ _=>rfl
   ·rw [if_neg hl,if_neg (fun h=>hl (hlen.1 h)),aZ]
    refine bR (fun l _=> ?_) fun e _=>rfl
    rw [aU,aZ,ih (p++[x]) m (o++[Br.mk (a6 (i+d) (dB i r true d x.face).1) l]) e4 hm' (by simp;omega)]
    refine bR (fun s _=> ?_) fun e _=>rfl
    rw [aU];simp
  ·have hze:ct (dB i r true d x.face)= .error (dB i r true d x.face).2:=eQ h0
   have hen:=yC (hz.symm.trans hze)
   rw [a7,decide_eq_false h0,Bool.not_false,ae,hze,jL hen];rfl
theorem ZM (hk:Fu k) (ret:Tm→Option S) (hi:0≤i∧i<24) (hr:RF r) {r3:List Cl} (ht:OkT t) (hro:RowsT t) (hd0:0≤d∧d<4611686018427386000)
  (hQ: ∀y∈t.kids,∀b,0≤b∧b≤1→ ∀g,hd y i r (d+b) true g=g (rE (aO (bS i r false) (bS i r true) (d+b) y))) (hQ': ∀b∈t.sys,∀y∈b.kids,∀g,hd y i r (d+av t.kind) true g=g (rE (aO (bS i r false) (bS i r true) (d+av t.kind) y))):
  ∀ (r' p:List Tm) (m:Nat) (acc:List Tm),t.kids=p++r'→r'.length<m→acc.length=p.length→
  kT hd k ret t i r d true m r3 acc (p.length:Int)=eE (bo (bS i r false) (bS i r true) d t.kind p.length r') (fun l=>eE (aQ (bS i r false) (bS i r true) d t.kind t.sys) (fun s=>ret (.mk t.kind t.n t.name r3 (acc++l) s)) fun e=>ret (bH e)) fun e=>ret (bH e):=by
 obtain ⟨o1,o2,o3,o4,o5,o6,o7⟩:=ht.no
 intro r'
 induction r' with
 |nil=>
  intro p m acc h hm ha
  obtain ⟨m,rfl,hm'⟩:=ak hm
  have hs:gE hd k ret t r3 acc i r d true k [] 0=_:=ZN hk ret hi hr ht hro hd0 hQ' t.sys [] k [] rfl (by have:4294967296≤k:=hk;omega) (Nat.le_refl _)
  simp only [kT,qG,aA h,ad,bo,aU,List.append_nil,hs,List.nil_append]
 |cons y r' ih=>
  intro p m acc h hm ha
  obtain ⟨m,rfl,hm'⟩:=ak hm
  obtain ⟨e1,e2,e3,e4⟩:=az h (by omega)
  have hpl:p.length<t.kids.length:=by rw [h];simp
  have b2':=gi t.kind p.length
  have hym:y∈t.kids:=by rw [h];simp
  have hy:=hQ y hym (bK t.kind p.length) b2'
  simp only [kT,qG,e1,ae,e2,Option.bind_some,ah hk,DI hk,aD,bh (n:=d+bK t.kind p.length) (by omega) (by omega),hy]
  refine Eq.trans (tj (fun e he=>(iM nR nR y he).1) (fun z hz=>by rw [Fz hz];exact (hro.ki hym).no.2.2) (fun z=>Option.bind (ax 1099511627776 acc.length [z].length) fun _=>kT hd k ret t i r d true m r3 (acc++[z]) (IntKind.wrap .i64 ((p.length:Int)+1))) ret) ?_
  simp only [bo,aZ,aU]
  refine bR (fun t' ht'=> ?_) fun e _=>rfl
  rw [aV (by simp;omega),e3,ih (p++[y]) m (acc++[t']) e4 hm' (by simp;omega),show (p++[y]).length=p.length+1 by simp]
  simp
end
theorem acW {i:Int} {r:List Cl} (hi:0≤i∧i<24) (hr:RF r) (t:Tm):OkT t→RowsT t→ ∀ {k:Nat} {d:Int} (ret:Tm→Option S),Fd k (au t)→0≤d→d+au t<4611686018427386000→fj k t i r d true ret=ret (rE (aO (bS i r false) (bS i r true) d t)):=by
 induction t using d4 with
 |h t ih1 ih2=>
  intro ht hro k d ret hk hv hv'
  obtain ⟨q,rfl,hq,hf⟩:=hk.pos' (c8 t)
  have hp:=c8 t
  have hd0:0≤d∧d<4611686018427386000:=by omega
  obtain ⟨o1,o2,o3,o4,o5,o6,o7⟩:=ht.no
  have hmo:=dY t.kind
  have hr0:=hro.no.1
  have hQ: ∀y∈t.kids,∀b,0≤b∧b≤1→ ∀g:Tm→Option S,fj q y i r (d+b) true g=g (rE (aO (bS i r false) (bS i r true) (d+b) y)):=fun y hy b h2 g=>
   ih1 y hy (ht.ki hy) (hro.ki hy) g (hf _ (c7 hy)) (by omega) (by have:=c7 hy;omega)
  have hQ': ∀b∈t.sys,∀y∈b.kids,∀g:Tm→Option S,fj q y i r (d+av t.kind) true g=g (rE (aO (bS i r false) (bS i r true) (d+av t.kind) y)):=fun b hb y hy g=>
   ih2 b hb y hy ((ht.bi hb).2 y hy) ((hro.bi hb).2 y hy) g (hf _ (cZ hb hy)) (by omega) (by have:=cZ hb hy;omega)
  have h1:=fun r3:List Cl=>ZM (r3:=r3) hq ret hi hr ht hro hd0 hQ hQ' t.kids [] q [] rfl (by have:4294967296≤q:=hq;omega) rfl
  have h1: ∀r3:List Cl,kT (fj q) q ret t i r d true q r3 [] 0=_:=h1
  simp only [fj,E7,ah hq,MX hq hr0 hr hi (show 0≤d∧d<4611686018427387000 by omega),bh (n:=i+d) (by omega) (by omega),ae,h1,List.nil_append,List.length_nil]
  have hfa: ∀fa:Bool,(if t.kind=14 then bS i r true d t.r else bS i r false d t.r)=bS i r (t.kind==14) d t.r:=fun _=>by
   by_cases h:t.kind=14
   ·rw [if_pos h,h];rfl
   ·rw [if_neg h,show (t.kind==14)=false from by rw [beq_eq_false_iff_ne];exact h]
  rw [jI _ ret,y7,hfa true,sk,aZ,aZ,←mX]
  have hz:=mX i r (t.kind==14) d t.r
  by_cases h0:(dB i r (t.kind==14) d t.r).2=0
  ·have hrf:RF (dB i r (t.kind==14) d t.r).1:=px hr0 (hz.symm.trans (fL h0))
   rw [a7,decide_eq_true h0,Bool.not_true,ad,fL h0,aU,aU,MI hq hrf]
   simp only [aZ,aU]
  ·have hze:ct (dB i r (t.kind==14) d t.r)= .error (dB i r (t.kind==14) d t.r).2:=eQ h0
   have hen:=yC (hz.symm.trans hze)
   rw [a7,decide_eq_false h0,Bool.not_false,ae,hze,jL hen];rfl
def lj (i:Int) (r:List Cl) (t:Tm):Except Int Tm:=bE (ct (ba r i 1)) fun s=>aO (bS i s false) (bS i s true) 0 t
theorem ad3 {i:Int} {r:List Cl} {t:Tm} {e:Int} (h:lj i r t= .error e):0<e∧e≤1000:=by
 rcases bm h with h|⟨s,_,h⟩
 ·obtain ⟨h1,rfl⟩:=tR h
  have:=oT r i 1
  unfold EN at this;omega
 ·exact iM nR nR t h
theorem ad4 {i:Int} {r:List Cl} {t y:Tm} (h:lj i r t= .ok y):y.kind=t.kind:=by
 obtain ⟨s,_,h⟩:=aM h
 exact Fz h
theorem acs (hk:F3 k) {t:Tm} (ht:Fm t) {i:Int} (hi:0≤i∧i<24) {r:List Cl} (hr:RF r) (ret:Tm×Int→Option S):qZ k t i r ret=ret (tE (lj i r t)):=by
 have l2:=hr.len
 have hdp:=ht.dep
 simp only [qZ,NL,ah hk.fu,aD,AH,NV,tC ht.ok (ht.fd hk) (show au t<1099511627776 by omega),ht.2,acy hk.fu,pD hk.fu hr.2 hr.lt,hr.right,decide_eq_true hi,tG hk.fu hr.2 (show r.length<1073741824 by omega) (show aE i by unfold aE;omega) (show aE 1 by unfold aE;omega),Az,NO,AB,NR,AC,NS,Ay,NN]
 rw [show ((0:Int)==0)=true from rfl,Bool.not_true,ad,ad,ad,ad]
 rw [jJ _ ret]
 unfold lj
 rw [aZ]
 by_cases h0:(ba r i 1).2=0
 ·have hs:=gI h0
  rw [a7,decide_eq_true h0,Bool.not_true,ad,fL h0,aU,abq hi hs t ht.ok ht.rows _ (ht.fd hk) (by omega) (by omega)]
  refine Eq.trans (tO (α:=Option S) (β:=Unit) _ (fun e he=>iM iE iE t he) (fun x=>dG k x 0 i fun r6=>ret (r6.1,r6.2)) fun e=>ret (aN,e)) ?_
  have htw:=aez (fo:=aW i (ba r i 1).1 false) (fa:=aW i (ba r i 1).1 true) (G:=vu i) (fun d f g hf h=>px hf h) (fun d f hf=>F5 hf) t 0 ht.rows
  show _=eE (aO (cS (aW i (ba r i 1).1 false) (vu i)) (cS (aW i (ba r i 1).1 true) (vu i)) 0 t) _ _
  rw [←htw,aZ]
  refine bR (fun x hx=> ?_) fun e _=>rfl
  have hw:=PK (fun d f g hf h=>px hf h) (fun d f g hf h=>px hf h) (fun d=>L_) t 0 x hx
  obtain ⟨w1,w2,w3,w4⟩:=hw
  obtain ⟨hox,hrx⟩:=w4 ht.ok ht.rows
  rw [U6 hi x hox hrx _ (hk.fd (by omega)) (by omega) (by omega)]
  exact jJ _ ret
 ·rw [a7,decide_eq_false h0,Bool.not_false,ae,eQ h0];rfl
theorem acb (hk:F3 k) {t:Tm} (ht:Fm t) {i:Int} (hi:0≤i∧i<24) {r:List Cl} (hr:RF r) (ret:Tm→Option S):rB k t i r ret=ret (rE (lj i r t)):=by
 have l2:=hr.len
 have hdp:=ht.dep
 simp only [rB,OY,ah hk.fu,aD,yG hk.fu hr.2 (show r.length<1073741824 by omega) (show aE i by unfold aE;omega) (show aE 1 by unfold aE;omega)]
 rw [decide_eq_false (by have:=ht.rows.no.2.2;omega),ad,jI _ ret]
 unfold lj
 rw [aZ]
 by_cases h0:(ba r i 1).2=0
 ·have hs:=gI h0
  rw [a7,decide_eq_true h0,Bool.not_true,ad,fL h0,aU,acW hi hs t ht.ok ht.rows _ (ht.fd hk) (by omega) (by omega),jI _ ret]
 ·have hze:ct (ba r i 1)= .error (ba r i 1).2:=eQ h0
  have hen:0<(ba r i 1).2∧(ba r i 1).2≤1000:=by
   have:=oT r i 1
   unfold EN at this;omega
  rw [a7,decide_eq_false h0,Bool.not_false,ae,hze,jL hen];rfl
end Go.Proofs.YtapmagaejigpnaaGreatDoor
namespace Go.Proofs.YtapmagaejigpnaaGreatDoor
open Go PI
set_option linter.unusedVariables false
set_option linter.unusedSimpArgs false
set_option maxRecDepth 20000
variable {S:Type} {k:Nat}
def In (k:Nat) (t:Tm):Prop:=OkT t∧Fd k (au t)∧ay t<1073741824
theorem In.dep {t:Tm} (h:In k t):au t<1099511627776:=by have:=ie t;have:=h.2.2;omega
theorem Fm.isIn {t:Tm} (h:Fm t) (hk:F3 k):In k t:=⟨h.ok,h.fd hk,by have:=h.siz;omega⟩
def bn:List Tm→Int
 |[]=>0
 |t::l=>if cx t=0 then bn l else cx t
theorem fI {l:List Tm} (hl: ∀t∈l,OkT t) (h:bn l=0): ∀t∈l,Fm t:=by
 induction l with
 |nil=>intro t h;cases h
 |cons x l ih=>
  intro t ht
  unfold bn at h
  split at h
  ·next h0=>
   rcases List.mem_cons.1 ht with rfl|ht
   ·exact ⟨hl _ (by simp),h0⟩
   ·exact ih (fun t ht=>hl t (by simp [ht])) h t ht
  ·next h0=>exact absurd h h0
theorem aft (l:List Tm):0≤bn l∧bn l≤1000:=by
 induction l with
 |nil=>unfold bn;omega
 |cons x l ih=>
  unfold bn
  split
  ·exact ih
  ·exact G9 x
theorem mR (c e:Int) (ret:Int→Option S):gj k e c ret=ret (if c=0 then e else c):=by
 simp only [gj,NA,a7,aK]
 split<;>rfl
theorem YC (hk:Fu k) (ret:Int→Option S) {l:List Tm} (hl: ∀t∈l,In k t) (hlen:l.length<1000):
  ∀ (r p:List Tm) (m:Nat) (b:Int),l=p++r→r.length<m→nU k ret l m b (p.length:Int)=ret (if b=0 then bn r else b):=by
 intro r
 induction r with
 |nil=>
  intro p m b h hm
  obtain ⟨m,rfl,hm'⟩:=ak hm
  simp only [nU,ub,aA h,ad,bn]
  split
  ·next h=>rw [h]
  ·rfl
 |cons x r ih=>
  intro p m b h hm
  obtain ⟨m,rfl,hm'⟩:=ak hm
  obtain ⟨e1,e2,e3,e4⟩:=az h (by omega)
  have hx:=hl x (by rw [h];simp)
  simp only [nU,ub,e1,ae,e2,Option.bind_some,ah hk,aD,tC hx.1 hx.2.1 hx.dep,mR,e3,ih (p++[x]) m _ e4 hm',bn]
  congr 1
  have:=G9 x
  by_cases hb:b=0
  ·rw [if_pos hb,if_pos hb]
  ·rw [if_neg hb,if_neg hb,if_neg hb]
theorem yE (hk:F3 k) {l:List Tm} (hl: ∀t∈l,In k t) (hlen:l.length<1000) (ret:Int→Option S):jZ k l ret=ret (bn l):=by
 simp only [jZ,DX]
 have:=YC hk.fu ret hl hlen l [] k 0 rfl (by have:4294968296≤k:=hk;omega)
 exact this
theorem ZU (hk:Fu k) (ret:Int→Option S) {l:List Tm} (hl: ∀t∈l,In k t) (hlen:l.length<1000):
  ∀ (r p:List Tm) (m:Nat),l=p++r→r.length<m→oG k ret l m (p.length:Int)=ret (bn r):=by
 intro r
 induction r with
 |nil=>
  intro p m h hm
  obtain ⟨m,rfl,hm'⟩:=ak hm
  simp only [oG,vd,aA h,ad,bn]
 |cons x r ih=>
  intro p m h hm
  obtain ⟨m,rfl,hm'⟩:=ak hm
  obtain ⟨e1,e2,e3,e4⟩:=az h (by omega)
  have hx:=hl x (by rw [h];simp)
  simp only [oG,vd,e1,ae,e2,Option.bind_some,ah hk,aD,DL hx.1 hx.2.1 (show ay x<1099511627776 by have:=hx.2.2;omega),e3,ih (p++[x]) m e4 hm',bn,a7]
  by_cases h0:cx x=0
  ·rw [decide_eq_true h0,if_pos h0,Bool.not_true,ad]
  ·rw [decide_eq_false h0,if_neg h0,Bool.not_false,ae]
theorem Dz (hk:F3 k) {l:List Tm} (hl: ∀t∈l,In k t) (hlen:l.length<1000) (ret:Int→Option S):jf k l ret=ret (bn l):=by
 simp only [jf,E_]
 exact ZU hk.fu ret hl hlen l [] k rfl (by have:4294968296≤k:=hk;omega)
def gh (r:List Cl) (line:Tm):Except Int Tm:=bE (bA 0 2 0 1 line) (lj 0 r)
theorem t_ {r:List Cl} {t:Tm} {e:Int} (h:gh r t= .error e):0<e∧e≤1000:=by
 rcases bm h with h|⟨s,_,h⟩
 ·exact jz t h
 ·exact ad3 h
theorem Uv {r:List Cl} {t y:Tm} (h:gh r t= .ok y):y.kind=t.kind:=by
 obtain ⟨s,h1,h⟩:=aM h
 rw [ad4 h,mA h1]
theorem G6 {i:Int} {r:List Cl} {fa:Bool} {d:Int} {f g:List Cl} (hf:RF f) (h:bS i r fa d f= .ok g):RF g:=by
 rw [sk] at h
 obtain ⟨m,h1,h⟩:=aM h
 injection h with h;subst h
 exact UV (px hf h1).len
theorem Xl {i:Int} {r:List Cl} {fa:Bool} (d:Int):bS i r fa d []= .ok []:=by
 rw [sk,L_,ao];rfl
theorem ad5 {i:Int} {r:List Cl} {t y:Tm} (h:lj i r t= .ok y):Wk t y:=by
 obtain ⟨s,_,h⟩:=aM h
 exact PK (fun d f g hf h=>G6 hf h) (fun d f g hf h=>G6 hf h) Xl t 0 y h
theorem Uw {r:List Cl} {t y:Tm} (ht:Fm t) (h:gh r t= .ok y):OkT y∧RowsT y∧au y≤200∧ay y≤20000:=by
 obtain ⟨s,h1,h⟩:=aM h
 have hs:=mz (by omega) ht h1
 obtain ⟨w1,w2,w3,w4⟩:=ad5 h
 have h4:=w4 hs.ok hs.rows
 have:=hs.dep;have:=hs.siz
 exact ⟨h4.1,h4.2,by omega,by omega⟩
section
variable {c:Int}
theorem adk (hc:c≠0) (hk:F3 k) (f:List Cl) (ret:List Cl×Int→Option S):i8 k f c ret=ret ([],c):=by
 simp only [i8,D4,ah hk.fu,du,gU,a7,decide_eq_false hc,Bool.not_false,ae]
theorem MV (hc:c≠0) (hk:F3 k) (f g:List Cl) (ret:List Cl×Int→Option S):j4 k f g c ret=ret ([],c):=by
 simp only [j4,D0,ah hk.fu,du,gU,a7,decide_eq_false hc,Bool.not_false,ae]
theorem DB (hc:c≠0) (hk:F3 k) (l:Tm) (r:List Cl) (ret:Tm×Int→Option S):iZ k l r c ret=ret (aN,c):=by
 simp only [iZ,DY,ah hk.fu,du,gU,a7,decide_eq_false hc,Bool.not_false,ae];rfl
theorem tJ (hc:c≠0) (hk:F3 k) (l:Tm) (a b:Int) (ret:Tm×Int→Option S):b_ k l a b c ret=ret (aN,c):=by
 simp only [b_,D5,ah hk.fu,du,gU,a7,decide_eq_false hc,Bool.not_false,ae];rfl
theorem pC (hc:c≠0) (hk:F3 k) (l:Tm) (ret:Tm×Int×Int→Option S):dT k l c ret=ret (aN,c,c):=by
 simp only [dT,DZ,ah hk.fu,du,gU,a7,decide_eq_false hc,Bool.not_false,ae,ad];rfl
end
theorem adj (hk:F3 k) {f:List Cl} (hf:am f) (hl:f.length<1073741824) (ret:List Cl×Int→Option S):i8 k f 0 ret=ret (ba f 0 1):=by
 simp only [i8,D4,ah hk.fu,du,gU,tG hk.fu hf hl (show aE 0 by unfold aE;omega) (show aE 1 by unfold aE;omega),mR,if_true]
 rfl
theorem acS (hk:F3 k) {f g:List Cl} (hf:am f) (hg:am g) (h1:f.length<1073741824) (h2:g.length<1073741824) (ret:List Cl×Int→Option S):j4 k f g 0 ret=ret (dW f g):=by
 simp only [j4,D0,ah hk.fu,du,gU,acC hk.fu hf hg h1 h2,mR,if_true]
 rfl
theorem Nb (hk:F3 k) {t:Tm} (ht:Fm t) {a b:Int} (ha:0≤a∧a≤1000000) (hb:0≤b∧b<9223372036854775808) (ret:Tm×Int→Option S):b_ k t a b 0 ret=ret (tE (aG a b t)):=by
 simp only [b_,D5,ah hk.fu,du,gU,aD,acL hk ht ha hb,mR,if_true]
 rfl
theorem acu (hk:F3 k) {t:Tm} (ht:Fm t) {r:List Cl} (hr:RF r) (ret:Tm×Int→Option S):iZ k t r 0 ret=ret (tE (gh r t)):=by
 simp only [iZ,DY,ah hk.fu,du,gU,aD,acM hk ht (show (0:Int)≤1∧(1:Int)≤24 by omega) (show (0:Int)≤2∧(2:Int)<9223372036854775808 by omega),mR,if_true]
 rw [show ((0:Int)==0)=true from rfl,Bool.not_true,ad,jJ _ ret]
 unfold gh
 rw [aZ]
 cases hx:bA 0 2 0 1 t with
 |error e=>
  have:=jz t hx
  show ab (!(e==0)) (ret (aN,e)) _=_
  rw [a7,decide_eq_false (by omega),Bool.not_false,ae];rfl
 |ok y=>
  have hy:=mz (by omega) ht hx
  show ab (!((0:Int)==0)) _ (qZ k y 0 r fun r5=>ret (r5.1,if (0:Int)=0 then r5.2 else 0))=_
  rw [show ((0:Int)==0)=true from rfl,Bool.not_true,ad,acs hk hy (by omega) hr,aU]
  exact jJ _ ret
theorem MJ (hk:F3 k) {t:Tm} (ht:In k t) (ret:Tm×Int×Int→Option S):dT k t 0 ret=ret (if cx t=0 then (t,0,0) else (aN,cx t,cx t)):=by
 simp only [dT,DZ,ah hk.fu,du,gU,aD,tC ht.1 ht.2.1 ht.dep,mR,if_true]
 rw [show ((0:Int)==0)=true from rfl,ae,a7]
 by_cases h0:cx t=0
 ·rw [decide_eq_true h0,if_pos h0,Bool.not_true,ad,h0]
 ·rw [decide_eq_false h0,if_neg h0,Bool.not_false,ae];rfl
def iV (line:Tm) (phi:List Cl) (a:Tm) (en:Cl) (r:List Cl):Except Int Tm:=
 bE (ct (ba phi 0 1)) fun f1=>bE (ct (dW f1 [en])) fun f=>bE (gh r line) fun l=>bE (aG 0 1 a) fun a'=> .ok (.mk 14 0 ByteArray.empty f [l,a'] [])
def fT (x:Except Int Tm):Except Int Tm:=bE x fun t=>if cx t=0 then .ok t else .error (cx t)
def gW (line:Tm) (phi:List Cl) (a:Tm) (en:Cl) (r:List Cl):Except Int Tm:=
 if bn [line,a]=0 then if bt phi then fT (iV line phi a en r) else .error 2 else .error (bn [line,a])
theorem Hs (f g:List Cl):EN (dW f g).2:=by
 unfold dW
 split
 ·exact xg _ _
 ·exact jj
theorem XM {f g:List Cl} (hf:am f) (hg:am g) (h:(dW f g).2=0):RFa (dW f g).1:=by
 unfold dW at h ⊢
 split
 ·next hc=>
  rw [if_pos hc] at h
  rw [Bool.and_eq_true] at hc
  exact sr ((fZ hf).1 hc.1) ((fZ hg).1 hc.2) h
 ·next hc=>rw [if_neg hc] at h;exact absurd h (by decide)
theorem yZ {z:List Cl×Int} (hz:EN z.2) {e:Int} (h:ct z= .error e):0<e∧e≤1000:=by
 obtain ⟨h1,rfl⟩:=tR h
 unfold EN at hz;omega
theorem FI {line:Tm} {phi:List Cl} {a:Tm} {en:Cl} {r:List Cl} {e:Int} (h:iV line phi a en r= .error e):0<e∧e≤1000:=by
 rcases bm h with h|⟨_,_,h⟩
 ·exact yZ (oT _ _ _) h
 rcases bm h with h|⟨_,_,h⟩
 ·exact yZ (Hs _ _) h
 rcases bm h with h|⟨_,_,h⟩
 ·exact t_ h
 rcases bm h with h|⟨_,_,h⟩
 ·exact dc h
 ·cases h
theorem t6 (hk:F3 k) {line:Tm} {phi:List Cl} {a:Tm} {en:Cl} {r:List Cl} (hl:Fm line) (ha:Fm a) (hp:RF phi) (he:aL en) {t:Tm} (h:iV line phi a en r= .ok t):In k t∧t.kind=14:=by
 obtain ⟨f1,h1,h⟩:=aM h
 obtain ⟨f,h2,h⟩:=aM h
 obtain ⟨l,h3,h⟩:=aM h
 obtain ⟨a',h4,h⟩:=aM h
 injection h with h;subst h
 obtain ⟨g1,rfl⟩:=mW h1
 obtain ⟨g2,rfl⟩:=mW h2
 have hf1:=gI g1
 have hf:=(XM hf1.2 (fun c hc=>by simp at hc;subst hc;exact he) g2).1
 obtain ⟨l1,l2,l3,l4⟩:=Uw hl h3
 have ha':=Fy (by omega) ha h4
 have:=hf.len;have:=ha'.dep;have:=ha'.siz
 refine ⟨⟨?_,hk.fd ?_, ?_⟩,rfl⟩
 ·rw [OkT,ce,ce,ce,bY]
  refine ⟨⟨by unfold aE;omega,by unfold aE;omega,by show 0<_;omega,hf.2,by omega,by simp,by simp⟩,⟨l1,ha'.ok,trivial⟩,trivial⟩
 ·rw [au,bk,bk,bk,bN];omega
 ·rw [ay,aI,aI,aI,aX];omega
theorem MC (hk:F3 k) {line a:Tm} {phi r:List Cl} {en:Cl} (hl:In k line) (ha:In k a) (hp:am phi) (hpl:phi.length<1073741824) (he:aL en) (hr:RF r) (ret:Tm×Int→Option S):qW k line phi a en r ret=ret (tE (gW line phi a en r)):=by
 have hin: ∀t∈[line,a],In k t:=fun t ht=>by
  simp at ht
  rcases ht with rfl|rfl
  ·exact hl
  ·exact ha
 have hen:am [en]:=fun c hc=>by simp at hc;subst hc;exact he
 have bad: ∀c:Int,c≠0→(i8 k phi c fun r4=>j4 k r4.1 [en] r4.2 fun r5=>iZ k line r r5.2 fun r6=>b_ k a 0 1 r6.2 fun r7=>
   bz k 14 [r6.1,r7.1] fun r8=>dT k (Tm.mk r8.1 r8.2.1 r8.2.2.1 r5.1 r8.2.2.2 []) r7.2 fun r9=>ret (r9.1,r9.2.1))=ret (aN,c):=by
  intro c hc
  simp only [adk hc hk,MV hc hk,DB hc hk,tJ hc hk,bz,iG,pC hc hk]
 simp only [qW,Nz,ah hk.fu,aD,yE hk hin (by simp),tH hk.fu hp (show phi.length<2147483648 by omega),mR]
 unfold gW
 by_cases h0:bn [line,a]=0
 ·simp only [h0,if_true]
  have hfm:=fI (fun t ht=>(hin t ht).1) h0
  have hl':=hfm line (by simp)
  have ha':=hfm a (by simp)
  cases hph:bt phi with
  |false=>
   rw [Bool.not_false,ae,if_neg (show ¬ (false=true) by decide)]
   exact bad 2 (by decide)
  |true=>
   have hrf:=(fZ hp).1 hph
   rw [Bool.not_true,ad,if_pos (show true=true from rfl),adj hk hp hpl,jJ _ ret]
   unfold fT
   rw [aZ]
   have hal: ∀t,iV line phi a en r= .ok t→In k t:=fun t h=>(t6 hk hl' ha' hrf.1 he h).1
   revert hal
   unfold iV
   intro hal
   by_cases h1:(ba phi 0 1).2=0
   ·have hf1:=gI h1
    have hlen1:=hf1.len
    rw [fL h1,ao] at hal ⊢
    rw [h1,acS hk hf1.2 hen (by omega) (by simp)]
    by_cases h2:(dW (ba phi 0 1).1 [en]).2=0
    ·rw [fL h2,ao] at hal ⊢
     rw [h2,acu hk hl' hr]
     cases h3:gh r line with
     |error e=>
      have hc:=(t_ h3).1
      show b_ k a 0 1 e _=ret (aN,e)
      simp only [tJ (show e≠0 by omega) hk,bz,iG,pC (show e≠0 by omega) hk]
     |ok l=>
      rw [h3,ao] at hal
      show b_ k a 0 1 0 _=_
      rw [Nb hk ha' (by omega) (by omega),ao]
      cases h4:aG 0 1 a with
      |error e=>
       have hc:=(dc h4).1
       show bz k 14 _ _=ret (aN,e)
       simp only [bz,iG]
       show dT k _ e _=_
       simp only [pC (show e≠0 by omega) hk]
      |ok a'=>
       rw [h4,ao] at hal
       show bz k 14 _ _=_
       simp only [bz,iG]
       show dT k (Tm.mk 14 0 ByteArray.empty (dW (ba phi 0 1).1 [en]).1 [l,a'] []) 0 _=_
       rw [MJ hk (hal _ rfl),ao,aU]
       by_cases h5:cx (Tm.mk 14 0 ByteArray.empty (dW (ba phi 0 1).1 [en]).1 [l,a'] [])=0
       ·rw [if_pos h5,if_pos h5];rfl
       ·rw [if_neg h5,if_neg h5];rfl
    ·rw [eQ h2]
     show _=ret (aN,(dW (ba phi 0 1).1 [en]).2)
     simp only [DB h2 hk,tJ h2 hk,bz,iG,pC h2 hk]
   ·rw [eQ h1]
    show _=ret (aN,(ba phi 0 1).2)
    simp only [MV h1 hk,DB h1 hk,tJ h1 hk,bz,iG,pC h1 hk]
 ·simp only [if_neg h0]
  cases bt phi with
  |false=>rw [Bool.not_false,ae];exact bad _ h0
  |true=>rw [Bool.not_true,ad];exact bad _ h0
theorem ack (hk:F3 k) {t:Tm} (ht:Fm t) {r:List Cl} (hr:RF r) (ret:Tm→Option S):rH k t r ret=ret (rE (gh r t)):=by
 simp only [rH,O7,ah hk.fu,aD,acV hk ht (show (0:Int)≤1∧(1:Int)≤24 by omega) (show (0:Int)≤2∧(2:Int)<9223372036854775808 by omega)]
 rw [decide_eq_false (by have:=ht.rows.no.2.2;omega),ad,jI _ ret]
 unfold gh
 rw [aZ]
 cases hx:bA 0 2 0 1 t with
 |error e=>
  have:=jz t hx
  show ab (!(e==0)) (d9 k e _) _=ret (bH e)
  rw [a7,decide_eq_false (by omega),Bool.not_false,ae,jL this];rfl
 |ok y=>
  have hy:=mz (by omega) ht hx
  show ab (!((0:Int)==0)) _ (rB k y 0 r fun r3=>ret r3)=_
  rw [show ((0:Int)==0)=true from rfl,Bool.not_true,ad,acb hk hy (by omega) hr,aU]
  exact jI _ ret
theorem HQ (hk:Fu k) (ret:Tm→Option S) {kd:Int} {l:List Tm} (hlen:l.length<1000):
  ∀ (r p:List Tm) (m:Nat),l=p++r→r.length<m→oF k ret kd l m (p.length:Int)=ret (match r.find? fun x=>decide (x.kind<0) with|some x=>x|none=> .mk kd 0 ByteArray.empty [] l []):=by
 intro r
 induction r with
 |nil=>
  intro p m h hm
  obtain ⟨m,rfl,hm'⟩:=ak hm
  simp only [oF,vc,aA h,ad];rfl
 |cons x r ih=>
  intro p m h hm
  obtain ⟨m,rfl,hm'⟩:=ak hm
  obtain ⟨e1,e2,e3,e4⟩:=az h (by omega)
  simp only [oF,vc,e1,ae,e2,Option.bind_some,aD,e3,ih (p++[x]) m e4 hm']
  rw [List.find?_cons]
  cases decide (x.kind<0) with
  |true=>rw [ae]
  |false=>rw [ad]
theorem MA (hk:F3 k) {kd:Int} {x y:Except Int Tm} (hx: ∀e,x= .error e→0<e) (hx': ∀t,x= .ok t→0≤t.kind) (hy: ∀e,y= .error e→0<e) (hy': ∀t,y= .ok t→0≤t.kind) (ret:Tm→Option S):
  cv k kd (rE x) (rE y) ret=ret (rE (bE x fun a=>bE y fun b=> .ok (.mk kd 0 ByteArray.empty [] [a,b] []))):=by
 simp only [cv,Pb,ah hk.fu,aD,nE,yV]
 have:=HQ hk.fu ret (kd:=kd) (l:=[rE x,rE y]) (by simp) [rE x,rE y] [] k rfl (by have:4294968296≤k:=hk;simp;omega)
 refine Eq.trans this ?_
 congr 1
 rw [List.find?_cons,List.find?_cons]
 cases x with
 |error e=>rw [show rE (.error e)=bH e from rfl,jr (hx e rfl)];rfl
 |ok a=>
  rw [show rE (.ok a)=a from rfl,decide_eq_false (by have:=hx' a rfl;omega),ao]
  cases y with
  |error e=>rw [show rE (.error e)=bH e from rfl,jr (hy e rfl)];rfl
  |ok b=>rw [show rE (.ok b)=b from rfl,decide_eq_false (by have:=hy' b rfl;omega)];rfl
theorem Py {a b:Int} {t y:Tm} (h:aG a b t= .ok y):y.kind=t.kind:=by
 obtain ⟨s,h1,h⟩:=aM h
 rw [mA h,mA h1]
theorem Ms (hk:F3 k) {line a:Tm} {phi r:List Cl} {en:Cl} (hl:Fm line) (ha:Fm a) (hp:RF phi) (he:aL en) (hr:RF r) (ret:Tm→Option S):rF k line phi a en r ret=ret (rE (iV line phi a en r)):=by
 have hplen:=hp.len
 have hen:am [en]:=fun c hc=>by simp at hc;subst hc;exact he
 have htwo: ∀g:Tm→Option S,cv k 14 (rE (gh r line)) (rE (aG 0 1 a)) g=_:=fun g=>MA hk (fun e h=>(t_ h).1) (fun t h=>by rw [Uv h];exact hl.rows.no.2.2) (fun e h=>(dc h).1) (fun t h=>by rw [Py h];exact ha.rows.no.2.2) g
 simp only [rF,O0,ah hk.fu,aD,yG hk.fu hp.2 (show phi.length<1073741824 by omega) (show aE 0 by unfold aE;omega) (show aE 1 by unfold aE;omega),ack hk hl hr,mS hk ha (show (0:Int)≤0∧(0:Int)≤1000000000 by omega) (show (0:Int)≤1∧(1:Int)<9223372036854775808 by omega),htwo]
 rw [jI (iV line phi a en r) ret]
 unfold iV
 rw [aZ]
 by_cases h1:(ba phi 0 1).2=0
 ·have hf1:=gI h1
  have hlen1:=hf1.len
  rw [a7,decide_eq_true h1,ae,fL h1,aU,M1 hk.fu hf1.2 hen (by omega) (by simp),aZ]
  by_cases h2:(dW (ba phi 0 1).1 [en]).2=0
  ·rw [a7,decide_eq_true h2,Bool.not_true,ad,fL h2,aU,aZ]
   cases h3:gh r line with
   |error e=>rw [fg,show rE (.error e)=bH e from rfl,show decide ((bH e).kind≥0)=false from decide_eq_false (by have:=(t_ h3).1;show ¬ (-e≥0);omega),ad];rfl
   |ok l=>
    rw [ao,aU,aZ]
    cases h4:aG 0 1 a with
    |error e=>rw [fg,show rE (.error e)=bH e from rfl,show decide ((bH e).kind≥0)=false from decide_eq_false (by have:=(dc h4).1;show ¬ (-e≥0);omega),ad];rfl
    |ok a'=>rfl
  ·rw [a7,decide_eq_false h2,Bool.not_false,ae,eQ h2,jL (yZ (Hs _ _) (eQ h2))];rfl
 ·rw [a7,decide_eq_false h1,ad,Bool.not_false,ae,eQ h1,jL (yZ (oT _ _ _) (eQ h1))];rfl
theorem Dy (hk:F3 k) {x:Except Int Tm} (hx: ∀e,x= .error e→0<e∧e≤1000) (hx': ∀t,x= .ok t→In k t∧0≤t.kind) (ret:Tm×Int→Option S):jd k (rE x) ret=ret (tE (fT x)):=by
 simp only [jd,O4,ah hk.fu,aD]
 unfold fT
 cases x with
 |error e=>
  have he:=hx e rfl
  rw [show rE (.error e)=bH e from rfl,jr he.1,ae,bh (show-9223372036854775808≤0-(bH e).kind by show _≤0-(-e);omega) (by show 0-(-e)<_;omega)]
  show ret (aN,0-(-e))=ret (aN,e)
  rw [show (0:Int)-(-e)=e by omega]
 |ok t=>
  obtain ⟨hin,hkd⟩:=hx' t rfl
  rw [show rE (.ok t)=t from rfl,decide_eq_false (by omega),ad,DL hin.1 hin.2.1 (by have:=hin.2.2;omega),ao,a7]
  by_cases h0:cx t=0
  ·rw [decide_eq_true h0,Bool.not_true,ad,if_pos h0];rfl
  ·rw [decide_eq_false h0,Bool.not_false,ae,if_neg h0];rfl
end Go.Proofs.YtapmagaejigpnaaGreatDoor
namespace Go.Proofs.YtapmagaejigpnaaGreatDoor
open Go PI
set_option maxRecDepth 100000
theorem aeB {S:Type} (q:Nat) (ret:Bool→Option S):g7 (q+400) ret=ret true:=by kernel_rfl
end Go.Proofs.YtapmagaejigpnaaGreatDoor
namespace Go.Proofs.YtapmagaejigpnaaGreatDoor
open Go PI
set_option linter.unusedVariables false
set_option linter.unusedSimpArgs false
set_option maxRecDepth 20000
variable {S:Type} {k:Nat}
theorem Nd (hk:F3 k) (ret:Bool→Option S):g7 k ret=ret true:=by
 obtain ⟨q,rfl⟩: ∃q,k=q+400:=⟨k-400,by have:4294968296≤k:=hk;omega⟩
 exact aeB q ret
theorem L4:RF [⟨3,0⟩]:=gQ ⟨⟨by decide,by decide⟩,by decide,by decide⟩
theorem L5:RF [⟨0,1⟩,⟨2,0⟩]:=by
 refine ⟨by rfl,fun c hc=> ?_⟩
 simp only [List.mem_cons,List.not_mem_nil,or_false] at hc
 rcases hc with rfl|rfl
 ·exact ⟨⟨by decide,by decide⟩,by decide,by decide⟩
 ·exact ⟨⟨by decide,by decide⟩,by decide,by decide⟩
theorem xG:aL ⟨0,1⟩:=⟨⟨by decide,by decide⟩,by decide,by decide⟩
theorem xH:aL ⟨1,0⟩:=⟨⟨by decide,by decide⟩,by decide,by decide⟩
theorem Bj (x:Except Int Tm):((tE x).1,(tE x).2)=tE x:=by cases x<;>rfl
theorem acq (hk:F3 k) {line a:Tm} {phi:List Cl} (hl:In k line) (ha:In k a) (hp:am phi) (hpl:phi.length<1073741824) (ret:Tm×Int→Option S):qV k line phi a ret=ret (tE (gW line phi a ⟨0,1⟩ [⟨3,0⟩])):=by
 simp only [qV,Ny,ah hk.fu,aD,MC hk hl ha hp hpl xG L4]
theorem acd (hk:F3 k) {line a:Tm} {phi:List Cl} (hl:In k line) (ha:In k a) (hp:am phi) (hpl:phi.length<1073741824) (ret:Tm×Int→Option S):vv k line phi a ret=ret (tE (gW line phi a ⟨1,0⟩ [⟨0,1⟩,⟨2,0⟩])):=by
 simp only [vv,Nt,ah hk.fu,aD,MC hk hl ha hp hpl xH L5]
theorem adc (hk:F3 k) {line a:Tm} {phi:List Cl} (hl:In k line) (ha:In k a) (hp:am phi) (hpl:phi.length<1073741824) (ret:Tm×Int→Option S):wA k line phi a ret=ret (tE (gW line phi a ⟨0,1⟩ [⟨3,0⟩])):=by
 have hin: ∀t∈[line,a],In k t:=fun t ht=>by
  simp at ht
  rcases ht with rfl|rfl
  ·exact hl
  ·exact ha
 obtain ⟨q,hq⟩: ∃q,k=q+1:=⟨k-1,by have:4294968296≤k:=hk;omega⟩
 have hj: ∀v,xu k ret line a phi k v=qJ k ret line a phi v:=fun v=>by
  have: ∀j,j=q+1→xu k ret line a phi j v=qJ k ret line a phi v:=by rintro j rfl;rfl
  exact this k hq
 simp only [wA,E9,ah hk.fu,aD,Dz hk hin (by simp),jN hk.fu hp (show phi.length<2147483648 by omega),hj,qJ,a7]
 unfold gW
 by_cases h0:bn [line,a]=0
 ·have hfm:=fI (fun t ht=>(hin t ht).1) h0
  have hl':=hfm line (by simp)
  have ha':=hfm a (by simp)
  simp only [h0,if_true,decide_true,Bool.not_true,ae,ad]
  cases hph:bt phi with
  |false=>rw [Bool.not_false,ae];rfl
  |true=>
   have hrf:=(fZ hp).1 hph
   rw [Bool.not_true,ad]
   simp only [AU,O_,ah hk.fu,aD,Ms hk hl' ha' hrf.1 xG L4]
   rw [Dy hk (fun e h=>FI h) (fun t h=>by have:=t6 hk hl' ha' hrf.1 xG h;exact ⟨this.1,by rw [this.2];decide⟩),Bj];rfl
 ·simp only [if_neg h0]
  rw [decide_eq_false h0,ad,Bool.not_false,ae];rfl
theorem ac5 (hk:F3 k) {line a:Tm} {phi:List Cl} (hl:In k line) (ha:In k a) (hp:am phi) (hpl:phi.length<1073741824) (ret:Tm×Int→Option S):wv k line phi a ret=ret (tE (gW line phi a ⟨1,0⟩ [⟨0,1⟩,⟨2,0⟩])):=by
 have hin: ∀t∈[line,a],In k t:=fun t ht=>by
  simp at ht
  rcases ht with rfl|rfl
  ·exact hl
  ·exact ha
 obtain ⟨q,hq⟩: ∃q,k=q+1:=⟨k-1,by have:4294968296≤k:=hk;omega⟩
 have hj: ∀v,xt k ret line a phi k v=qI k ret line a phi v:=fun v=>by
  have: ∀j,j=q+1→xt k ret line a phi j v=qI k ret line a phi v:=by rintro j rfl;rfl
  exact this k hq
 simp only [wv,E8,ah hk.fu,aD,Dz hk hin (by simp),jN hk.fu hp (show phi.length<2147483648 by omega),hj,qI,a7]
 unfold gW
 by_cases h0:bn [line,a]=0
 ·have hfm:=fI (fun t ht=>(hin t ht).1) h0
  have hl':=hfm line (by simp)
  have ha':=hfm a (by simp)
  simp only [h0,if_true,decide_true,Bool.not_true,ae,ad]
  cases hph:bt phi with
  |false=>rw [Bool.not_false,ae];rfl
  |true=>
   have hrf:=(fZ hp).1 hph
   rw [Bool.not_true,ad]
   simp only [AT,O1,ah hk.fu,aD,Ms hk hl' ha' hrf.1 xH L5]
   rw [Dy hk (fun e h=>FI h) (fun t h=>by have:=t6 hk hl' ha' hrf.1 xH h;exact ⟨this.1,by rw [this.2];decide⟩),Bj];rfl
 ·simp only [if_neg h0]
  rw [decide_eq_false h0,ad,Bool.not_false,ae];rfl
theorem aax:OkT aN:=by
 unfold aN
 rw [OkT,ce,bY]
 exact ⟨⟨by unfold aE;omega,by unfold aE;omega,by show 0<_;omega,fun c hc=>(by cases hc),by simp,by simp,by simp⟩,trivial,trivial⟩
theorem iw (hk:F3 k):In k aN:=⟨aax,hk.fd (by unfold aN;rw [au,bk,bN];omega),by unfold aN;rw [ay,aI,aX];omega⟩
theorem FJ (hk:F3 k) {line a:Tm} {phi r:List Cl} {en:Cl} (hl:In k line) (ha:In k a) (hp:am phi) (he:aL en):In k (tE (gW line phi a en r)).1:=by
 unfold gW
 split
 ·next h0=>
  split
  ·next hph=>
   have hfm:=fI (l:=[line,a]) (fun t ht=>by
    simp at ht
    rcases ht with rfl|rfl
    ·exact hl.1
    ·exact ha.1) h0
   have hrf:=(fZ hp).1 hph
   unfold fT
   cases hx:iV line phi a en r with
   |error e=>exact iw hk
   |ok t=>
    have:=(t6 hk (hfm line (by simp)) (hfm a (by simp)) hrf.1 he hx).1
    rw [ao]
    split
    ·exact this
    ·exact iw hk
  ·exact iw hk
 ·exact iw hk
theorem DG (hk:F3 k) {t:Tm} (ht:In k t) (e:Int) (ret:Bool→Option S):ja k t e t e ret=ret true:=by
 simp only [ja,Ok,aD,M8 t ht.1 _ ht.2.1,ae,beq_self_eq_true]
theorem acI (hk:F3 k) {a b:Tm} {sys:List (Br Tm)} (ha:In k a) (hb:In k b) (hs:In k (.mk 0 0 ByteArray.empty [] [] sys)) (ret:Bool→Option S): ∃c,j7 k a b sys ret=ret c:=by
 simp only [j7,Ev,aD]
 obtain ⟨w,hw⟩:=DJ a ha.1 150 (fun r1=>ab (decide (r1>150)) (ret true) (cF k b 150 fun r2=>ab (decide (r2>150)) (ret true) (cF k (.mk 0 0 ByteArray.empty [] [] sys) 150 fun r3=>ret (decide (r3>150))))) ha.2.1
 rw [hw]
 cases decide (w>150) with
 |true=>exact ⟨true,rfl⟩
 |false=>
  rw [ad]
  obtain ⟨w',hw'⟩:=DJ b hb.1 150 (fun r2=>ab (decide (r2>150)) (ret true) (cF k (.mk 0 0 ByteArray.empty [] [] sys) 150 fun r3=>ret (decide (r3>150)))) hb.2.1
  rw [hw']
  cases decide (w'>150) with
  |true=>exact ⟨true,rfl⟩
  |false=>
   rw [ad]
   obtain ⟨w'',hw''⟩:=DJ _ hs.1 150 (fun r3=>ret (decide (r3>150))) hs.2.1
   exact ⟨_,hw''⟩
theorem afr (hk:F3 k) {line t:Tm} {phi:List Cl} (hl:In k line) (ht:In k t) (hp:am phi) (hpl:phi.length<1073741824) (ret:Bool→Option S):AN k line phi t ret=ret true:=by
 simp only [AN,Oi,ah hk.fu,aD,Nd hk,acq hk hl ht hp hpl,acd hk hl ht hp hpl,adc hk hl ht hp hpl,ac5 hk hl ht hp hpl,DG hk (FJ hk hl ht hp xG),DG hk (FJ hk hl ht hp xH),ae]
 obtain ⟨c,hc⟩:=acI hk hl ht (iw hk) (fun r1=>ab r1 (ret true) (ab (decide ((phi.length:Int)>24)) (ret true) (ret true)))
 refine Eq.trans hc ?_
 cases c with
 |true=>rfl
 |false=>rw [ad];cases decide ((phi.length:Int)>24)<;>rfl
end Go.Proofs.YtapmagaejigpnaaGreatDoor
namespace Go.Proofs.YtapmagaejigpnaaGreatDoor
open Go PI
set_option linter.unusedVariables false
set_option linter.unusedSimpArgs false
set_option maxRecDepth 20000
variable {S:Type} {k:Nat}
theorem adu (t:Tm):ay t=1+aI t.kids+aX t.sys:=by cases t;rw [ay];rfl
def jT (most w:Int) (n:Nat):Prop:=1≤w∧w≤2*most+1∧(w≤most→(n:Int)≤w)
def Mo (most:Int):Prop:=0≤most∧most≤1000
section
variable {hd:Tm→Int→(Int→Option S)→Option S} {t:Tm}
theorem YI (hk:Fu k) (ret:Int→Option S) (rec1:Int→Int→Option S) {v most:Int} (hm0:Mo most) {x:Br Tm} (hv:al t.sys v=some x) (hQ: ∀y∈x.kids,∀n,Mo n→ ∀g,∃w,hd y n g=g w∧jT n w (ay y)) (hl:x.kids.length<1073741824):
  ∀ (r p:List Tm) (m:Nat) (a:Int),x.kids=p++r→r.length<m→1≤a→a≤2*most+1→ ∃w,eX hd k ret rec1 t most v m a (p.length:Int)=rec1 w (IntKind.wrap .i64 (v+1))∧a≤w∧w≤2*most+1∧(w≤most→a+(aI r:Int)≤w):=by
 obtain ⟨hm1,hm2⟩:=hm0
 intro r
 induction r with
 |nil=>
  intro p m a h hm ha ha'
  obtain ⟨m,rfl,hm'⟩:=ak hm
  exact ⟨a,by simp only [eX,m7,hv,Option.bind_some,aA h,ad],Int.le_refl _,ha',fun _=>by rw [aI];simp⟩
 |cons y r ih=>
  intro p m a h hm ha ha'
  obtain ⟨m,rfl,hm'⟩:=ak hm
  obtain ⟨e1,e2,e3,e4⟩:=az h (by omega)
  simp only [eX,m7,hv,e1,ae,e2,Option.bind_some,aD,e3]
  by_cases hc:a≤most
  ·rw [decide_eq_true hc,ae,bh (show-9223372036854775808≤most-a by omega) (by omega)]
   obtain ⟨w,hw,w1,w2,w3⟩:=hQ y (by rw [h];simp) (most-a) ⟨by omega,by omega⟩ (fun r8=>eX hd k ret rec1 t most v m (IntKind.wrap .i64 (a+r8)) (((p++[y]).length:Nat):Int))
   rw [hw,bh (show-9223372036854775808≤a+w by omega) (by omega)]
   obtain ⟨u,hu,u1,u2,u3⟩:=ih (p++[y]) m (a+w) e4 hm' (by omega) (by omega)
   exact ⟨u,hu,by omega,u2,fun hle=>by rw [aI];have:=u3 hle;have:=w3 (by omega);push_cast;omega⟩
  ·rw [decide_eq_false hc,ad]
   exact ⟨a,rfl,Int.le_refl _,ha',fun h=>absurd h hc⟩
theorem YH (hk:Fu k) (ret:Int→Option S) {most:Int} (hm0:Mo most) (hQ: ∀b∈t.sys,∀y∈b.kids,∀n,Mo n→ ∀g,∃w,hd y n g=g w∧jT n w (ay y)) (ht:OkT t):
  ∀ (r p:List (Br Tm)) (m:Nat) (a:Int),t.sys=p++r→r.length<m→1≤a→a≤2*most+1→ ∃w,eK hd k ret t most m a (p.length:Int)=ret w∧a≤w∧w≤2*most+1∧(w≤most→a+(aX r:Int)≤w):=by
 obtain ⟨o1,o2,o3,o4,o5,o6,o7⟩:=ht.no
 have hm1:=hm0.1
 have hm2:=hm0.2
 intro r
 induction r with
 |nil=>
  intro p m a h hm ha ha'
  obtain ⟨m,rfl,hm'⟩:=ak hm
  exact ⟨a,by simp only [eK,lG,aA h,ad],Int.le_refl _,ha',fun _=>by rw [aX];simp⟩
 |cons x r ih=>
  intro p m a h hm ha ha'
  obtain ⟨m,rfl,hm'⟩:=ak hm
  obtain ⟨e1,e2,e3,e4⟩:=az h (by omega)
  have hx:x∈t.sys:=by rw [h];simp
  have hb:=(ht.bi hx).1
  simp only [eK,lG,e1,ae,e2,Option.bind_some,e3]
  by_cases hc:a≤most
  ·rw [decide_eq_true hc,ae]
   by_cases hf:((x.face.length:Nat):Int)>most
   ·rw [decide_eq_true hf,ae,bh (show-9223372036854775808≤most+1 by omega) (by omega)]
    exact ⟨_,rfl,by omega,by omega,fun h=>by omega⟩
   ·rw [decide_eq_false hf,ad,bh (show-9223372036854775808≤a+1 by omega) (by omega),bh (show-9223372036854775808≤a+1+((x.face.length:Nat):Int) by omega) (by omega)]
    obtain ⟨w,hw,w1,w2,w3⟩:=YI (t:=t) (most:=most) hk ret (eK hd k ret t most m) hm0 e2 (hQ x hx) hb.2.2 x.kids [] k (a+1+((x.face.length:Nat):Int)) rfl (by have:4294967296≤k:=hk;omega) (by omega) (by omega)
    have hw:eX hd k ret (eK hd k ret t most m) t most (p.length:Int) k (a+1+((x.face.length:Nat):Int)) 0=_:=hw
    rw [hw,e3]
    obtain ⟨u,hu,u1,u2,u3⟩:=ih (p++[x]) m w e4 hm' (by omega) w2
    exact ⟨u,hu,by omega,u2,fun hle=>by rw [aX,mV];have:=u3 hle;have:=w3 (by omega);push_cast;omega⟩
  ·rw [decide_eq_false hc,ad]
   exact ⟨a,rfl,Int.le_refl _,ha',fun h=>absurd h hc⟩
theorem YG (hk:Fu k) (ret:Int→Option S) {most:Int} (hm0:Mo most) (hQ: ∀y∈t.kids,∀n,Mo n→ ∀g,∃w,hd y n g=g w∧jT n w (ay y)) (hQ': ∀b∈t.sys,∀y∈b.kids,∀n,Mo n→ ∀g,∃w,hd y n g=g w∧jT n w (ay y)) (ht:OkT t):
  ∀ (r p:List Tm) (m:Nat) (a:Int),t.kids=p++r→r.length<m→1≤a→a≤2*most+1→ ∃w,gy hd k ret t most m a (p.length:Int)=ret w∧a≤w∧w≤2*most+1∧(w≤most→a+(aI r:Int)+(aX t.sys:Int)≤w):=by
 obtain ⟨o1,o2,o3,o4,o5,o6,o7⟩:=ht.no
 have hm1:=hm0.1
 have hm2:=hm0.2
 intro r
 have hs:=fun a=>YH (most:=most) hk ret hm0 hQ' ht t.sys [] k a rfl (by have:4294967296≤k:=hk;omega)
 induction r with
 |nil=>
  intro p m a h hm ha ha'
  obtain ⟨m,rfl,hm'⟩:=ak hm
  simp only [gy,lE,aA h,ad]
  obtain ⟨w,hw,w1,w2,w3⟩:=hs a ha ha'
  exact ⟨w,hw,w1,w2,fun hle=>by rw [aI];have:=w3 hle;simp;omega⟩
 |cons y r ih=>
  intro p m a h hm ha ha'
  obtain ⟨m,rfl,hm'⟩:=ak hm
  obtain ⟨e1,e2,e3,e4⟩:=az h (by omega)
  simp only [gy,lE,e1,ae,e2,Option.bind_some,aD,e3]
  by_cases hc:a≤most
  ·rw [decide_eq_true hc,ae,bh (show-9223372036854775808≤most-a by omega) (by omega)]
   obtain ⟨w,hw,w1,w2,w3⟩:=hQ y (by rw [h];simp) (most-a) ⟨by omega,by omega⟩ (fun r2=>gy hd k ret t most m (IntKind.wrap .i64 (a+r2)) (((p++[y]).length:Nat):Int))
   rw [hw,bh (show-9223372036854775808≤a+w by omega) (by omega)]
   obtain ⟨u,hu,u1,u2,u3⟩:=ih (p++[y]) m (a+w) e4 hm' (by omega) (by omega)
   exact ⟨u,hu,by omega,u2,fun hle=>by rw [aI];have:=u3 hle;have:=w3 (by omega);push_cast;omega⟩
  ·rw [decide_eq_false hc,ad]
   obtain ⟨w,hw,w1,w2,w3⟩:=hs a ha ha'
   exact ⟨w,hw,w1,w2,fun hle=>by omega⟩
end
theorem DK (t:Tm):OkT t→ ∀ {k:Nat} (most:Int),Mo most→ ∀ (ret:Int→Option S),Fd k (au t)→ ∃w,cF k t most ret=ret w∧jT most w (ay t):=by
 induction t using d4 with
 |h t ih1 ih2=>
  intro ht k most hm0 ret hk
  have hm1:=hm0.1
  have hm2:=hm0.2
  obtain ⟨q,rfl,hq,hf⟩:=hk.pos' (c8 t)
  obtain ⟨o1,o2,o3,o4,o5,o6,o7⟩:=ht.no
  have hQ: ∀y∈t.kids,∀n,Mo n→ ∀ (g:Int→Option S),∃w,cF q y n g=g w∧jT n w (ay y):=fun y hy n hn g=>ih1 y hy (ht.ki hy) n hn g (hf _ (c7 hy))
  have hQ': ∀b∈t.sys,∀y∈b.kids,∀n,Mo n→ ∀ (g:Int→Option S),∃w,cF q y n g=g w∧jT n w (ay y):=fun b hb y hy n hn g=>ih2 b hb y hy ((ht.bi hb).2 y hy) n hn g (hf _ (cZ hb hy))
  simp only [cF,yU]
  have out: ∃w,ret (IntKind.wrap .i64 (most+1))=ret w∧jT most w (ay t):=⟨most+1,by rw [bh (show-9223372036854775808≤most+1 by omega) (by omega)],by omega,by omega,fun h=>by omega⟩
  by_cases hr:((t.r.length:Nat):Int)>most
  ·rw [decide_eq_true hr,ae];exact out
  ·rw [decide_eq_false hr,ad]
   by_cases hn:((t.name.size:Nat):Int)>most
   ·rw [decide_eq_true hn,ae];exact out
   ·rw [decide_eq_false hn,ad,bh (show-9223372036854775808≤1+((t.r.length:Nat):Int) by omega) (by omega),bh (show-9223372036854775808≤1+((t.r.length:Nat):Int)+((t.name.size:Nat):Int) by omega) (by omega)]
    obtain ⟨w,hw,w1,w2,w3⟩:=YG hq ret hm0 hQ hQ' ht t.kids [] q (1+((t.r.length:Nat):Int)+((t.name.size:Nat):Int)) rfl (by have:4294967296≤q:=hq;omega) (by omega) (by omega)
    exact ⟨w,hw,by omega,w2,fun hle=>by rw [adu];have:=w3 hle;push_cast;omega⟩
theorem MQ (hk:Fu k) {a b:Tm} {sys:List (Br Tm)} (ha:OkT a) (ha':Fd k (au a)) (hb:OkT b) (hb':Fd k (au b)) (hs:OkT (.mk 0 0 ByteArray.empty [] [] sys)) (hs':Fd k (au (.mk 0 0 ByteArray.empty [] [] sys))) (ret:Bool→Option S):
  ∃c,j7 k a b sys ret=ret c∧(c=false→ay a≤150∧ay b≤150∧ay (.mk 0 0 ByteArray.empty [] [] sys)≤150):=by
 simp only [j7,Ev,aD]
 have hm:Mo 150:=⟨by omega,by omega⟩
 obtain ⟨w,hw,w1,w2,w3⟩:=DK a ha 150 hm (fun r1=>ab (decide (r1>150)) (ret true) (cF k b 150 fun r2=>ab (decide (r2>150)) (ret true) (cF k (.mk 0 0 ByteArray.empty [] [] sys) 150 fun r3=>ret (decide (r3>150))))) ha'
 rw [hw]
 by_cases hc:w>150
 ·rw [decide_eq_true hc];exact ⟨true,rfl,fun h=>by cases h⟩
 ·rw [decide_eq_false hc,ad]
  obtain ⟨u,hu,u1,u2,u3⟩:=DK b hb 150 hm (fun r2=>ab (decide (r2>150)) (ret true) (cF k (.mk 0 0 ByteArray.empty [] [] sys) 150 fun r3=>ret (decide (r3>150)))) hb'
  rw [hu]
  by_cases hd:u>150
  ·rw [decide_eq_true hd];exact ⟨true,rfl,fun h=>by cases h⟩
  ·rw [decide_eq_false hd,ad]
   obtain ⟨z,hz,z1,z2,z3⟩:=DK _ hs 150 hm (fun r3=>ret (decide (r3>150))) hs'
   rw [hz]
   refine ⟨_,rfl,fun h=> ?_⟩
   have h: ¬z>150:=of_decide_eq_false h
   have:=w3 (by omega);have:=u3 (by omega);have:=z3 (by omega)
   omega
end Go.Proofs.YtapmagaejigpnaaGreatDoor
