/- Part 8 of a proof: the sources, with their names and remarks, lie in wip/. -/
import Derived.Test.YtapmagaejigpnaaGreatDoorX7
import Derived.KernelRfl
namespace Go.Proofs.YtapmagaejigpnaaGreatDoor
open Go PI
set_option linter.unusedVariables false
set_option linter.unusedSimpArgs false
set_option maxRecDepth 20000
variable {S:Type} {k:Nat}
theorem DE: ∀ {l:List Tm},(∀x∈l,av x≤aF x)→bk l≤aR l:=by
 intro l
 induction l with
 |nil=>intro _;rw [bk,aR];omega
 |cons t l ih=>
  intro h
  rw [bk,aR]
  have:=h t (by simp)
  have:=ih fun x hx=>h x (by simp [hx])
  omega
theorem RA: ∀ {l:List (Br Tm)},(∀b∈l,∀x∈b.kids,av x≤aF x)→bK l≤a8 l:=by
 intro l
 induction l with
 |nil=>intro _;rw [bK,a8];omega
 |cons b l ih=>
  intro h
  rw [bK,a8,mq,nY]
  have:=DE (h b (by simp))
  have:=ih fun x hx=>h x (by simp [hx])
  omega
theorem uJ (t:Tm):av t≤aF t:=by
 induction t using eB with
 |h t ih1 ih2=>
  rw [p_,BC]
  have:=DE ih1
  have:=RA ih2
  omega
section
variable {hd:Tm→(Int→Option S)→Option S} {t:Tm}
theorem Wo (hk:Fu k) (ret:Int→Option S) (rec1:Int→Int→Option S) {v:Int} {x:Br Tm} (hv:al t.sys v=some x) (hQ: ∀y∈x.kids,∀g,hd y g=g ((aF y:Nat):Int)) (hl:x.kids.length<1073741824):
  ∀ (r p:List Tm) (m a:Nat),x.kids=p++r→r.length<m→a+aR r<4611686018427387904→jL hd k ret rec1 t v m (a:Int) (p.length:Int)=rec1 ((a+aR r:Nat):Int) (IntKind.wrap .i64 (v+1)):=by
 intro r
 induction r with
 |nil=>
  intro p m a h hm ha
  obtain ⟨m,rfl,hm'⟩:=ak hm
  have hz:a+aR []=a:=by rw [aR];rfl
  rw [hz]
  simp only [jL,tn,hv,Option.bind_some,az h,ac]
 |cons y r ih=>
  intro p m a h hm ha
  obtain ⟨m,rfl,hm'⟩:=ak hm
  obtain ⟨e1,e2,e3,e4⟩:=ay h (by omega)
  have hy:=hQ y (by rw [h];simp)
  have hz:a+aR (y::r)=(a+aF y)+aR r:=by rw [aR];omega
  rw [hz] at ha ⊢
  have hw:IntKind.wrap .i64 ((a:Int)+((aF y:Nat):Int))=((a+aF y:Nat):Int):=by rw [bm (by omega) (by omega)];simp
  simp only [jL,tn,hv,e1,ad,e2,Option.bind_some,aI,hy,e3,hw,ih (p++[y]) m (a+aF y) e4 hm' ha]
theorem Wn (hk:Fu k) (ret:Int→Option S) (hQ: ∀b∈t.sys,∀y∈b.kids,∀g,hd y g=g ((aF y:Nat):Int)) (hl:t.sys.length<1073741824) (hl': ∀b∈t.sys,b.kids.length<1073741824):
  ∀ (r p:List (Br Tm)) (m a:Nat),t.sys=p++r→r.length<m→a+a8 r<4611686018427387904→fR hd k ret t m (a:Int) (p.length:Int)=ret ((a+a8 r:Nat):Int):=by
 intro r
 induction r with
 |nil=>
  intro p m a h hm ha
  obtain ⟨m,rfl,hm'⟩:=ak hm
  have hz:a+a8 []=a:=by rw [a8];rfl
  rw [hz]
  simp only [fR,oV,az h,ac]
 |cons x r ih=>
  intro p m a h hm ha
  obtain ⟨m,rfl,hm'⟩:=ak hm
  obtain ⟨e1,e2,e3,e4⟩:=ay h (by omega)
  have hx:x∈t.sys:=by rw [h];simp
  have hlx:=hl' x hx
  have hz:a+a8 (x::r)=(a+aR x.kids)+a8 r:=by rw [a8,nY];omega
  rw [hz] at ha ⊢
  have:=Wo (t:=t) hk ret (fR hd k ret t m) e2 (hQ x hx) hlx x.kids [] k a rfl (by have:4294967296≤k:=hk;omega) (by omega)
  have this:jL hd k ret (fR hd k ret t m) t (p.length:Int) k (a:Int) 0=_:=this
  simp only [fR,oV,e1,ad,this,e3,ih (p++[x]) m _ e4 hm' ha]
theorem Wm (hk:Fu k) (ret:Int→Option S) (hQ: ∀y∈t.kids,∀g,hd y g=g ((aF y:Nat):Int)) (hQ': ∀b∈t.sys,∀y∈b.kids,∀g,hd y g=g ((aF y:Nat):Int)) (ht:OkT t):
  ∀ (r p:List Tm) (m a:Nat),t.kids=p++r→r.length<m→a+aR r+a8 t.sys<4611686018427387904→nf hd k ret t m (a:Int) (p.length:Int)=ret ((a+aR r+a8 t.sys:Nat):Int):=by
 obtain ⟨o1,o2,o3,o4,o5,o6,o7⟩:=ht.no
 intro r
 induction r with
 |nil=>
  intro p m a h hm ha
  obtain ⟨m,rfl,hm'⟩:=ak hm
  have hz:a+aR []=a:=by rw [aR];rfl
  rw [hz] at ha ⊢
  have:=Wn hk ret hQ' o7 (fun b hb=>(ht.bi hb).1.2.2) t.sys [] k a rfl (by have:4294967296≤k:=hk;omega) ha
  have this:fR hd k ret t k (a:Int) 0=_:=this
  simp only [nf,oU,az h,ac,this]
 |cons y r ih=>
  intro p m a h hm ha
  obtain ⟨m,rfl,hm'⟩:=ak hm
  obtain ⟨e1,e2,e3,e4⟩:=ay h (by omega)
  have hy:=hQ y (by rw [h];simp)
  have hz:a+aR (y::r)=(a+aF y)+aR r:=by rw [aR];omega
  rw [hz] at ha ⊢
  have hw:IntKind.wrap .i64 ((a:Int)+((aF y:Nat):Int))=((a+aF y:Nat):Int):=by rw [bm (by omega) (by omega)];simp
  simp only [nf,oU,e1,ad,e2,Option.bind_some,aI,hy,e3,hw,ih (p++[y]) m (a+aF y) e4 hm' ha]
end
theorem ZK (t:Tm):OkT t→ ∀ {k:Nat} (ret:Int→Option S),Fd k (av t)→aF t<4611686018427387904→gA k t ret=ret ((aF t:Nat):Int):=by
 induction t using eB with
 |h t ih1 ih2=>
  intro ht k ret hk hs
  obtain ⟨q,rfl,hq,hf⟩:=hk.pos' (cZ t)
  have hz:=BC t
  have:=Wm hq ret (fun y hy g=>ih1 y hy (ht.ki hy) g (hf _ (cY hy)) (by have:=wy hy;omega)) (fun b hb y hy g=>ih2 b hb y hy ((ht.bi hb).2 y hy) g (hf _ (cX hb hy)) (by have:=wy hy;have:=Kq hb;omega)) ht t.kids [] q 1 rfl (by have:=ht.no.2.2.2.2.2.1;have:4294967296≤q:=hq;omega) (by omega)
  simp only [gA,CE]
  rw [hz]
  exact this
section
variable {hd:Tm→(Int→Option S)→Option S} {t:Tm}
theorem GR (a b:Nat) {α:Type} (f:Int→α):ab (decide (((b:Nat):Int)>(a:Int))) (f (b:Int)) (f (a:Int))=f ((max a b:Nat):Int):=by
 rw [aG]
 by_cases h:((b:Nat):Int)>(a:Int)
 ·rw [if_pos h,Nat.max_eq_right (by omega)]
 ·rw [if_neg h,Nat.max_eq_left (by omega)]
theorem V5 (hk:Fu k) (ret:Int→Option S) (rec1:Int→Int→Option S) {v:Int} {x:Br Tm} (hv:al t.sys v=some x) (hQ: ∀y∈x.kids,∀g,hd y g=g ((av y:Nat):Int)) (hl:x.kids.length<1073741824):
  ∀ (r p:List Tm) (m a:Nat),x.kids=p++r→r.length<m→it hd k ret rec1 t v m (a:Int) (p.length:Int)=rec1 ((max a (bk r):Nat):Int) (IntKind.wrap .i64 (v+1)):=by
 intro r
 induction r with
 |nil=>
  intro p m a h hm
  obtain ⟨m,rfl,hm'⟩:=ak hm
  have hz:max a (bk [])=a:=by rw [bk];omega
  rw [hz]
  simp only [it,tk,hv,Option.bind_some,az h,ac]
 |cons y r ih=>
  intro p m a h hm
  obtain ⟨m,rfl,hm'⟩:=ak hm
  obtain ⟨e1,e2,e3,e4⟩:=ay h (by omega)
  have hy:=hQ y (by rw [h];simp)
  have hz:max a (bk (y::r))=max (max a (av y)) (bk r):=by rw [bk];omega
  rw [hz]
  simp only [it,tk,hv,e1,ad,e2,Option.bind_some,aI,hy,e3]
  rw [GR a (av y) (fun z=>it hd k ret rec1 t v m z (((p++[y]).length:Nat):Int)),ih (p++[y]) m (max a (av y)) e4 hm']
theorem V4 (hk:Fu k) (ret:Int→Option S) (hQ: ∀b∈t.sys,∀y∈b.kids,∀g,hd y g=g ((av y:Nat):Int)) (hl:t.sys.length<1073741824) (hl': ∀b∈t.sys,b.kids.length<1073741824):
  ∀ (r p:List (Br Tm)) (m a:Nat),t.sys=p++r→r.length<m→max a (bK r)<4611686018427387904→fQ hd k ret t m (a:Int) (p.length:Int)=ret ((max a (bK r)+1:Nat):Int):=by
 intro r
 induction r with
 |nil=>
  intro p m a h hm ha
  obtain ⟨m,rfl,hm'⟩:=ak hm
  have hz:max a (bK [])=a:=by rw [bK];omega
  rw [hz] at ha ⊢
  have hw:IntKind.wrap .i64 ((a:Int)+1)=((a+1:Nat):Int):=by rw [bm (by omega) (by omega)];simp
  simp only [fQ,oT,az h,ac,hw]
 |cons x r ih=>
  intro p m a h hm ha
  obtain ⟨m,rfl,hm'⟩:=ak hm
  obtain ⟨e1,e2,e3,e4⟩:=ay h (by omega)
  have hx:x∈t.sys:=by rw [h];simp
  have hlx:=hl' x hx
  have hz:max a (bK (x::r))=max (max a (bk x.kids)) (bK r):=by rw [bK,mq];omega
  rw [hz] at ha ⊢
  have:=V5 (t:=t) hk ret (fQ hd k ret t m) e2 (hQ x hx) hlx x.kids [] k a rfl (by have:4294967296≤k:=hk;omega)
  have this:it hd k ret (fQ hd k ret t m) t (p.length:Int) k (a:Int) 0=_:=this
  simp only [fQ,oT,e1,ad,this,e3,ih (p++[x]) m _ e4 hm' ha]
theorem V3 (hk:Fu k) (ret:Int→Option S) (hQ: ∀y∈t.kids,∀g,hd y g=g ((av y:Nat):Int)) (hQ': ∀b∈t.sys,∀y∈b.kids,∀g,hd y g=g ((av y:Nat):Int)) (ht:OkT t):
  ∀ (r p:List Tm) (m a:Nat),t.kids=p++r→r.length<m→max (max a (bk r)) (bK t.sys)<4611686018427387904→kZ hd k ret t m (a:Int) (p.length:Int)=ret ((max (max a (bk r)) (bK t.sys)+1:Nat):Int):=by
 obtain ⟨o1,o2,o3,o4,o5,o6,o7⟩:=ht.no
 intro r
 induction r with
 |nil=>
  intro p m a h hm ha
  obtain ⟨m,rfl,hm'⟩:=ak hm
  have hz:max a (bk [])=a:=by rw [bk];omega
  rw [hz] at ha ⊢
  have:=V4 hk ret hQ' o7 (fun b hb=>(ht.bi hb).1.2.2) t.sys [] k a rfl (by have:4294967296≤k:=hk;omega) ha
  have this:fQ hd k ret t k (a:Int) 0=_:=this
  simp only [kZ,oS,az h,ac,this]
 |cons y r ih=>
  intro p m a h hm ha
  obtain ⟨m,rfl,hm'⟩:=ak hm
  obtain ⟨e1,e2,e3,e4⟩:=ay h (by omega)
  have hy:=hQ y (by rw [h];simp)
  have hz:max a (bk (y::r))=max (max a (av y)) (bk r):=by rw [bk];omega
  rw [hz] at ha ⊢
  simp only [kZ,oS,e1,ad,e2,Option.bind_some,aI,hy,e3]
  rw [GR a (av y) (fun z=>kZ hd k ret t m z (((p++[y]).length:Nat):Int)),ih (p++[y]) m (max a (av y)) e4 hm' ha]
end
theorem ZE (t:Tm):OkT t→ ∀ {k:Nat} (ret:Int→Option S),Fd k (av t)→av t<4611686018427387904→gz k t ret=ret ((av t:Nat):Int):=by
 induction t using eB with
 |h t ih1 ih2=>
  intro ht k ret hk hs
  obtain ⟨q,rfl,hq,hf⟩:=hk.pos' (cZ t)
  have hz:=p_ t
  have:=V3 hq ret (fun y hy g=>ih1 y hy (ht.ki hy) g (hf _ (cY hy)) (by have:=cY hy;omega)) (fun b hb y hy g=>ih2 b hb y hy ((ht.bi hb).2 y hy) g (hf _ (cX hb hy)) (by have:=cX hb hy;omega)) ht t.kids [] q 0 rfl (by have:=ht.no.2.2.2.2.2.1;have:4294967296≤q:=hq;omega) (by omega)
  simp only [gz,CC]
  refine Eq.trans this ?_
  rw [hz,Nat.zero_max]
section
variable {hd:Tm→Int→Int→Bool→(Bool→Option S)→Option S} {vars dims:Int} {bd:Bool} {t:Tm}
theorem V2 (hk:Fu k) (ret:Bool→Option S) (rec5:Int→Option S) (hv:VD vars dims 1) {v:Int} {x:Br Tm} (hQ: ∀y∈x.kids,∀g,hd y vars (dims+ar t.kind) bd g=g (bH bd vars (dims+ar t.kind) y)) (hl:x.kids.length<1073741824):
  ∀ (r p:List Tm) (m:Nat),x.kids=p++r→r.length<m→jK hd k ret rec5 x t vars v dims bd m (p.length:Int)=if da bd vars dims t.kind r then rec5 (IntKind.wrap .i64 (v+1)) else ret false:=by
 have hmo:=d4 t.kind
 unfold VD at hv
 intro r
 induction r with
 |nil=>
  intro p m h hm
  obtain ⟨m,rfl,hm'⟩:=ak hm
  simp only [jK,th,az h,ac];rfl
 |cons y r ih=>
  intro p m h hm
  obtain ⟨m,rfl,hm'⟩:=ak hm
  obtain ⟨e1,e2,e3,e4⟩:=ay h (by omega)
  have hy:=hQ y (by rw [h];simp)
  simp only [jK,th,e1,ad,e2,Option.bind_some,ah hk,aI,Bx,bm (n:=dims+ar t.kind) (by omega) (by omega),hy,e3,ih (p++[y]) m e4 hm',Bz]
  rw [da]
theorem V1 (hk:Fu k) (ret:Bool→Option S) (hv:VD vars dims 1) (hQ: ∀b∈t.sys,∀y∈b.kids,∀g,hd y vars (dims+ar t.kind) bd g=g (bH bd vars (dims+ar t.kind) y)) (ht:OkT t):
  ∀ (r p:List (Br Tm)) (m:Nat),t.sys=p++r→r.length<m→fP hd k ret t vars dims bd m (p.length:Int)=ret (r.all fun b=>de t.kind dims b&&da bd vars dims t.kind b.kids):=by
 obtain ⟨o1,o2,o3,o4,o5,o6,o7⟩:=ht.no
 have hv':=hv
 unfold VD at hv'
 intro r
 induction r with
 |nil=>
  intro p m h hm
  obtain ⟨m,rfl,hm'⟩:=ak hm
  simp only [fP,oP,az h,ac];rfl
 |cons x r ih=>
  intro p m h hml
  obtain ⟨m,rfl,hm'⟩:=ak hml
  obtain ⟨e1,e2,e3,e4⟩:=ay h (by omega)
  have hx:x∈t.sys:=by rw [h];simp
  have hb:=(ht.bi hx).1
  have:=V2 (t:=t) (bd:=bd) hk ret (fP hd k ret t vars dims bd m) hv (v:=(p.length:Int)) (hQ x hx) hb.2.2 x.kids [] k rfl (by have:4294967296≤k:=hk;omega)
  have this:jK hd k ret (fP hd k ret t vars dims bd m) x t vars (p.length:Int) dims bd k 0=_:=this
  have hq:((x.kids.length:Int)==bU t.kind)=decide ((x.kids.length:Int)=bU t.kind):=by rw [Bool.eq_iff_iff];simp
  simp only [fP,oP,e1,ad,e2,Option.bind_some,ah hk,Kg,iQ hk hb.1 (show x.face.length<2147483648 by omega),JX hk hb.1 hb.2.1,this,e3,ih (p++[x]) m e4 hm',zq,gR,hq]
  congr 1
  have:de t.kind dims x=(decide ((x.kids.length:Int)=bU t.kind)&&(be x.face&&cj x.face dims)):=rfl
  rw [List.all_cons,this]
  simp only [Bool.and_assoc]
theorem V0 (hk:Fu k) (ret:Bool→Option S) (hv:VD vars dims 1) (hQ: ∀y∈t.kids,∀v d,0≤v∧v≤1→0≤d∧d≤1→ ∀g,hd y (dn vars v) (dims+d) bd g=g (bH bd (dn vars v) (dims+d) y)) (hQ': ∀b∈t.sys,∀y∈b.kids,∀g,hd y vars (dims+ar t.kind) bd g=g (bH bd vars (dims+ar t.kind) y)) (ht:OkT t):
  ∀ (r p:List Tm) (m:Nat),t.kids=p++r→r.length<m→gH hd k ret t vars dims bd m (p.length:Int)=ret (c_ bd vars dims t.kind p.length r&&t.sys.all fun b=>de t.kind dims b&&da bd vars dims t.kind b.kids):=by
 obtain ⟨o1,o2,o3,o4,o5,o6,o7⟩:=ht.no
 have hv':=hv
 unfold VD at hv'
 intro r
 induction r with
 |nil=>
  intro p m h hm
  obtain ⟨m,rfl,hm'⟩:=ak hm
  have hs:fP hd k ret t vars dims bd k 0=_:=V1 hk ret hv hQ' ht t.sys [] k rfl (by have:4294967296≤k:=hk;omega)
  simp only [gH,oO,az h,ac,hs]
  rw [c_,Bool.true_and]
 |cons y r ih=>
  intro p m h hm
  obtain ⟨m,rfl,hm'⟩:=ak hm
  obtain ⟨e1,e2,e3,e4⟩:=ay h (by omega)
  have b1:=tF t.kind p.length
  have b2:=i_ t.kind p.length
  have hy:=hQ y (by rw [h];simp) (dw t.kind p.length) (bM t.kind p.length) b1 b2
  simp only [gH,oO,e1,ad,e2,Option.bind_some,ah hk,Bu hk,aI,bm (n:=dims+bM t.kind p.length) (by omega) (by omega),bm (n:=vars+0) (by omega) (by omega),bm (n:=vars+dw t.kind p.length) (by omega) (by omega),e3,ih (p++[y]) m e4 hm']
  have hvb:ab (decide (vars<0)) (hd y (vars+0) (dims+bM t.kind p.length) bd fun r8=>ab (!r8) (ret false) (ret (c_ bd vars dims t.kind (p++[y]).length r&&t.sys.all fun b=>de t.kind dims b&&da bd vars dims t.kind b.kids)))
    (hd y (vars+dw t.kind p.length) (dims+bM t.kind p.length) bd fun r10=>ab (!r10) (ret false) (ret (c_ bd vars dims t.kind (p++[y]).length r&&t.sys.all fun b=>de t.kind dims b&&da bd vars dims t.kind b.kids)))
    =hd y (dn vars (dw t.kind p.length)) (dims+bM t.kind p.length) bd fun r8=>ab (!r8) (ret false) (ret (c_ bd vars dims t.kind (p++[y]).length r&&t.sys.all fun b=>de t.kind dims b&&da bd vars dims t.kind b.kids)):=by
   rw [aG]
   unfold dn
   split
   ·rw [Int.add_zero]
   ·rfl
  rw [hvb,hy,gR,c_,show (p++[y]).length=p.length+1 by simp,Bool.and_assoc]
end
def nK (vars:Int) (t:Tm):Bool:=if t.kind=1 then decide (0≤t.n)&&decide (vars<0∨t.n<vars) else decide (t.n=0)
def nD (t:Tm):Bool:=if t.kind=2 then iD t.name.data.toList else decide (t.name.size=0)
def rK (t:Tm):Bool:=if t.kind=13∨t.kind=21∨t.kind=26 then a6 t.r else if t.kind=14 then be t.r else decide (t.r.length=0)
theorem zN (d:Int) (l:List Cl) (h:l.length=0):cj l d=true:=by
 have:=List.length_eq_zero_iff.1 h
 subst this
 unfold cj
 rw [decide_eq_true_eq]
 intro i hi
 have:=(mem_bitsN.1 hi).2
 rw [yR] at this
 simp [eC] at this
theorem Q0 {α:Type} (l:List α) (f g:α→Bool):(l.all fun x=>f x&&g x)=(l.all f&&l.all g):=by
 induction l with
 |nil=>rfl
 |cons x l ih=>rw [List.all_cons,List.all_cons,List.all_cons,ih];cases f x<;>cases g x<;>simp
theorem QY {bd:Bool} {vars dims kd:Int}: ∀ {l:List (Br Tm)},(l.all fun b=>da bd vars dims kd b.kids)=cV bd vars dims kd l:=by
 intro l
 induction l with
 |nil=>rw [cV];rfl
 |cons b l ih=>cases b;rw [cV,←ih,ou];rfl
theorem Ym (vars dims:Int) (t:Tm) (AK AS:Bool):
  (decide (dQ t.kind=t.kids.length)&&(decide (0<t.sys.length→bU t.kind≠0)&&(nK vars t&&(nD t&&(rK t&&(cj t.r dims&&(AK&&(t.sys.all (de t.kind dims)&&AS))))))))=(iG vars dims t&&(AK&&AS)):=by
 rw [G_]
 have hp:decide (0<t.sys.length→bU t.kind≠0)=decide (bU t.kind=0→t.sys.length=0):=p8 ⟨fun h h0=>by
  by_cases h1:0<t.sys.length
  ·exact absurd h0 (h h1)
  ·omega,fun h h0 h1=>by have:=h h1;omega⟩
 rw [hp]
 cases decide (dQ t.kind=t.kids.length) with
 |false=>rfl
 |true=>
  simp only [Bool.true_and]
  by_cases hs:bU t.kind=0→t.sys.length=0
  ·rw [decide_eq_true hs]
   have nosys:bU t.kind=0→t.sys.all (de t.kind dims)=true:=fun h=>by
    have:=List.length_eq_zero_iff.1 (hs h);rw [this];rfl
   unfold nK nD rK jR
   by_cases c1:t.kind=1
   ·simp only [c1,if_true,show ((1:Int)=2)=False from by simp,show ((1:Int)=13)=False from by simp,show ((1:Int)=14)=False from by simp,show ((1:Int)=21)=False from by simp,show ((1:Int)=26)=False from by simp,or_self,if_false,true_or,decide_true,Bool.true_and,false_or]
    rw [c1] at nosys
    rw [nosys (by decide)]
    by_cases h0:t.r.length=0
    ·rw [zN dims t.r h0,decide_eq_true h0]
     simp only [Bool.true_and,Bool.and_true]
     cases decide (t.name.size=0)<;>simp
    ·rw [decide_eq_false h0];simp
   ·by_cases c2:t.kind=2
    ·simp only [c2,if_true,show ((2:Int)=1)=False from by simp,show ((2:Int)=13)=False from by simp,show ((2:Int)=14)=False from by simp,show ((2:Int)=21)=False from by simp,show ((2:Int)=26)=False from by simp,or_self,if_false,true_or,decide_true,Bool.true_and,false_or]
     rw [c2] at nosys
     rw [nosys (by decide)]
     by_cases h0:t.r.length=0
     ·rw [zN dims t.r h0,decide_eq_true h0]
      simp only [Bool.true_and,Bool.and_true,Bool.and_assoc]
     ·rw [decide_eq_false h0];simp
    ·simp only [c1,c2,if_false,false_or,Bool.true_and]
     by_cases c3:t.kind=13∨t.kind=21∨t.kind=26
     ·rw [if_pos c3,if_pos c3,nosys (by rcases c3 with h|h|h<;>rw [h]<;>decide)]
      simp only [Bool.true_and,Bool.and_true,Bool.and_assoc]
     ·rw [if_neg c3,if_neg c3]
      by_cases c4:t.kind=14
      ·rw [if_pos c4,if_pos c4,nosys (by rw [c4];decide)]
       simp only [Bool.true_and,Bool.and_true,Bool.and_assoc]
      ·rw [if_neg c4,if_neg c4]
       by_cases h0:t.r.length=0
       ·rw [zN dims t.r h0,decide_eq_true h0]
        simp only [Bool.true_and,Bool.and_true,Bool.and_assoc]
        cases AK<;>cases t.sys.all (de t.kind dims)<;>simp
       ·rw [decide_eq_false h0];simp
  ·rw [decide_eq_false hs];simp
theorem ZC (t:Tm):OkT t→ ∀ {k:Nat} {vars dims:Int} {bd:Bool} (ret:Bool→Option S),Fd k (av t)→VD vars dims (av t)→bR k t vars dims bd ret=ret (bH bd vars dims t):=by
 induction t using eB with
 |h t ih1 ih2=>
  intro ht k vars dims bd ret hk hv
  obtain ⟨q,rfl,hq,hf⟩:=hk.pos' (cZ t)
  have hp:=cZ t
  have hv':=hv
  unfold VD at hv'
  have hv1:VD vars dims 1:=by unfold VD;omega
  have hm:=d4 t.kind
  obtain ⟨o1,o2,o3,o4,o5,o6,o7⟩:=ht.no
  have hQ: ∀y∈t.kids,∀v d,0≤v∧v≤1→0≤d∧d≤1→ ∀g:Bool→Option S,bR q y (dn vars v) (dims+d) bd g=g (bH bd (dn vars v) (dims+d) y):=fun y hy v d h1 h2 g=>ih1 y hy (ht.ki hy) g (hf _ (cY hy)) (by
   have:=cY hy;have:=Mx (vars:=vars) h1;unfold VD;omega)
  have hQ': ∀b∈t.sys,∀y∈b.kids,∀g:Bool→Option S,bR q y vars (dims+ar t.kind) bd g=g (bH bd vars (dims+ar t.kind) y):=fun b hb y hy g=>ih2 b hb y hy ((ht.bi hb).2 y hy) g (hf _ (cX hb hy)) (by
   have:=cX hb hy;unfold VD;omega)
  have h4:gH (bR q) q ret t vars dims bd q 0=_:=V0 (bd:=bd) hq ret hv1 hQ hQ' ht t.kids [] q rfl (by have:4294967296≤q:=hq;omega)
  rw [Q0,QY] at h4
  have h4:gH (bR q) q ret t vars dims bd q 0=ret (c_ bd vars dims t.kind 0 t.kids&&(t.sys.all (de t.kind dims)&&cV bd vars dims t.kind t.sys)):=h4
  generalize hAK:c_ bd vars dims t.kind 0 t.kids=AK at h4
  generalize hAS:cV bd vars dims t.kind t.sys=AS at h4
  generalize hw:(AK&&(t.sys.all (de t.kind dims)&&AS))=W at h4
  obtain ⟨q',hq'⟩: ∃q',q=q'+1:=⟨q-1,by have:4294967296≤q:=hq;omega⟩
  have j3:nd (bR q) q ret t vars dims bd q=ret (cj t.r dims&&W):=by
   have: ∀j,j=q'+1→nd (bR q) q ret t vars dims bd j=oN (bR q) q ret t vars dims bd (fun i9=>gH (bR q) q ret t vars dims bd q i9):=by rintro j rfl;rfl
   rw [this q hq']
   simp only [oN,ah hq,JX hq o4 o5,h4,gR]
  have j2:nc (bR q) q ret t vars dims bd q=ret (rK t&&(cj t.r dims&&W)):=by
   have: ∀j,j=q'+1→nc (bR q) q ret t vars dims bd j=oM (bR q) q ret t vars dims bd (nd (bR q) q ret t vars dims bd q):=by rintro j rfl;rfl
   rw [this q hq',j3]
   simp only [oM,ah hq,fq hq o4 (show t.r.length<2147483648 by omega),iQ hq o4 (show t.r.length<2147483648 by omega),gR]
   have hr0:ab (decide (((t.r.length:Nat):Int)>0)) (ret false) (ret (cj t.r dims&&W))=ret (decide (t.r.length=0)&&(cj t.r dims&&W)):=by
    rw [aG]
    by_cases h0:t.r.length=0
    ·rw [if_neg (by omega),decide_eq_true h0,Bool.true_and]
    ·rw [if_pos (by omega),decide_eq_false h0,Bool.false_and]
   rw [hr0]
   simp only [b8,beq_iff_eq]
   unfold rK
   by_cases c3:t.kind=13
   ·rw [if_pos c3,if_pos (.inl c3)]
   ·rw [if_neg c3]
    by_cases c4:t.kind=21
    ·rw [if_pos c4,if_pos (.inr (.inl c4))]
    ·rw [if_neg c4]
     by_cases c5:t.kind=26
     ·rw [if_pos c5,if_pos (.inr (.inr c5))]
     ·rw [if_neg c5,if_neg (show ¬ (t.kind=13∨t.kind=21∨t.kind=26) by omega)]
      by_cases c6:t.kind=14
      ·rw [if_pos c6,if_pos c6]
      ·rw [if_neg c6,if_neg c6]
  have j1:na (bR q) q ret t vars dims bd q=ret (nD t&&(rK t&&(cj t.r dims&&W))):=by
   have: ∀j,j=q'+1→na (bR q) q ret t vars dims bd j=oL (bR q) q ret t vars dims bd (nc (bR q) q ret t vars dims bd q):=by rintro j rfl;rfl
   rw [this q hq',j2]
   simp only [oL,ah hq,ZN hq (show t.name.size<2147483648 by omega),Af,gR]
   unfold nD
   by_cases c:t.kind=2
   ·rw [if_pos c,c,show ((2:Int)==2)=true from rfl,ad,Bool.not_true,ac,gR]
   ·have:(t.kind==2)=false:=by rw [beq_eq_false_iff_ne];exact c
    rw [if_neg c,this,ac,Bool.not_false,ad]
  have j0:vf (bR q) q ret t vars dims bd q=ret (nK vars t&&(nD t&&(rK t&&(cj t.r dims&&W)))):=by
   have: ∀j,j=q'+1→vf (bR q) q ret t vars dims bd j=oK (bR q) q ret t vars dims bd (na (bR q) q ret t vars dims bd q):=by rintro j rfl;rfl
   rw [this q hq',j1]
   simp only [oK,aY,gR]
   unfold nK
   by_cases c:t.kind=1
   ·rw [if_pos c,c]
    rw [show ((1:Int)==1)=true from rfl,ad,aG,aG,aG]
    by_cases h1:t.n<0
    ·rw [if_pos h1,decide_eq_false (by omega)];rfl
    ·rw [if_neg h1,decide_eq_true (by omega),Bool.true_and]
     by_cases h2:vars≥0
     ·rw [if_pos h2]
      by_cases h3:t.n≥vars
      ·rw [if_pos h3,decide_eq_false (by omega)];rfl
      ·rw [if_neg h3,decide_eq_true (.inr (by omega))];rfl
     ·rw [if_neg h2,decide_eq_true (.inl (by omega))];rfl
   ·have:(t.kind==1)=false:=by rw [beq_eq_false_iff_ne];exact c
    rw [if_neg c,this,ac]
  simp only [bR,Cz,aI,ah hq,ZF,Kg,j0]
  have hkk:(dQ t.kind==(t.kids.length:Int))=decide (dQ t.kind=t.kids.length):=by rw [Bool.eq_iff_iff];simp
  generalize hZ:(nK vars t&&(nD t&&(rK t&&(cj t.r dims&&W))))=Z
  have hsy:ab (decide (((t.sys.length:Nat):Int)>0)) (ab (bU t.kind==0) (ret false) (ret Z)) (ret Z)=ret (decide (0<t.sys.length→bU t.kind≠0)&&Z):=by
   rw [aG,b8]
   by_cases h1:0<t.sys.length
   ·rw [if_pos (by omega)]
    by_cases h2:bU t.kind=0
    ·rw [if_pos (by rw [h2];rfl),decide_eq_false (fun h=>h h1 h2)];rfl
    ·rw [if_neg (by rw [beq_iff_eq];exact h2),decide_eq_true (fun _=>h2)];rfl
   ·rw [if_neg (by omega),decide_eq_true (fun h=>absurd h h1)];rfl
  rw [hsy,gR,hkk]
  have hfin:=Ym vars dims t AK AS
  rw [hw,hZ] at hfin
  rw [hfin,Db,hAK,hAS]
  cases bd with
  |true=>
   rw [ad,aG,Bool.true_and]
   by_cases h24:dims>24
   ·rw [if_pos h24,decide_eq_true h24];rfl
   ·rw [if_neg h24,decide_eq_false h24];rfl
  |false=>rw [ac];rfl
theorem ZL {t:Tm} (ht:OkT t) (hk:Fd k (av t)) (hs:aF t<1099511627776) (ret:Int→Option S):uz k t ret=ret (if av t>200 then 62 else if aF t>20000 then 221 else 0):=by
 have:=uJ t
 simp only [uz,LR,aI,ZE t ht _ hk (show av t<4611686018427387904 by omega),ZK t ht _ hk (show aF t<4611686018427387904 by omega),aG]
 by_cases h1:av t>200
 ·rw [if_pos h1,if_pos (by omega)]
 ·rw [if_neg h1,if_neg (by omega)]
  by_cases h2:aF t>20000
  ·rw [if_pos h2,if_pos (by omega)]
  ·rw [if_neg h2,if_neg (by omega)]
theorem Bw {t:Tm} (ht:OkT t) (hk:Fd k (av t)) (hs:aF t<1099511627776) (ret:Int→Option S):mi k t ret=ret (cH t):=by
 have:=uJ t
 simp only [mi,LM,aI,ah hk.fu,ZL ht hk hs,ZC t ht _ hk (show VD (-1) 24 (av t) by unfold VD;omega),aY]
 unfold cH
 by_cases h1:av t>200
 ·rw [if_pos h1,if_pos h1];rfl
 ·rw [if_neg h1,if_neg h1]
  by_cases h2:aF t>20000
  ·rw [if_pos h2,if_pos h2];rfl
  ·rw [if_neg h2,if_neg h2,decide_eq_true rfl,ad]
   cases bH false (-1) 24 t<;>rfl
theorem Wp (hk:Fu k) (ret:Bool→Option S) {l:List Cl} (hlen:l.length<2147483648):
  ∀ (r p:List Cl) (m:Nat),l=p++r→r.length<m→iq k ret l l m (p.length:Int)=ret true:=by
 intro r
 induction r with
 |nil=>
  intro p m h hm
  obtain ⟨m,rfl,hm'⟩:=ak hm
  simp only [iq,lP,az h,ac]
 |cons x r ih=>
  intro p m h hm
  obtain ⟨m,rfl,hm'⟩:=ak hm
  obtain ⟨e1,e2,e3,e4⟩:=ay h (by omega)
  simp only [iq,lP,e1,ad,e2,Option.bind_some,e3,ih (p++[x]) m e4 hm',g6,decide_true,Bool.not_true,ac]
theorem Kj (hk:Fu k) {l:List Cl} (hlen:l.length<2147483648) (ret:Bool→Option S):gy k l l ret=ret true:=by
 simp only [gy,wH,beq_self_eq_true,Bool.not_true,ac]
 exact Wp hk ret hlen l [] k rfl (by have:4294967296≤k:=hk;omega)
section
variable {hd:Tm→Tm→(Bool→Option S)→Option S}
theorem VH (hk:Fu k) (ret:Bool→Option S) {l:List Tm} (hlen:l.length<2147483648) (hQ: ∀y∈l,∀g,hd y y g=g true):
  ∀ (r p:List Tm) (m:Nat),l=p++r→r.length<m→ng hd k ret l l m (p.length:Int)=ret true:=by
 intro r
 induction r with
 |nil=>
  intro p m h hm
  obtain ⟨m,rfl,hm'⟩:=ak hm
  simp only [ng,tp,az h,ac]
 |cons x r ih=>
  intro p m h hm
  obtain ⟨m,rfl,hm'⟩:=ak hm
  obtain ⟨e1,e2,e3,e4⟩:=ay h (by omega)
  simp only [ng,tp,e1,ad,e2,Option.bind_some,aI,hQ x (by rw [h];simp),e3,ih (p++[x]) m e4 hm',Bool.not_true,ac]
theorem JW (hk:Fu k) (ret:Bool→Option S) {l:List Tm} (hlen:l.length<2147483648) (hQ: ∀y∈l,∀g,hd y y g=g true):pO hd k l l ret=ret true:=by
 simp only [pO,CF,beq_self_eq_true,Bool.not_true,ac]
 exact VH hk ret hlen hQ l [] k rfl (by have:4294967296≤k:=hk;omega)
theorem VZ (hk:Fu k) (ret:Bool→Option S) {t:Tm} (ht:OkT t) (hQ: ∀b∈t.sys,∀y∈b.kids,∀g,hd y y g=g true):
  ∀ (r p:List (Br Tm)) (m:Nat),t.sys=p++r→r.length<m→k_ hd k ret t t m (p.length:Int)=ret true:=by
 obtain ⟨o1,o2,o3,o4,o5,o6,o7⟩:=ht.no
 intro r
 induction r with
 |nil=>
  intro p m h hm
  obtain ⟨m,rfl,hm'⟩:=ak hm
  simp only [k_,tl,az h,ac]
 |cons x r ih=>
  intro p m h hm
  obtain ⟨m,rfl,hm'⟩:=ak hm
  obtain ⟨e1,e2,e3,e4⟩:=ay h (by omega)
  have hx:x∈t.sys:=by rw [h];simp
  have hb:=(ht.bi hx).1
  simp only [k_,tl,e1,ad,e2,Option.bind_some,ah hk,Kj hk (show x.face.length<2147483648 by omega),JW hk _ (show x.kids.length<2147483648 by omega) (hQ x hx),e3,ih (p++[x]) m e4 hm',Bool.not_true,ac]
end
theorem ZJ (t:Tm):OkT t→ ∀ {k:Nat} (ret:Bool→Option S),Fd k (av t)→eb k t t ret=ret true:=by
 induction t using eB with
 |h t ih1 ih2=>
  intro ht k ret hk
  obtain ⟨q,rfl,hq,hf⟩:=hk.pos' (cZ t)
  obtain ⟨o1,o2,o3,o4,o5,o6,o7⟩:=ht.no
  have hQ: ∀y∈t.kids,∀g:Bool→Option S,eb q y y g=g true:=fun y hy g=>ih1 y hy (ht.ki hy) g (hf _ (cY hy))
  have hQ': ∀b∈t.sys,∀y∈b.kids,∀g:Bool→Option S,eb q y y g=g true:=fun b hb y hy g=>ih2 b hb y hy ((ht.bi hb).2 y hy) g (hf _ (cX hb hy))
  have:=VZ hq ret ht hQ' t.sys [] q rfl (by have:4294967296≤q:=hq;omega)
  have this:k_ (eb q) q ret t t q 0=_:=this
  have hn:(t.name==t.name)=true:=by rw [Di];exact decide_eq_true rfl
  simp only [eb,CD,beq_self_eq_true,hn,Bool.not_true,ac,ah hq,Kj hq (show t.r.length<2147483648 by omega),JW hq _ (show t.kids.length<2147483648 by omega) hQ,this]
section
variable {hd:Tm→Int→(Int→Option S)→Option S} {t:Tm}
theorem Vd (hk:Fu k) (ret:Int→Option S) (rec1:Int→Int→Option S) {v most:Int} {x:Br Tm} (hv:al t.sys v=some x) (hQ: ∀y∈x.kids,∀n g,∃w,hd y n g=g w) (hl:x.kids.length<1073741824):
  ∀ (r p:List Tm) (m:Nat) (a:Int),x.kids=p++r→r.length<m→ ∃w,ir hd k ret rec1 t most v m a (p.length:Int)=rec1 w (IntKind.wrap .i64 (v+1)):=by
 intro r
 induction r with
 |nil=>
  intro p m a h hm
  obtain ⟨m,rfl,hm'⟩:=ak hm
  exact ⟨a,by simp only [ir,tj,hv,Option.bind_some,az h,ac]⟩
 |cons y r ih=>
  intro p m a h hm
  obtain ⟨m,rfl,hm'⟩:=ak hm
  obtain ⟨e1,e2,e3,e4⟩:=ay h (by omega)
  simp only [ir,tj,hv,e1,ad,e2,Option.bind_some,aI,e3]
  cases decide (a≤most) with
  |false=>exact ⟨a,rfl⟩
  |true=>
   rw [ad]
   obtain ⟨w,hw⟩:=hQ y (by rw [h];simp) (IntKind.wrap .i64 (most-a)) (fun r8=>ir hd k ret rec1 t most v m (IntKind.wrap .i64 (a+r8)) (((p++[y]).length:Nat):Int))
   rw [hw]
   exact ih (p++[y]) m _ e4 hm'
theorem Vc (hk:Fu k) (ret:Int→Option S) {most:Int} (hQ: ∀b∈t.sys,∀y∈b.kids,∀n g,∃w,hd y n g=g w) (ht:OkT t):
  ∀ (r p:List (Br Tm)) (m:Nat) (a:Int),t.sys=p++r→r.length<m→ ∃w,gI hd k ret t most m a (p.length:Int)=ret w:=by
 obtain ⟨o1,o2,o3,o4,o5,o6,o7⟩:=ht.no
 intro r
 induction r with
 |nil=>
  intro p m a h hm
  obtain ⟨m,rfl,hm'⟩:=ak hm
  exact ⟨a,by simp only [gI,oR,az h,ac]⟩
 |cons x r ih=>
  intro p m a h hm
  obtain ⟨m,rfl,hm'⟩:=ak hm
  obtain ⟨e1,e2,e3,e4⟩:=ay h (by omega)
  have hx:x∈t.sys:=by rw [h];simp
  have hb:=(ht.bi hx).1
  simp only [gI,oR,e1,ad,e2,Option.bind_some,e3]
  cases decide (a≤most) with
  |false=>exact ⟨a,rfl⟩
  |true=>
   rw [ad]
   cases decide (((x.face.length:Nat):Int)>most) with
   |true=>exact ⟨_,rfl⟩
   |false=>
    rw [ac]
    obtain ⟨w,hw⟩:=Vd (t:=t) (most:=most) hk ret (gI hd k ret t most m) e2 (hQ x hx) hb.2.2 x.kids [] k (IntKind.wrap .i64 (IntKind.wrap .i64 (a+1)+((x.face.length:Nat):Int))) rfl (by have:4294967296≤k:=hk;omega)
    have hw:ir hd k ret (gI hd k ret t most m) t most (p.length:Int) k (IntKind.wrap .i64 (IntKind.wrap .i64 (a+1)+((x.face.length:Nat):Int))) 0=_:=hw
    rw [hw,e3]
    exact ih (p++[x]) m w e4 hm'
theorem Vb (hk:Fu k) (ret:Int→Option S) {most:Int} (hQ: ∀y∈t.kids,∀n g,∃w,hd y n g=g w) (hQ': ∀b∈t.sys,∀y∈b.kids,∀n g,∃w,hd y n g=g w) (ht:OkT t):
  ∀ (r p:List Tm) (m:Nat) (a:Int),t.kids=p++r→r.length<m→ ∃w,kY hd k ret t most m a (p.length:Int)=ret w:=by
 obtain ⟨o1,o2,o3,o4,o5,o6,o7⟩:=ht.no
 intro r
 have hs:=fun a=>Vc (most:=most) hk ret hQ' ht t.sys [] k a rfl (by have:4294967296≤k:=hk;omega)
 induction r with
 |nil=>
  intro p m a h hm
  obtain ⟨m,rfl,hm'⟩:=ak hm
  simp only [kY,oQ,az h,ac]
  exact hs a
 |cons y r ih=>
  intro p m a h hm
  obtain ⟨m,rfl,hm'⟩:=ak hm
  obtain ⟨e1,e2,e3,e4⟩:=ay h (by omega)
  simp only [kY,oQ,e1,ad,e2,Option.bind_some,aI,e3]
  cases decide (a≤most) with
  |false=>exact hs a
  |true=>
   rw [ad]
   obtain ⟨w,hw⟩:=hQ y (by rw [h];simp) (IntKind.wrap .i64 (most-a)) (fun r2=>kY hd k ret t most m (IntKind.wrap .i64 (a+r2)) (((p++[y]).length:Nat):Int))
   rw [hw]
   exact ih (p++[y]) m _ e4 hm'
end
theorem Bv (t:Tm):OkT t→ ∀ {k:Nat} (most:Int) (ret:Int→Option S),Fd k (av t)→ ∃w,dG k t most ret=ret w:=by
 induction t using eB with
 |h t ih1 ih2=>
  intro ht k most ret hk
  obtain ⟨q,rfl,hq,hf⟩:=hk.pos' (cZ t)
  obtain ⟨o1,o2,o3,o4,o5,o6,o7⟩:=ht.no
  have hQ: ∀y∈t.kids,∀n (g:Int→Option S),∃w,dG q y n g=g w:=fun y hy n g=>ih1 y hy (ht.ki hy) n g (hf _ (cY hy))
  have hQ': ∀b∈t.sys,∀y∈b.kids,∀n (g:Int→Option S),∃w,dG q y n g=g w:=fun b hb y hy n g=>ih2 b hb y hy ((ht.bi hb).2 y hy) n g (hf _ (cX hb hy))
  simp only [dG,CB]
  cases decide (((t.r.length:Nat):Int)>most) with
  |true=>exact ⟨_,rfl⟩
  |false=>
   rw [ac]
   cases decide (((t.name.size:Nat):Int)>most) with
   |true=>exact ⟨_,rfl⟩
   |false=>
    rw [ac]
    exact Vb hq ret hQ hQ' ht t.kids [] q _ rfl (by have:4294967296≤q:=hq;omega)
end Go.Proofs.YtapmagaejigpnaaGreatDoor
namespace Go.Proofs.YtapmagaejigpnaaGreatDoor
open Go PI
set_option linter.unusedVariables false
set_option linter.unusedSimpArgs false
set_option maxRecDepth 20000
variable {S:Type} {k:Nat}
def pE {α:Type}:Except Int α→Pan Int α
 | .ok a=> .ok a
 | .error e=> .pan e
def eE {α β:Type} (x:Except Int α) (f:α→β) (g:Int→β):β:=match x with
 | .ok a=>f a
 | .error e=>g e
theorem kE {α β:Type} (x:Except Int α) (f:α→β) (g:Int→β):Pan.elim (pE x) f g=eE x f g:=by cases x<;>rfl
theorem aU {α β γ:Type} (x:Except Int α) (f:α→Except Int β) (u:β→γ) (w:Int→γ):eE (bE x f) u w=eE x (fun a=>eE (f a) u w) w:=by cases x<;>rfl
theorem aO {α β:Type} (a:α) (f:α→β) (g:Int→β):eE (.ok a) f g=f a:=rfl
theorem Yv {α:Type} (x:Except Int α) (ret:Pan Int α→Option S):ret (pE x)=eE x (fun a=>ret (.ok a)) fun e=>ret (.pan e):=by cases x<;>rfl
def aJ:Tm:= .mk 0 0 ByteArray.empty [] [] []
def bJ (e:Int):Tm:= .mk (-e) 0 ByteArray.empty [] [] []
def rE:Except Int Tm→Tm
 | .ok t=>t
 | .error e=>bJ e
def tE:Except Int Tm→Tm×Int
 | .ok t=>(t,0)
 | .error e=>(aJ,e)
theorem iL (x:Except Int Tm) (ret:Tm→Option S):ret (rE x)=eE x ret fun e=>ret (bJ e):=by cases x<;>rfl
theorem bL {α β:Type} {x:Except Int α} {f f':α→β} {g g':Int→β} (h: ∀a,x= .ok a→f a=f' a) (h': ∀e,x= .error e→g e=g' e):eE x f g=eE x f' g':=by
 cases x with
 |ok a=>exact h a rfl
 |error e=>exact h' e rfl
theorem JY (hk:Fu k) {a b d:Int} {f:List Cl} (hf:am f) (hl:f.length<1073741824) (hd:aD d) (hb:aD b) (ret:Pan Int (List Cl)→Option S):pF k a b f d ret=ret (pE (cm d b f)):=by
 simp only [pF,Lp,ah hk,rM hk hf hl hd hb,aY,aG,aV (show 0+f.length≤1099511627776 by omega)]
 unfold cm
 by_cases h0:b=0
 ·rw [if_pos h0,if_pos (.inl h0)];rfl
 ·rw [if_neg h0]
  by_cases h1:d≥24
  ·rw [if_pos h1,if_pos (.inr h1)];rfl
  ·rw [if_neg h1,if_neg (show ¬ (b=0∨d≥24) by omega)]
   by_cases h2:(aZ f d b).2=0
   ·rw [decide_eq_true h2,eY h2];rfl
   ·rw [decide_eq_false h2,d8 h2];rfl
theorem J7 (hk:Fu k) {b d:Int} {f:List Cl} (hf:RF f) (hd:0≤d∧d<9223372036854775808) (hb:0≤b∧b<9223372036854775808) (ret:List Cl×Int→Option S): ∃z:List Cl×Int,ce z=cm d b f∧pR k f d b ret=ret z:=by
 have hl:=hf.len
 simp only [pR,LX,ah hk,ws hk hf.2 (show f.length<1073741824 by omega) (show aD d by unfold aD;omega) (show aD b by unfold aD;omega),ny,aG]
 by_cases h0:f.length=0
 ·refine ⟨([],0), ?_,by rw [if_pos h0]⟩
  have:=List.length_eq_zero_iff.1 h0
  subst this
  rw [wl];rfl
 ·refine ⟨aZ f d b, ?_,by rw [if_neg h0]⟩
  unfold cm
  split
  ·next h=>rw [WB hf hd.1 hb.1 h];rfl
  ·rfl
section
variable {hd:Int→Int→Tm→Int→Int→(Pan Int Tm→Option S)→Option S} {vb db v d:Int} {t:Tm}
theorem VG (hk:Fu k) (ret:Pan Int Tm→Option S) (rec2:List (Br Tm)→Int→Int→Option S) {r12 r2:List Cl} {b1 v90:Int} {ks:List Tm} {o:List (Br Tm)} {x:Br Tm} {more:Int} (hm:more=ar t.kind)
  (hd0:0≤d∧d<4611686018427387904) (hQ: ∀y∈x.kids,∀g,hd vb db y v (d+more) g=g (pE (bo vb db v (d+more) y))) (hl:x.kids.length<1073741824) (ho:o.length<1073741824):
  ∀ (r p:List Tm) (m:Nat) (acc:List Tm),x.kids=p++r→r.length<m→acc.length=p.length→
  jF hd k ret rec2 r12 vb db t b1 r2 ks o x more v d v90 m acc (p.length:Int)=eE (dv vb db v d t.kind r) (fun l=>rec2 (o++[⟨r12,acc++l⟩]) more (IntKind.wrap .i64 (v90+1))) fun e=>ret (.pan e):=by
 subst hm
 have hmo:=d4 t.kind
 intro r
 induction r with
 |nil=>
  intro p m acc h hm ha
  obtain ⟨m,rfl,hm'⟩:=ak hm
  simp only [jF,sO,az h,ac,dv,aO,List.append_nil]
  rw [aV (by simp;omega)]
 |cons y r ih=>
  intro p m acc h hm ha
  obtain ⟨m,rfl,hm'⟩:=ak hm
  obtain ⟨e1,e2,e3,e4⟩:=ay h (by omega)
  have hpl:p.length<x.kids.length:=by rw [h];simp
  have hy:=hQ y (by rw [h];simp)
  simp only [jF,sO,e1,ad,e2,Option.bind_some,aI,bm (n:=d+ar t.kind) (by omega) (by omega),hy,kE,dv,aU,aO]
  refine bL (fun t' ht'=> ?_) fun e _=>rfl
  rw [aV (by simp;omega),e3,ih (p++[y]) m (acc++[t']) e4 hm' (by simp;omega)]
  simp
theorem VF (hk:Fu k) (ret:Pan Int Tm→Option S) {r2:List Cl} {b1:Int} {ks:List Tm} {more:Int} (hm:more=ar t.kind) (ht:OkT t) (hdb:aD db) (hd0:0≤d∧d<4611686018427387904)
  (hQ: ∀b∈t.sys,∀y∈b.kids,∀g,hd vb db y v (d+more) g=g (pE (bo vb db v (d+more) y))):
  ∀ (r p:List (Br Tm)) (m:Nat) (o:List (Br Tm)),t.sys=p++r→r.length<m→o.length=p.length→
  eo hd k ret vb db t b1 r2 ks v d m o more (p.length:Int)=eE (dA vb db v d t.kind r) (fun l=>ret (.ok (.mk t.kind b1 t.name r2 ks (o++l)))) fun e=>ret (.pan e):=by
 obtain ⟨o1,o2,o3,o4,o5,o6,o7⟩:=ht.no
 intro r
 induction r with
 |nil=>
  intro p m o h hml ho
  obtain ⟨m,rfl,hm'⟩:=ak hml
  simp only [eo,oD,az h,ac,dA,aO,List.append_nil]
 |cons x r ih=>
  intro p m o h hml ho
  obtain ⟨m,rfl,hm'⟩:=ak hml
  obtain ⟨e1,e2,e3,e4⟩:=ay h (by omega)
  have hx:x∈t.sys:=by rw [h];simp
  have hpl:p.length<t.sys.length:=by rw [h];simp
  have hb:=(ht.bi hx).1
  have hrow:=JY (S:=S) hk (a:=vb) hb.1 hb.2.1 (show aD d by unfold aD;omega) hdb
  have:=fun r12=>VG hk ret (eo hd k ret vb db t b1 r2 ks v d m) (r12:=r12) (r2:=r2) (b1:=b1) (v90:=(p.length:Int)) (ks:=ks) (o:=o) hm hd0 (hQ x hx) hb.2.2 (by omega) x.kids [] k [] rfl (by have:4294967296≤k:=hk;omega) rfl
  have this: ∀r12,jF hd k ret (eo hd k ret vb db t b1 r2 ks v d m) r12 vb db t b1 r2 ks o x more v d (p.length:Int) k [] 0=_:=this
  have hB:lf vb db v d t.kind x=bE (cm d db x.face) fun f'=>bE (dv vb db v d t.kind x.kids) fun ks'=> .ok (.mk f' ks'):=by cases x;rw [lf]
  simp only [eo,oD,e1,ad,e2,Option.bind_some,ah hk,hrow,kE,this,dA,hB,aU,aO,List.nil_append,e3]
  refine bL (fun f' _=>bL (fun ks' _=> ?_) fun e _=>rfl) fun e _=>rfl
  rw [ih (p++[x]) m (o++[Br.mk f' ks']) e4 hm' (by simp;omega)]
  simp
theorem VE (hk:Fu k) (ret:Pan Int Tm→Option S) {r2:List Cl} {b1:Int} (ht:OkT t) (hdb:aD db) (hd0:0≤d∧d<4611686018427387904) (hv0:0≤v∧v<4611686018427387904)
  (hQ: ∀y∈t.kids,∀a b,0≤a∧a≤1→0≤b∧b≤1→ ∀g,hd vb db y (v+a) (d+b) g=g (pE (bo vb db (v+a) (d+b) y))) (hQ': ∀b∈t.sys,∀y∈b.kids,∀g,hd vb db y v (d+ar t.kind) g=g (pE (bo vb db v (d+ar t.kind) y))):
  ∀ (r p:List Tm) (m:Nat) (acc:List Tm),t.kids=p++r→r.length<m→acc.length=p.length→
  il hd k ret vb db t b1 r2 v d m acc (p.length:Int)=eE (dR vb db v d t.kind p.length r) (fun l=>eE (dA vb db v d t.kind t.sys) (fun s=>ret (.ok (.mk t.kind b1 t.name r2 (acc++l) s))) fun e=>ret (.pan e)) fun e=>ret (.pan e):=by
 obtain ⟨o1,o2,o3,o4,o5,o6,o7⟩:=ht.no
 intro r
 induction r with
 |nil=>
  intro p m acc h hm ha
  obtain ⟨m,rfl,hm'⟩:=ak hm
  have hs:eo hd k ret vb db t b1 r2 acc v d k [] (ar t.kind) 0=_:=VF hk ret rfl ht hdb hd0 hQ' t.sys [] k [] rfl (by have:4294967296≤k:=hk;omega) rfl
  simp only [il,oC,az h,ac,dR,aO,List.append_nil]
  rw [b8]
  have he:(if (t.kind==15)=true then eo hd k ret vb db t b1 r2 acc v d k [] 1 0 else eo hd k ret vb db t b1 r2 acc v d k [] 0 0)=eo hd k ret vb db t b1 r2 acc v d k [] (ar t.kind) 0:=by
   unfold ar
   by_cases h15:t.kind=15
   ·rw [if_pos h15,if_pos (by rw [h15];rfl)]
   ·rw [if_neg h15,if_neg (by rw [beq_iff_eq];exact h15)]
  rw [he,hs]
  simp only [List.nil_append]
 |cons y r ih=>
  intro p m acc h hm ha
  obtain ⟨m,rfl,hm'⟩:=ak hm
  obtain ⟨e1,e2,e3,e4⟩:=ay h (by omega)
  have hpl:p.length<t.kids.length:=by rw [h];simp
  have b1':=tF t.kind p.length
  have b2':=i_ t.kind p.length
  have hy:=hQ y (by rw [h];simp) (dw t.kind p.length) (bM t.kind p.length) b1' b2'
  simp only [il,oC,e1,ad,e2,Option.bind_some,ah hk,nV,aI,bm (n:=v+dw t.kind p.length) (by omega) (by omega),bm (n:=d+bM t.kind p.length) (by omega) (by omega),hy,kE,dR,aU,aO]
  refine bL (fun t' ht'=> ?_) fun e _=>rfl
  rw [aV (by simp;omega),e3,ih (p++[y]) m (acc++[t']) e4 hm' (by simp;omega),show (p++[y]).length=p.length+1 by simp]
  simp
end
theorem zK (vb db v d:Int) (t:Tm):bo vb db v d t=if t.kind=1∧t.n≥v∧t.n>1000000000-vb then .error 100 else bE (cm d db t.r) fun r'=>bE (dR vb db v d t.kind 0 t.kids) fun ks'=>bE (dA vb db v d t.kind t.sys) fun sys'=> .ok (.mk t.kind (if t.kind=1∧t.n≥v then t.n+vb else t.n) t.name r' ks' sys'):=by cases t;rw [bo];rfl
theorem RowsT.no {t:Tm} (h:RowsT t):RF t.r∧(t.kind=1→t.r=[])∧0≤t.kind:=by cases t;rw [RowsT] at h;exact h.1
theorem RowsT.ki {t x:Tm} (h:RowsT t) (hx:x∈t.kids):RowsT x:=by cases t;rw [RowsT] at h;exact rowsK_iff.1 h.2.1 x hx
theorem RowsT.bi {t:Tm} {b:Br Tm} (h:RowsT t) (hb:b∈t.sys):RF b.face∧ ∀x∈b.kids,RowsT x:=by cases t;rw [RowsT] at h;exact rowsS_iff.1 h.2.2 b hb
def VP (v d:Int) (n:Nat):Prop:=0≤v∧v+n<4611686018427387904∧0≤d∧d+n<4611686018427387904
theorem Bt {vb db:Int} (hvb:0≤vb∧vb≤1000000000) (hdb:aD db) (t:Tm):OkT t→RowsT t→ ∀ {k:Nat} {v d:Int} (ret:Pan Int Tm→Option S),Fd k (av t)→VP v d (av t)→dg k vb db t v d ret=ret (pE (bo vb db v d t)):=by
 induction t using eB with
 |h t ih1 ih2=>
  intro ht hro k v d ret hk hv
  obtain ⟨q,rfl,hq,hf⟩:=hk.pos' (cZ t)
  obtain ⟨q',hq'⟩: ∃q',q=q'+1:=⟨q-1,by have:4294967296≤q:=hq;omega⟩
  have hp:=cZ t
  unfold VP at hv
  obtain ⟨o1,o2,o3,o4,o5,o6,o7⟩:=ht.no
  have hmo:=d4 t.kind
  have hQ: ∀y∈t.kids,∀a b,0≤a∧a≤1→0≤b∧b≤1→ ∀g:Pan Int Tm→Option S,dg q vb db y (v+a) (d+b) g=g (pE (bo vb db (v+a) (d+b) y)):=fun y hy a b h1 h2 g=>
   ih1 y hy (ht.ki hy) (hro.ki hy) g (hf _ (cY hy)) (by have:=cY hy;unfold VP;omega)
  have hQ': ∀b∈t.sys,∀y∈b.kids,∀g:Pan Int Tm→Option S,dg q vb db y v (d+ar t.kind) g=g (pE (bo vb db v (d+ar t.kind) y)):=fun b hb y hy g=>
   ih2 b hb y hy ((ht.bi hb).2 y hy) ((hro.bi hb).2 y hy) g (hf _ (cX hb hy)) (by have:=cX hb hy;unfold VP;omega)
  have h1:=fun r2 b1=>VE (r2:=r2) (b1:=b1) hq ret ht hdb (show 0≤d∧d<4611686018427387904 by omega) (show 0≤v∧v<4611686018427387904 by omega) hQ hQ' t.kids [] q [] rfl (by have:4294967296≤q:=hq;omega) rfl
  have h0: ∀r2 b1,qA (dg q) q ret vb db t r2 v d q b1=il (dg q) q ret vb db t b1 r2 v d q [] 0:=by
   intro r2 b1
   have: ∀j,j=q'+1→qA (dg q) q ret vb db t r2 v d j b1=il (dg q) q ret vb db t b1 r2 v d q [] 0:=by rintro j rfl;rfl
   exact this q hq'
  have h2: ∀r2 b1,qA (dg q) q ret vb db t r2 v d q b1=_:=fun r2 b1=>(h0 r2 b1).trans (h1 r2 b1)
  have hrow:=JY (S:=S) hq (a:=vb) o4 o5 (show aD d by unfold aD;omega) hdb
  simp only [dg,Cb,ah hq,hrow,kE,h2,List.length_nil,List.nil_append]
  rw [Yv _ ret,zK]
  unfold aD at o2
  by_cases hc:t.kind=1
  ·have hr:=hro.no.2.1 hc
   rw [hr,wl,aO,hc,show ((1:Int)==1)=true from rfl,ad,aG]
   by_cases hn:t.n≥v
   ·rw [if_pos hn,bm (n:=1000000000-vb) (by omega) (by omega),aG]
    by_cases hb:t.n>1000000000-vb
    ·rw [if_pos hb,if_pos (show (1:Int)=1∧t.n≥v∧t.n>1000000000-vb from ⟨rfl,hn,hb⟩)];rfl
    ·rw [if_neg hb,if_neg (show ¬ ((1:Int)=1∧t.n≥v∧t.n>1000000000-vb) from fun h=>hb h.2.2),aw,aU]
     rw [if_pos (show (1:Int)=1∧t.n≥v from ⟨rfl,hn⟩),bm (n:=t.n+vb) (by omega) (by omega)]
     simp only [aU,aO]
   ·rw [if_neg hn,if_neg (show ¬ ((1:Int)=1∧t.n≥v∧t.n>1000000000-vb) from fun h=>hn h.2.1),aw,aU]
    rw [if_neg (show ¬ ((1:Int)=1∧t.n≥v) from fun h=>hn h.2)]
    simp only [aU,aO]
  ·have hc':(t.kind==1)=false:=by rw [beq_eq_false_iff_ne];exact hc
   rw [hc',if_neg (show ¬ (t.kind=1∧t.n≥v∧t.n>1000000000-vb) from fun h=>hc h.1)]
   simp only [ac,aU,aO,if_neg (show ¬ (t.kind=1∧t.n≥v) from fun h=>hc h.1)]
theorem iO {e:Int} (he:0<e∧e≤1000) (ret:Int×Int×ByteArray→Option S):dN k e ret=ret (-e,0,ByteArray.empty):=by
 simp only [dN,LS,bm (n:=0-e) (by omega) (by omega)]
 rw [Int.zero_sub]
theorem qz {e:Int} (he:0<e):decide ((bJ e).kind<0)=true:=decide_eq_true (show-e<0 by omega)
section
variable {hd:Tm→Int→Int→Int→Int→(Tm→Option S)→Option S} {vb db v d:Int} {t:Tm}
theorem rn {x:Except Int Tm} (hx: ∀e,x= .error e→0<e) (hx': ∀y,x= .ok y→0≤y.kind) (f:Tm→Option S) (ret:Tm→Option S):
  (fun r:Tm=>ab (decide (r.kind<0)) (ret r) (f r)) (rE x)=eE x f fun e=>ret (bJ e):=by
 cases x with
 |error e=>show ab _ _ _=_;rw [show rE (.error e)=bJ e from rfl,qz (hx e rfl),ad];rfl
 |ok y=>show ab _ _ _=_;rw [show rE (.ok y)=y from rfl,decide_eq_false (by have:=hx' y rfl;omega),ac];rfl
theorem li {vb db v d:Int} {x y:Tm} (h:bo vb db v d x= .ok y):y.kind=x.kind:=by
 rw [zK] at h
 split at h
 ·cases h
 ·obtain ⟨_,_,h⟩:=bj h
  obtain ⟨_,_,h⟩:=bj h
  obtain ⟨_,_,h⟩:=bj h
  injection h with h;subst h;rfl
theorem Wc (hk:Fu k) (ret:Tm→Option S) (rec2:List (Br Tm)→Int→Option S) {r9 r2:List Cl×Int} {b1 i18:Int} {ks:List Tm} {o:List (Br Tm)} {x:Br Tm} (hi:al t.sys i18=some x)
  (hd0:0≤d∧d<4611686018427387904) (hQ: ∀y∈x.kids,∀g,hd y v vb (d+ar t.kind) db g=g (rE (bo vb db v (d+ar t.kind) y))) (hkd: ∀y∈x.kids,0≤y.kind) (hl:x.kids.length<1073741824) (ho:o.length<1073741824):
  ∀ (r p:List Tm) (m:Nat) (acc:List Tm),x.kids=p++r→r.length<m→acc.length=p.length→
  gJ hd k ret rec2 t b1 r2 ks o r9 v i18 vb d db m acc (p.length:Int)=eE (dv vb db v d t.kind r) (fun l=>rec2 (o++[⟨r9.1,acc++l⟩]) (IntKind.wrap .i64 (i18+1))) fun e=>ret (bJ e):=by
 have hmo:=d4 t.kind
 intro r
 induction r with
 |nil=>
  intro p m acc h hm ha
  obtain ⟨m,rfl,hm'⟩:=ak hm
  simp only [gJ,tq,hi,Option.bind_some,az h,ac,dv,aO,List.append_nil]
  rw [aV (by simp;omega)]
 |cons y r ih=>
  intro p m acc h hm ha
  obtain ⟨m,rfl,hm'⟩:=ak hm
  obtain ⟨e1,e2,e3,e4⟩:=ay h (by omega)
  have hpl:p.length<x.kids.length:=by rw [h];simp
  have hym:y∈x.kids:=by rw [h];simp
  have hy:=hQ y hym
  simp only [gJ,tq,hi,e1,ad,e2,Option.bind_some,ah hk,Bx,aI,bm (n:=d+ar t.kind) (by omega) (by omega),hy]
  refine Eq.trans (rn (fun e he=>(iz y he).1) (fun z hz=>by rw [li hz];exact hkd y hym) (fun z=>Option.bind (ax 1099511627776 acc.length [z].length) fun _=>gJ hd k ret rec2 t b1 r2 ks o r9 v i18 vb d db m (acc++[z]) (IntKind.wrap .i64 ((p.length:Int)+1))) ret) ?_
  simp only [dv,aU,aO]
  refine bL (fun t' ht'=> ?_) fun e _=>rfl
  rw [aV (by simp;omega),e3,ih (p++[y]) m (acc++[t']) e4 hm' (by simp;omega)]
  simp
theorem rX {z:List Cl×Int} {α:Type} (f:List Cl→α) (g:Int→α):ab (!(z.2==0)) (g z.2) (f z.1)=eE (ce z) f g:=by
 rw [aY]
 unfold ce
 by_cases h:z.2=0
 ·rw [decide_eq_true h,if_pos h];rfl
 ·rw [decide_eq_false h,if_neg h];rfl
theorem Wb (hk:Fu k) (ret:Tm→Option S) {r2:List Cl×Int} {b1:Int} {ks:List Tm} (ht:OkT t) (hro:RowsT t) (hdb:0≤db∧db<9223372036854775808) (hd0:0≤d∧d<4611686018427387904)
  (hQ: ∀b∈t.sys,∀y∈b.kids,∀g,hd y v vb (d+ar t.kind) db g=g (rE (bo vb db v (d+ar t.kind) y))):
  ∀ (r p:List (Br Tm)) (m:Nat) (o:List (Br Tm)),t.sys=p++r→r.length<m→o.length=p.length→
  d3 hd k ret t b1 r2 ks v vb d db m o (p.length:Int)=eE (dA vb db v d t.kind r) (fun l=>ret (.mk t.kind b1 t.name r2.1 ks (o++l))) fun e=>ret (bJ e):=by
 obtain ⟨o1,o2,o3,o4,o5,o6,o7⟩:=ht.no
 intro r
 induction r with
 |nil=>
  intro p m o h hml ho
  obtain ⟨m,rfl,hm'⟩:=ak hml
  simp only [d3,oZ,az h,ac,dA,aO,List.append_nil]
 |cons x r ih=>
  intro p m o h hml ho
  obtain ⟨m,rfl,hm'⟩:=ak hml
  obtain ⟨e1,e2,e3,e4⟩:=ay h (by omega)
  have hx:x∈t.sys:=by rw [h];simp
  have hpl:p.length<t.sys.length:=by rw [h];simp
  have hb:=(ht.bi hx).1
  obtain ⟨z,hz,hrow⟩:=J7 (S:=S) hk (hro.bi hx).1 (show 0≤d∧d<9223372036854775808 by omega) hdb (fun r9=>ab (!(r9.2==0)) (dN k r9.2 fun r10=>ret (Tm.mk r10.1 r10.2.1 r10.2.2 [] [] []))
   (gJ hd k ret (d3 hd k ret t b1 r2 ks v vb d db m) t b1 r2 ks o r9 v (p.length:Int) vb d db k [] 0))
  have:=Wc (r9:=z) (r2:=r2) (b1:=b1) (ks:=ks) (o:=o) hk ret (d3 hd k ret t b1 r2 ks v vb d db m) e2 hd0 (hQ x hx) (fun y hy=>((hro.bi hx).2 y hy).no.2.2) hb.2.2 (by omega) x.kids [] k [] rfl (by have:4294967296≤k:=hk;omega) rfl
  have this:gJ hd k ret (d3 hd k ret t b1 r2 ks v vb d db m) t b1 r2 ks o z v (p.length:Int) vb d db k [] 0=_:=this
  have hB:lf vb db v d t.kind x=bE (cm d db x.face) fun f'=>bE (dv vb db v d t.kind x.kids) fun ks'=> .ok (.mk f' ks'):=by cases x;rw [lf]
  simp only [d3,oZ,e1,ad,e2,Option.bind_some,ah hk,hrow,this,dA,hB,aU,aO,List.nil_append,e3]
  have hbad:ab (!(z.2==0)) (dN k z.2 fun r10=>ret (Tm.mk r10.1 r10.2.1 r10.2.2 [] [] [])) (eE (dv vb db v d t.kind x.kids) (fun l=>d3 hd k ret t b1 r2 ks v vb d db m (o++[Br.mk z.1 l]) (((p++[x]).length:Nat):Int)) fun e=>ret (bJ e))
    =ab (!(z.2==0)) (ret (bJ z.2)) (eE (dv vb db v d t.kind x.kids) (fun l=>d3 hd k ret t b1 r2 ks v vb d db m (o++[Br.mk z.1 l]) (((p++[x]).length:Nat):Int)) fun e=>ret (bJ e)):=by
   by_cases h0:z.2=0
   ·rw [h0];rfl
   ·have hze:ce z= .error z.2:=d8 h0
    rw [hz] at hze
    rw [iO (wk hze)];rfl
  rw [hbad,rX (z:=z) (fun f'=>eE (dv vb db v d t.kind x.kids) (fun l=>d3 hd k ret t b1 r2 ks v vb d db m (o++[Br.mk f' l]) (((p++[x]).length:Nat):Int)) fun e=>ret (bJ e)) (fun e=>ret (bJ e)),hz]
  refine bL (fun f' _=>bL (fun ks' _=> ?_) fun e _=>rfl) fun e _=>rfl
  rw [ih (p++[x]) m (o++[Br.mk f' ks']) e4 hm' (by simp;omega)]
  simp
theorem Wa (hk:Fu k) (ret:Tm→Option S) {r2:List Cl×Int} {b1:Int} (ht:OkT t) (hro:RowsT t) (hdb:0≤db∧db<9223372036854775808) (hd0:0≤d∧d<4611686018427387904) (hv0:0≤v∧v<4611686018427387904)
  (hQ: ∀y∈t.kids,∀a b,0≤a∧a≤1→0≤b∧b≤1→ ∀g,hd y (v+a) vb (d+b) db g=g (rE (bo vb db (v+a) (d+b) y))) (hQ': ∀b∈t.sys,∀y∈b.kids,∀g,hd y v vb (d+ar t.kind) db g=g (rE (bo vb db v (d+ar t.kind) y))):
  ∀ (r p:List Tm) (m:Nat) (acc:List Tm),t.kids=p++r→r.length<m→acc.length=p.length→
  fS hd k ret t b1 r2 v vb d db m acc (p.length:Int)=eE (dR vb db v d t.kind p.length r) (fun l=>eE (dA vb db v d t.kind t.sys) (fun s=>ret (.mk t.kind b1 t.name r2.1 (acc++l) s)) fun e=>ret (bJ e)) fun e=>ret (bJ e):=by
 obtain ⟨o1,o2,o3,o4,o5,o6,o7⟩:=ht.no
 intro r
 induction r with
 |nil=>
  intro p m acc h hm ha
  obtain ⟨m,rfl,hm'⟩:=ak hm
  have hs:d3 hd k ret t b1 r2 acc v vb d db k [] 0=_:=Wb hk ret ht hro hdb hd0 hQ' t.sys [] k [] rfl (by have:4294967296≤k:=hk;omega) rfl
  simp only [fS,oY,az h,ac,dR,aO,List.append_nil,hs,List.nil_append]
 |cons y r ih=>
  intro p m acc h hm ha
  obtain ⟨m,rfl,hm'⟩:=ak hm
  obtain ⟨e1,e2,e3,e4⟩:=ay h (by omega)
  have hpl:p.length<t.kids.length:=by rw [h];simp
  have b1':=tF t.kind p.length
  have b2':=i_ t.kind p.length
  have hym:y∈t.kids:=by rw [h];simp
  have hy:=hQ y hym (dw t.kind p.length) (bM t.kind p.length) b1' b2'
  simp only [fS,oY,e1,ad,e2,Option.bind_some,ah hk,Bu hk,aI,bm (n:=v+dw t.kind p.length) (by omega) (by omega),bm (n:=d+bM t.kind p.length) (by omega) (by omega),hy]
  refine Eq.trans (rn (fun e he=>(iz y he).1) (fun z hz=>by rw [li hz];exact (hro.ki hym).no.2.2) (fun z=>Option.bind (ax 1099511627776 acc.length [z].length) fun _=>fS hd k ret t b1 r2 v vb d db m (acc++[z]) (IntKind.wrap .i64 ((p.length:Int)+1))) ret) ?_
  simp only [dR,aU,aO]
  refine bL (fun t' ht'=> ?_) fun e _=>rfl
  rw [aV (by simp;omega),e3,ih (p++[y]) m (acc++[t']) e4 hm' (by simp;omega),show (p++[y]).length=p.length+1 by simp]
  simp
end
theorem By {vb db:Int} (hvb:0≤vb∧vb≤1000000000) (hdb:0≤db∧db<9223372036854775808) (t:Tm):OkT t→RowsT t→ ∀ {k:Nat} {v d:Int} (ret:Tm→Option S),Fd k (av t)→VP v d (av t)→cF k t v vb d db ret=ret (rE (bo vb db v d t)):=by
 induction t using eB with
 |h t ih1 ih2=>
  intro ht hro k v d ret hk hv
  obtain ⟨q,rfl,hq,hf⟩:=hk.pos' (cZ t)
  obtain ⟨q',hq'⟩: ∃q',q=q'+1:=⟨q-1,by have:4294967296≤q:=hq;omega⟩
  have hp:=cZ t
  unfold VP at hv
  obtain ⟨o1,o2,o3,o4,o5,o6,o7⟩:=ht.no
  have hmo:=d4 t.kind
  have hQ: ∀y∈t.kids,∀a b,0≤a∧a≤1→0≤b∧b≤1→ ∀g:Tm→Option S,cF q y (v+a) vb (d+b) db g=g (rE (bo vb db (v+a) (d+b) y)):=fun y hy a b h1 h2 g=>
   ih1 y hy (ht.ki hy) (hro.ki hy) g (hf _ (cY hy)) (by have:=cY hy;unfold VP;omega)
  have hQ': ∀b∈t.sys,∀y∈b.kids,∀g:Tm→Option S,cF q y v vb (d+ar t.kind) db g=g (rE (bo vb db v (d+ar t.kind) y)):=fun b hb y hy g=>
   ih2 b hb y hy ((ht.bi hb).2 y hy) ((hro.bi hb).2 y hy) g (hf _ (cX hb hy)) (by have:=cX hb hy;unfold VP;omega)
  have h1:=fun r2 b1=>Wa (r2:=r2) (b1:=b1) hq ret ht hro hdb (show 0≤d∧d<4611686018427387904 by omega) (show 0≤v∧v<4611686018427387904 by omega) hQ hQ' t.kids [] q [] rfl (by have:4294967296≤q:=hq;omega) rfl
  have h1: ∀r2 b1,fS (cF q) q ret t b1 r2 v vb d db q [] 0=_:=h1
  have h0: ∀b1,vi (cF q) q ret t v vb d db q b1=eE (cm d db t.r) (fun r'=>eE (dR vb db v d t.kind 0 t.kids) (fun l=>eE (dA vb db v d t.kind t.sys) (fun s=>ret (.mk t.kind b1 t.name r' l s)) fun e=>ret (bJ e)) fun e=>ret (bJ e)) fun e=>ret (bJ e):=by
   intro b1
   have: ∀j,j=q'+1→vi (cF q) q ret t v vb d db j b1=oX (cF q) q ret t v vb d db (fun b11_1 r2 b11_4 i14=>fS (cF q) q ret t b11_1 r2 v vb d db q b11_4 i14) b1:=by rintro j rfl;rfl
   rw [this q hq']
   obtain ⟨z,hz,hrow⟩:=J7 (S:=S) hq hro.no.1 (show 0≤d∧d<9223372036854775808 by omega) hdb (fun r2=>ab (!(r2.2==0)) (dN q r2.2 fun r3=>ret (Tm.mk r3.1 r3.2.1 r3.2.2 [] [] [])) (fS (cF q) q ret t b1 r2 v vb d db q [] 0))
   simp only [oX,ah hq,hrow]
   rw [h1]
   simp only [List.nil_append]
   rw [←hz]
   by_cases hz0:z.2=0
   ·rw [eY hz0,hz0];rfl
   ·have hze:ce z= .error z.2:=d8 hz0
    have hze':=hze
    rw [hz] at hze'
    rw [hze,aY,decide_eq_false hz0,Bool.not_false,ad,iO (wk hze')];rfl
  simp only [cF,CH,ah hq,h0]
  rw [iL _ ret,zK]
  unfold aD at o2
  by_cases hc:t.kind=1
  ·rw [hc,show ((1:Int)==1)=true from rfl,ad,aG]
   by_cases hn:t.n≥v
   ·rw [if_pos hn,bm (n:=1000000000-vb) (by omega) (by omega),aG]
    by_cases hb:t.n>1000000000-vb
    ·rw [if_pos hb,if_pos (show (1:Int)=1∧t.n≥v∧t.n>1000000000-vb from ⟨rfl,hn,hb⟩),iO (by omega)];rfl
    ·rw [if_neg hb,if_neg (show ¬ ((1:Int)=1∧t.n≥v∧t.n>1000000000-vb) from fun h=>hb h.2.2)]
     rw [if_pos (show (1:Int)=1∧t.n≥v from ⟨rfl,hn⟩),bm (n:=t.n+vb) (by omega) (by omega)]
     simp only [aU,aO]
   ·rw [if_neg hn,if_neg (show ¬ ((1:Int)=1∧t.n≥v∧t.n>1000000000-vb) from fun h=>hn h.2.1)]
    rw [if_neg (show ¬ ((1:Int)=1∧t.n≥v) from fun h=>hn h.2)]
    simp only [aU,aO]
  ·have hc':(t.kind==1)=false:=by rw [beq_eq_false_iff_ne];exact hc
   rw [hc',if_neg (show ¬ (t.kind=1∧t.n≥v∧t.n>1000000000-vb) from fun h=>hc h.1)]
   simp only [ac,aU,aO,if_neg (show ¬ (t.kind=1∧t.n≥v) from fun h=>hc h.1)]
end Go.Proofs.YtapmagaejigpnaaGreatDoor
namespace Go.Proofs.YtapmagaejigpnaaGreatDoor
open Go PI
set_option linter.unusedVariables false
set_option linter.unusedSimpArgs false
set_option maxRecDepth 20000
variable {S:Type} {k:Nat}
theorem u6 {t:Tm} (h:cH t=0):av t≤200∧aF t≤20000∧bH false (-1) 24 t=true:=by
 unfold cH at h
 split at h
 ·cases h
 ·split at h
  ·cases h
  ·split at h
   ·next h1 h2 h3=>exact ⟨by omega,by omega,h3⟩
   ·cases h
theorem TY {t:Tm} (h1:av t≤200) (h2:aF t≤20000) (h3:bH false (-1) 24 t=true):cH t=0:=by
 unfold cH
 rw [if_neg (by omega),if_neg (by omega),if_pos h3]
theorem Eu (t:Tm):0≤cH t∧cH t≤1000:=by
 unfold cH
 split
 ·omega
 ·split
  ·omega
  ·split<;>omega
def Fm (t:Tm):Prop:=OkT t∧cH t=0
theorem Fm.ok {t:Tm} (h:Fm t):OkT t:=h.1
theorem Fm.rows {t:Tm} (h:Fm t):RowsT t:=Q2 t h.1 (u6 h.2).2.2
theorem Fm.dep {t:Tm} (h:Fm t):av t≤200:=(u6 h.2).1
theorem Fm.siz {t:Tm} (h:Fm t):aF t≤20000:=(u6 h.2).2.1
theorem lg {vb db v d:Int} (hvb:0≤vb∧vb≤1000000000) {t t':Tm} (h:Fm t) (hl:bo vb db v d t= .ok t'):Fm t':=by
 obtain ⟨h1,h2,h3,h4⟩:=WJ hvb.1 hvb.2 t v d t' hl
 obtain ⟨a,b,c⟩:=u6 h.2
 have:=h4 h.1
 exact ⟨this.1,TY (by omega) (by omega) (this.2.2 24 24 (by omega) (by omega) c)⟩
abbrev F3 (k:Nat):Prop:=4294968296≤k
theorem F3.fu (h:F3 k):Fu k:=by have:4294968296≤k:=h;show 4294967296≤k;omega
theorem F3.fd (h:F3 k) {n:Nat} (hn:n≤1000):Fd k n:=by have:4294968296≤k:=h;show 4294967296+n≤k;omega
theorem Fm.fd {t:Tm} (h:Fm t) (hk:F3 k):Fd k (av t):=hk.fd (by have:=h.dep;omega)
theorem Fm.vp {t:Tm} (h:Fm t) {v d:Int} (hv:0≤v∧v≤4611686018427380000) (hd:0≤d∧d≤4611686018427380000):VP v d (av t):=by have:=h.dep;unfold VP;omega
theorem iM (x:Except Int Tm) (ret:Tm×Int→Option S):ret (tE x)=eE x (fun t=>ret (t,0)) fun e=>ret (aJ,e):=by cases x<;>rfl
theorem Vx (hk:Fu k) (ret:Tm×Int→Option S) {c0 c2:Int} {c1:Tm} {ns:List Int} (hl:ns.length<1000) (hn: ∀x∈ns,0≤x):
  ∀ (r p:List Int) (m:Nat),ns=p++r→r.length<m→kP k ret c0 c1 c2 ns m (p.length:Int)=ul k c0 c1 c2 fun r4=>Pan.elim r4 (fun r4=>ret (r4,0)) fun e5=>ret (aJ,e5):=by
 intro r
 induction r with
 |nil=>
  intro p m h hm
  obtain ⟨m,rfl,hm'⟩:=ak hm
  simp only [kP,sM,az h,ac,ah hk,aI];rfl
 |cons x r ih=>
  intro p m h hm
  obtain ⟨m,rfl,hm'⟩:=ak hm
  obtain ⟨e1,e2,e3,e4⟩:=ay h (by omega)
  have hx:=hn x (by rw [h];simp)
  simp only [kP,sM,e1,ad,e2,Option.bind_some,e3,ih (p++[x]) m e4 hm',aG]
  rw [if_neg (by omega)]
theorem Zj (hk:F3 k) {t:Tm} (ht:Fm t) {f b:Int} (hf:0≤f∧f≤24) (hb:0≤b∧b<9223372036854775808) (ret:Tm×Int→Option S):uk k t f b ret=ret (tE (bo 0 b 0 f t)):=by
 have hl:=Vx hk.fu ret (c0:=b) (c2:=f) (c1:=t) (ns:=[f,b]) (by simp) (by simp;omega) [f,b] [] k rfl (by have:4294968296≤k:=hk;simp;omega)
 have hl:kP k ret b t f [f,b] k 0=_:=hl
 simp only [uk,Ln,ah hk.fu,aI,yD,B_,rH ht.ok (ht.fd hk) (show av t<1099511627776 by have:=ht.dep;omega),ht.2,hl,ul,Lo]
 rw [show ((0:Int)==0)=true from rfl,Bool.not_true,ac,if_neg (by omega),Bt (by omega) (by unfold aD;omega) t ht.ok ht.rows _ (ht.fd hk) (ht.vp (by omega) (by omega)),kE,iM _ ret]
 exact bL (fun _ _=>rfl) fun _ _=>rfl
theorem Zs (hk:F3 k) {t:Tm} (ht:Fm t) {f b:Int} (hf:0≤f∧f≤24) (hb:0≤b∧b<9223372036854775808) (ret:Tm×Int→Option S):uA k t f b ret=ret (tE (bo 0 b 0 f t)):=by
 simp only [uA,LU,ah hk.fu,aI,yF,LY,Bw ht.ok (ht.fd hk) (show aF t<1099511627776 by have:=ht.siz;omega),ht.2,aG]
 rw [show ((0:Int)==0)=true from rfl,ad,if_neg (by omega),if_neg (by omega)]
 rw [Bool.not_true,ac,if_neg (by omega),By (by omega) (by omega) t ht.ok ht.rows _ (ht.fd hk) (ht.vp (by omega) (by omega))]
 simp only [uB,LW]
 cases hx:bo 0 b 0 f t with
 |ok y=>
  rw [show rE (.ok y)=y from rfl,decide_eq_false (by have:=li hx;have:=ht.rows.no.2.2;omega),ac]
  simp only [aI];rfl
 |error e=>
  have he:=iz t hx
  rw [show rE (.error e)=bJ e from rfl,qz he.1,ad,bm (show-9223372036854775808≤0-(bJ e).kind by show _≤0-(-e);omega) (by show 0-(-e)<_;omega)]
  show ret (aJ,0-(-e))=ret (aJ,e)
  rw [show (0:Int)-(-e)=e by omega]
def eZ (vb db:Int) (t:Tm):Except Int Tm:=bE (bo vb 0 0 0 t) (bo 0 db 0 0)
theorem aaN {vb db:Int} (hvb:0≤vb∧vb≤1000000000) {t t':Tm} (h:Fm t) (hl:eZ vb db t= .ok t'):Fm t':=by
 obtain ⟨a,h1,h2⟩:=bj hl
 exact lg (by omega) (lg hvb h h1) h2
theorem wK {vb db:Int} {t:Tm} {e:Int} (h:eZ vb db t= .error e):0<e∧e≤1000:=by
 rcases bv h with h|⟨a,_,h⟩
 ·exact iz t h
 ·exact iz a h
theorem Vy (hk:Fu k) (ret:Tm×Int→Option S) {c0 c1:Int} {c2:Tm} {ns:List Int} (hl:ns.length<1000) (hn: ∀x∈ns,0≤x):
  ∀ (r p:List Int) (m:Nat),ns=p++r→r.length<m→kQ k ret c0 c1 c2 ns m (p.length:Int)=uj k c0 c1 c2 fun r4=>Pan.elim r4 (fun r4=>ret (r4,0)) fun e5=>ret (aJ,e5):=by
 intro r
 induction r with
 |nil=>
  intro p m h hm
  obtain ⟨m,rfl,hm'⟩:=ak hm
  simp only [kQ,sN,az h,ac,ah hk,aI];rfl
 |cons x r ih=>
  intro p m h hm
  obtain ⟨m,rfl,hm'⟩:=ak hm
  obtain ⟨e1,e2,e3,e4⟩:=ay h (by omega)
  have hx:=hn x (by rw [h];simp)
  simp only [kQ,sN,e1,ad,e2,Option.bind_some,e3,ih (p++[x]) m e4 hm',aG]
  rw [if_neg (by omega)]
theorem Zi (hk:F3 k) {t:Tm} (ht:Fm t) {vb db:Int} (hvb:0≤vb∧vb≤1000000) (hdb:0≤db∧db<9223372036854775808) (ret:Tm×Int→Option S):ui k t vb db ret=ret (tE (eZ vb db t)):=by
 have hl:=Vy hk.fu ret (c0:=db) (c1:=vb) (c2:=t) (ns:=[vb,db,1000000-vb]) (by simp) (by simp;omega) [vb,db,1000000-vb] [] k rfl (by have:4294968296≤k:=hk;simp;omega)
 have hl:kQ k ret db vb t [vb,db,1000000-vb] k 0=_:=hl
 simp only [ui,Ll,ah hk.fu,aI,bm (n:=1000000-vb) (by omega) (by omega),yE,Ca,rH ht.ok (ht.fd hk) (show av t<1099511627776 by have:=ht.dep;omega),ht.2,hl,uj,Lm]
 rw [show ((0:Int)==0)=true from rfl,Bool.not_true,ac,Bt (show 0≤vb∧vb≤1000000000 by omega) (show aD 0 by unfold aD;omega) t ht.ok ht.rows _ (ht.fd hk) (ht.vp (by omega) (by omega)),kE,iM _ ret]
 unfold eZ
 rw [aU]
 refine bL (fun y hy=> ?_) fun _ _=>rfl
 have hy':=lg (show 0≤vb∧vb≤1000000000 by omega) ht hy
 rw [Bt (show (0:Int)≤0∧(0:Int)≤1000000000 by omega) (show aD db by unfold aD;omega) y hy'.ok hy'.rows _ (hy'.fd hk) (hy'.vp (by omega) (by omega)),kE]
 exact bL (fun _ _=>rfl) fun _ _=>rfl
theorem Zt (hk:F3 k) {t:Tm} (ht:Fm t) {vb db:Int} (hvb:0≤vb∧vb≤1000000000) (hdb:0≤db∧db<9223372036854775808) (ret:Tm→Option S):pQ k t vb db ret=ret (rE (eZ vb db t)):=by
 have hkd:=ht.rows.no.2.2
 simp only [pQ,LV,aI]
 rw [decide_eq_false (by omega),ac,By hvb (by omega) t ht.ok ht.rows _ (ht.fd hk) (ht.vp (by omega) (by omega))]
 refine Eq.trans (rn (x:=bo vb 0 0 0 t) (fun e he=>(iz t he).1) (fun z hz=>by rw [li hz];exact hkd) (fun r1=>cF k r1 0 0 0 db fun r2=>ret r2) ret) ?_
 rw [iL (eZ vb db t) ret]
 unfold eZ
 rw [aU]
 refine bL (fun y hy=> ?_) fun _ _=>rfl
 have hy':=lg hvb ht hy
 rw [By (by omega) hdb y hy'.ok hy'.rows _ (hy'.fd hk) (hy'.vp (by omega) (by omega)),iL _ ret]
end Go.Proofs.YtapmagaejigpnaaGreatDoor
namespace Go.Proofs.YtapmagaejigpnaaGreatDoor
open Go PI
set_option linter.unusedVariables false
set_option linter.unusedSimpArgs false
set_option maxRecDepth 20000
variable {S:Type} {k:Nat}
def aQ (i:Int) (r:List Cl) (fa:Bool):dq:=fun d f=>if bt (fK f) (i+d) then bE (ce (aZ r 0 d)) fun s=>ce (if fa then f8 f (i+d) s else f_ f (i+d) s) else .ok f
theorem yP (f:List Cl):U32 (fK f):=by
 have:=yQ f
 exact ⟨Int.natCast_nonneg _,by show ((dY f:Nat):Int)<_;omega⟩
theorem XU {f r:List Cl} {i:Int} (hr:am r) (h:(f_ f i r).2=0):RF (f_ f i r).1:=by
 unfold f_ at h ⊢
 split
 ·next hc=>
  rw [if_pos hc] at h
  simp only [Bool.and_eq_true] at hc
  exact Es (fun h c hh h0=>Ha ((eU hr).1 hc.1.2) h c hh h0) rD h
 ·next hc=>rw [if_neg hc] at h;exact absurd h (by decide)
theorem Ac (f g:List Cl):EN (cJ f g).2:=nu _
theorem vd (f g:List Cl):EN (bO f g).2:=nu _
theorem WT (f g:List Cl):EN (dS f g).2:=nu _
theorem GZ (f:List Cl):EN (cr f).2:=u5 fun h c=>Ac _ _
theorem XL (i:Int) (r:List Cl) (c:Cl):EN (dB i r c).2:=by
 unfold dB
 split
 ·exact Ac _ _
 ·exact kG
theorem XN (i:Int) (r:List Cl) (c:Cl) (g:List Cl):EN (d6 i r c g).2:=by
 unfold d6
 split
 ·split
  ·exact Ac _ _
  ·exact GZ _
 ·exact kG
theorem XK (i:Int) (r h:List Cl) (c:Cl):EN (dk i r h c).2:=by
 unfold dk
 split
 ·split
  ·exact vd _ _
  ·exact XN _ _ _ _
 ·exact XL _ _ _
theorem XT (f:List Cl) (i:Int) (r:List Cl):EN (f_ f i r).2:=by
 unfold f_
 split
 ·exact u5 fun h c=>XK i r h c
 ·exact h_
theorem Xa (f:List Cl):EN (dT f).2:=by
 unfold dT
 split
 ·exact nu _
 ·exact h_
theorem Xb (f:List Cl):EN (eR f).2:=by
 unfold eR
 split
 ·split
  ·exact nu _
  ·exact GZ _
 ·exact h_
theorem Hb {i:Int} {c:Cl} {h:List Cl} {q:List Cl×Int} (hq:EN q.2):EN (dK i c h q).2:=by
 unfold dK
 split
 ·split
  ·exact vd _ _
  ·exact WT _ _
 ·exact hq
theorem XQ (f:List Cl) (i:Int) (r:List Cl):EN (f8 f i r).2:=by
 unfold f8
 split
 ·refine u5 fun h c=> ?_
  unfold b7
  split
  ·exact Hb (Xa _)
  ·split
   ·exact Hb (Xb _)
   ·exact vd _ _
 ·exact h_
theorem nT {i:Int} {r:List Cl} {fa:Bool} {d:Int} {f g:List Cl} (hf:RF f) (h:aQ i r fa d f= .ok g):RF g:=by
 unfold aQ at h
 split at h
 ·obtain ⟨s,h1,h⟩:=bj h
  obtain ⟨h0,rfl⟩:=lK h1
  have hs:=fX h0
  obtain ⟨h2,rfl⟩:=lK h
  cases fa with
  |true=>exact (XR hf.2 hs.2 h2).1
  |false=>exact XU hs.2 h2
 ·injection h with h;subst h;exact hf
theorem wm {i:Int} {r:List Cl} {fa:Bool} {d:Int} {f:List Cl} {e:Int} (h:aQ i r fa d f= .error e):0<e∧e≤1000:=by
 unfold aQ at h
 split at h
 ·rcases bv h with h|⟨s,_,h⟩
  ·obtain ⟨h1,rfl⟩:=rW h
   have:=nA r 0 d
   unfold EN at this;omega
  ·obtain ⟨h1,rfl⟩:=rW h
   cases fa with
   |true=>
    have:=XQ f (i+d) s
    unfold EN at this
    simp only [if_true] at h1 ⊢
    omega
   |false=>
    have:=XT f (i+d) s
    unfold EN at this
    simp only [Bool.false_eq_true,if_false] at h1 ⊢
    omega
 ·cases h
theorem Jn {i:Int} {r:List Cl} {fa:Bool} {d:Int}:aQ i r fa d []= .ok []:=by
 unfold aQ
 rw [if_neg]
 intro h
 unfold bt at h
 rw [Bool.and_eq_true] at h
 have:=h.2
 unfold fK at this
 rw [Int.toNat_natCast,yR] at this
 simp [eC] at this
def dl (i:Int) (r:List Cl) (fa:Bool) (d:Int) (f:List Cl):List Cl×Int:=if bt (fK f) (i+d) then if (aZ r 0 d).2=0 then if fa then f8 f (i+d) (aZ r 0 d).1 else f_ f (i+d) (aZ r 0 d).1 else ([],(aZ r 0 d).2) else (f,0)
theorem lL (i:Int) (r:List Cl) (fa:Bool) (d:Int) (f:List Cl):ce (dl i r fa d f)=aQ i r fa d f:=by
 unfold dl aQ
 split
 ·by_cases h0:(aZ r 0 d).2=0
  ·rw [if_pos h0,eY h0,aw]
  ·rw [if_neg h0,d8 h0,xW,d8 (show ¬ (([]:List Cl),(aZ r 0 d).2).2=0 from h0)]
 ·rfl
section
variable {i d:Int} {r f:List Cl}
theorem Ki (hk:Fu k) (hf:RF f) (hr:RF r) (hi:0≤i∧i<24) (hd:0≤d∧d<4611686018427387000) (ret:List Cl×Int→Option S):pw k f d i r ret=ret (dl i r true d f):=by
 have l1:=hf.len;have l2:=hr.len
 simp only [pw,KS,ah hk,bm (n:=i+d) (by omega) (by omega),Bp hk hf.2 (show f.length<4294967296 by omega),nW hk (yP f),pu,BO,aV (show 0+f.length≤1099511627776 by omega),rM hk hr.2 (show r.length<1073741824 by omega) (show aD 0 by unfold aD;omega) (show aD d by unfold aD;omega)]
 unfold dl
 cases bt (fK f) (i+d) with
 |false=>rw [Bool.not_false,ad];rfl
 |true=>
  rw [Bool.not_true,ac,aY,if_pos rfl]
  by_cases h0:(aZ r 0 d).2=0
  ·have hs:=fX h0
   rw [decide_eq_true h0,Bool.not_true,ac,Zc hk hf.2 hs.2 hf.lt hs.lt,if_pos h0,if_pos rfl]
  ·rw [decide_eq_false h0,Bool.not_false,ad,if_neg h0]
theorem ZO (hk:Fu k) (hf:RF f) (hr:RF r) (hi:0≤i∧i<24) (hd:0≤d∧d<4611686018427387000) (ret:List Cl×Int→Option S):tR k f d i r ret=ret (dl i r false d f):=by
 have l1:=hf.len;have l2:=hr.len
 simp only [tR,KR,ah hk,bm (n:=i+d) (by omega) (by omega),Bp hk hf.2 (show f.length<4294967296 by omega),nW hk (yP f),pu,BO,aV (show 0+f.length≤1099511627776 by omega),rM hk hr.2 (show r.length<1073741824 by omega) (show aD 0 by unfold aD;omega) (show aD d by unfold aD;omega)]
 unfold dl
 cases bt (fK f) (i+d) with
 |false=>rw [Bool.not_false,ad];rfl
 |true=>
  rw [Bool.not_true,ac,aY,if_pos rfl]
  by_cases h0:(aZ r 0 d).2=0
  ·have hs:=fX h0
   rw [decide_eq_true h0,Bool.not_true,ac,Y9 hk hf.2 hs.2 hf.lt hs.lt,if_pos h0,if_neg (by decide)]
  ·rw [decide_eq_false h0,Bool.not_false,ad,if_neg h0]
theorem J8 (hk:Fu k) {fa:Bool} (hf:RF f) (hr:RF r) (hi:0≤i∧i<24) (hd:0≤d∧d<4611686018427387000) (ret:List Cl×Int→Option S):pU k f fa i r d ret=ret (dl i r fa d f):=by
 have l1:=hf.len;have l2:=hr.len
 simp only [pU,L0,ah hk,bm (n:=i+d) (by omega) (by omega),Kc hk hf.2 (show f.length<1073741824 by omega),gc hk (yP f),ws hk hr.2 (show r.length<1073741824 by omega) (show aD 0 by unfold aD;omega) (show aD d by unfold aD;omega)]
 unfold dl
 cases bt (fK f) (i+d) with
 |false=>rw [Bool.not_false,ad];rfl
 |true=>
  rw [Bool.not_true,ac,aY,if_pos rfl]
  by_cases h0:(aZ r 0 d).2=0
  ·have hs:=fX h0
   rw [decide_eq_true h0,Bool.not_true,ac,if_pos h0]
   cases fa with
   |true=>rw [ad,ZB hk hf.2 hs.2 hf.lt hs.lt,if_pos rfl]
   |false=>rw [ac,ZH hk hf.2 hs.2 hf.lt hs.lt,if_neg (by decide)]
  ·rw [decide_eq_false h0,Bool.not_false,ad,if_neg h0]
end
def g8 (j:Int) (c:Cl):Cl:=⟨mr c.pos j,mr c.neg j⟩
def aW (j:Int) (f:List Cl):List Cl:=(aX (f.map (g8 j))).1
theorem DH (s j:Int):0≤mr s j∧mr s j<16777216:=by
 have:=RG s.toNat j
 exact ⟨Int.natCast_nonneg _,by show ((hY s.toNat j:Nat):Int)<_;omega⟩
theorem yj (j:Int) (c:Cl):RC (g8 j c):=⟨DH _ _,DH _ _⟩
theorem yl (j:Int) (f:List Cl): ∀c∈f.map (g8 j),RC c:=fun c hc=>by
 obtain ⟨d,_,rfl⟩:=List.mem_map.1 hc
 exact yj j d
theorem yk {j:Int} {f:List Cl} (hf:f.length≤64):aX (f.map (g8 j))=(aW j f,0):=Prod.ext rfl (Fi (yl j f) (by rw [List.length_map];exact hf))
theorem Ry {j:Int} {f:List Cl} (hf:f.length≤64):RF (aW j f):=nx (fun c hc=>(yl j f c hc).ok) (by rw [yk hf])
theorem W6: ∀ (n:Nat) {l:List Cl} {c:Cl},(l.filter fun d=>cE c d&& !decide (d=c)).length≤n→(∀d∈l,RC d)→c∈l→ ∃d∈l,bw l d=true:=by
 have hle: ∀ {a b:Cl},RC a→RC b→(cE a b=true↔(∀j,b.pos.toNat.testBit j=true→a.pos.toNat.testBit j=true)∧ ∀j,b.neg.toNat.testBit j=true→a.neg.toNat.testBit j=true):=by
  intro a b ha hb
  unfold cE ck
  rw [decide_eq_true_eq]
  have hor: ∀ {x y:Int},0≤x→(dj x y=x↔ ∀j,y.toNat.testBit j=true→x.toNat.testBit j=true):=by
   intro x y hx
   unfold dj
   constructor
   ·intro h j hj
    have:(x.toNat|||y.toNat)=x.toNat:=by omega
    rw [←this,Nat.testBit_or,hj,Bool.or_true]
   ·intro h
    have:(x.toNat|||y.toNat)=x.toNat:=by
     apply Nat.eq_of_testBit_eq
     intro j
     rw [Nat.testBit_or]
     cases hy:y.toNat.testBit j with
     |false=>rw [Bool.or_false]
     |true=>rw [h j hy];rfl
    rw [this];omega
  cases a with
  |mk p q=>
   have h1:0≤p:=ha.1.1
   have h2:0≤q:=ha.2.1
   rw [←hor h1,←hor h2]
   constructor
   ·intro h;injection h with h1 h2;exact ⟨h1,h2⟩
   ·rintro ⟨h1,h2⟩;simp only at h1 h2 ⊢;rw [h1,h2]
 have hanti: ∀ {a b:Cl},RC a→RC b→cE a b=true→cE b a=true→a=b:=by
  intro a b ha hb h1 h2
  have e1:=(hle ha hb).1 h1
  have e2:=(hle hb ha).1 h2
  have hx: ∀ {x y:Int},0≤x→0≤y→(∀j,y.toNat.testBit j=true→x.toNat.testBit j=true)→(∀j,x.toNat.testBit j=true→y.toNat.testBit j=true)→x=y:=by
   intro x y hx hy a b
   have:x.toNat=y.toNat:=by
    apply Nat.eq_of_testBit_eq
    intro j
    rw [Bool.eq_iff_iff]
    exact ⟨b j,a j⟩
   omega
  cases a;cases b
  have p1:=hx ha.1.1 hb.1.1 e1.1 e2.1
  have p2:=hx ha.2.1 hb.2.1 e1.2 e2.2
  simp only at p1 p2
  rw [p1,p2]
 intro n
 induction n with
 |zero=>
  intro l c hn hl hc
  refine ⟨c,hc, ?_⟩
  unfold bw
  rw [List.all_eq_true]
  intro d hd
  have:(l.filter fun d=>cE c d&& !decide (d=c))=[]:=List.length_eq_zero_iff.1 (by omega)
  have hnot:=List.filter_eq_nil_iff.1 this d hd
  cases h1:decide (d=c) with
  |true=>rfl
  |false=>
   rw [h1] at hnot
   cases h2:cE c d with
   |false=>rfl
   |true=>rw [h2] at hnot;exact absurd rfl hnot
 |succ n ih=>
  intro l c hn hl hc
  by_cases h:bw l c=true
  ·exact ⟨c,hc,h⟩
  ·unfold bw at h
   rw [List.all_eq_true] at h
   have: ∃d∈l,¬ ((decide (d=c)|| !cE c d)=true):=Classical.byContradiction fun hh=>h fun d hd=>Classical.byContradiction fun h2=>hh ⟨d,hd,h2⟩
   obtain ⟨d,hd,hd'⟩:=this
   have h1:d≠c:=fun h=>hd' (by rw [decide_eq_true h];rfl)
   have h2:cE c d=true:=by
    cases hb:cE c d with
    |true=>rfl
    |false=>exact absurd (by rw [hb,Bool.not_false,Bool.or_true]) hd'
   refine ih (c:=d) ?_ hl hd
   have hsub:(l.filter fun e=>cE d e&& !decide (e=d)).length<(l.filter fun e=>cE c e&& !decide (e=c)).length:=by
    have hc':=hl c hc;have hdr:=hl d hd
    have himp: ∀e∈l,(cE d e&& !decide (e=d))=true→(cE c e&& !decide (e=c))=true:=by
     intro e he hh
     rw [Bool.and_eq_true] at hh ⊢
     have her:=hl e he
     have e1:=(hle hdr her).1 hh.1
     have e2:=(hle hc' hdr).1 h2
     refine ⟨(hle hc' her).2 ⟨fun j hj=>e2.1 j (e1.1 j hj),fun j hj=>e2.2 j (e1.2 j hj)⟩, ?_⟩
     rw [Bool.not_eq_true',decide_eq_false_iff_not]
     intro h3
     subst h3
     exact h1 (hanti hdr hc' hh.1 h2)
    have hle2: ∀ (p q:Cl→Bool) (m:List Cl),(∀e∈m,p e=true→q e=true)→(m.filter p).length≤(m.filter q).length:=by
     intro p q m
     induction m with
     |nil=>intro _;exact Nat.le_refl _
     |cons e m im=>
      intro hm
      have:=im fun e he=>hm e (by simp [he])
      by_cases hp:p e=true
      ·rw [List.filter_cons_of_pos hp,List.filter_cons_of_pos (hm e (by simp) hp),List.length_cons,List.length_cons];omega
      ·rw [List.filter_cons_of_neg hp]
       by_cases hq:q e=true
       ·rw [List.filter_cons_of_pos hq,List.length_cons];omega
       ·rw [List.filter_cons_of_neg hq];omega
    have hlt: ∀ (p q:Cl→Bool) (m:List Cl),(∀e∈m,p e=true→q e=true)→d∈m→p d=false→q d=true→(m.filter p).length<(m.filter q).length:=by
     intro p q m
     induction m with
     |nil=>intro _ h;cases h
     |cons e m im=>
      intro hm hdm hp hq
      have hrest: ∀e∈m,p e=true→q e=true:=fun e he=>hm e (by simp [he])
      have hb:=hle2 p q m hrest
      rcases List.mem_cons.1 hdm with rfl|hdm
      ·rw [List.filter_cons_of_neg (by rw [hp];decide),List.filter_cons_of_pos hq,List.length_cons];omega
      ·have:=im hrest hdm hp hq
       by_cases hp':p e=true
       ·rw [List.filter_cons_of_pos hp',List.filter_cons_of_pos (hm e (by simp) hp'),List.length_cons,List.length_cons];omega
       ·rw [List.filter_cons_of_neg hp']
        by_cases hq':q e=true
        ·rw [List.filter_cons_of_pos hq',List.length_cons];omega
        ·rw [List.filter_cons_of_neg hq'];omega
    exact hlt _ _ l himp hd (by simp) (by rw [h2,decide_eq_false h1];rfl)
   omega
theorem Dx {j:Int} {f:List Cl} (hf:RF f):(aW j f).length=0↔f.length=0:=by
 have h:=yk (j:=j) hf.len
 have hm:=(nw h).1
 constructor
 ·intro h0
  apply Classical.byContradiction
  intro hne
  obtain ⟨c,hc⟩:=List.exists_mem_of_length_pos (l:=f.map (g8 j)) (by rw [List.length_map];omega)
  obtain ⟨d,hd,hn⟩:=W6 _ (Nat.le_refl _) (yl j f) hc
  have:d∈aW j f:=by rw [hm];exact mem_mins.2 ⟨hd,hn⟩
  rw [List.length_eq_zero_iff.1 h0] at this
  cases this
 ·intro h0
  have:=List.length_eq_zero_iff.1 h0
  subst this;rfl
theorem Vh (hk:Fu k) (ret:List Cl×Int→Option S) {i d:Int} (hi:0≤i∧i<24) (hd:0≤d∧d<4611686018427387000) {f:List Cl} (hf:am f) (hlen:f.length<1073741824):
  ∀ (r p:List Cl) (m:Nat) (o:List Cl),f=p++r→r.length<m→am o→o.length=p.length→mG k ret i d f m (p.length:Int) o=ret (aX (o++r.map (g8 (i+d)))):=by
 intro r
 induction r with
 |nil=>
  intro p m o h hm hok ho
  obtain ⟨m,rfl,hm'⟩:=ak hm
  have:o.length<1073741824:=by rw [ho];rw [h] at hlen;simpa using hlen
  simp only [mG,sm,az h,ac,ah hk,iP hk hok (show o.length<2147483648 by omega),List.map_nil,List.append_nil]
 |cons x r ih=>
  intro p m o h hm hok ho
  obtain ⟨m,rfl,hm'⟩:=ak hm
  obtain ⟨e1,e2,e3,e4⟩:=ay h (by omega)
  have hx:aH x:=hf x (by rw [h];simp)
  have hpl:p.length<f.length:=by rw [h];simp
  simp only [mG,sm,e1,ad,e2,Option.bind_some,ah hk,bm (n:=i+d) (by omega) (by omega),JG hk hx.1,JG hk hx.2,e3]
  rw [aV (by simp;omega)]
  have:=ih (p++[x]) m (o++[g8 (i+d) x]) e4 hm' (d5 hok fun c hc=>by simp at hc;subst hc;exact (yj _ _).ok) (by simp;omega)
  refine Eq.trans this ?_
  simp
theorem JQ (hk:Fu k) {i d:Int} (hi:0≤i∧i<24) (hd:0≤d∧d<4611686018427387000) {f:List Cl} (hf:RF f) (ret:List Cl×Int→Option S):lY k f d i ret=ret (aW (i+d) f,0):=by
 have l1:=hf.len
 have:=Vh hk ret hi hd hf.2 (by omega) f [] k [] rfl (by have:4294967296≤k:=hk;omega) (fun c hc=>by cases hc) rfl
 simp only [lY,BN]
 refine Eq.trans this ?_
 rw [List.nil_append,yk l1]
theorem Vf (hk:Fu k) (ret:List Cl→Option S) {j:Int} {f:List Cl} (hf:am f) (hlen:f.length<1073741824):
  ∀ (r p:List Cl) (m:Nat) (o:List Cl),f=p++r→r.length<m→am o→o.length=p.length→nh k ret f j m o (p.length:Int)=ret (aX (o++r.map (g8 j))).1:=by
 intro r
 induction r with
 |nil=>
  intro p m o h hm hok ho
  obtain ⟨m,rfl,hm'⟩:=ak hm
  have:o.length<1073741824:=by rw [ho];rw [h] at hlen;simpa using hlen
  simp only [nh,tr,az h,ac,ah hk,lG hk hok (show o.length<2147483648 by omega),List.map_nil,List.append_nil]
 |cons x r ih=>
  intro p m o h hm hok ho
  obtain ⟨m,rfl,hm'⟩:=ak hm
  obtain ⟨e1,e2,e3,e4⟩:=ay h (by omega)
  have hx:aH x:=hf x (by rw [h];simp)
  have hpl:p.length<f.length:=by rw [h];simp
  simp only [nh,tr,e1,ad,e2,Option.bind_some,ah hk,Kd hk hx.1,Kd hk hx.2,e3]
  rw [aV (by simp;omega)]
  have:=ih (p++[x]) m (o++[g8 j x]) e4 hm' (d5 hok fun c hc=>by simp at hc;subst hc;exact (yj _ _).ok) (by simp;omega)
  refine Eq.trans this ?_
  simp
theorem JP (hk:Fu k) {j:Int} {f:List Cl} (hf:RF f) (ret:List Cl→Option S):pT k f j ret=ret (aW j f):=by
 have l1:=hf.len
 have:=Vf hk ret (j:=j) hf.2 (by omega) f [] k [] rfl (by have:4294967296≤k:=hk;omega) (fun c hc=>by cases hc) rfl
 simp only [pT,CI]
 exact this
end Go.Proofs.YtapmagaejigpnaaGreatDoor
namespace Go.Proofs.YtapmagaejigpnaaGreatDoor
open Go PI
set_option linter.unusedVariables false
set_option linter.unusedSimpArgs false
set_option maxRecDepth 20000
variable {S:Type} {k:Nat}
theorem wM (fo fa:dq) (d:Int) (t:Tm):aK fo fa d t=bE (if t.kind=14 then fa d t.r else fo d t.r) fun r'=>bE (a_ fo fa d t.kind 0 t.kids) fun ks'=>bE (aL fo fa d t.kind t.sys) fun sys'=> .ok (.mk t.kind t.n t.name r' ks' sys'):=by cases t;rw [aK];rfl
theorem C6 {fo fa:dq} {d:Int} {x y:Tm} (h:aK fo fa d x= .ok y):y.kind=x.kind:=by
 rw [wM] at h
 obtain ⟨_,_,h⟩:=bj h
 obtain ⟨_,_,h⟩:=bj h
 obtain ⟨_,_,h⟩:=bj h
 injection h with h;subst h;rfl
theorem wL (fo fa:dq) (d kd:Int) (b:Br Tm):d9 fo fa d kd b=bE (fa d b.face) fun f'=>if f'.length=0 then .ok [] else bE (bg fo fa d kd b.kids) fun ks'=> .ok [.mk f' ks']:=by cases b;rw [d9]
section
variable {fo fa:dq} (hfo: ∀d f e,fo d f= .error e→0<e∧e≤1000) (hfa: ∀d f e,fa d f= .error e→0<e∧e≤1000)
include hfo hfa
theorem gW (t:Tm): ∀ {d e},aK fo fa d t= .error e→0<e∧e≤1000:=by
 induction t using j6 with
 |h kd n nm r ks sys ih1 ih2=>
  intro d e h
  rw [aK] at h
  rcases bv h with h|⟨_,_,h⟩
  ·split at h
   ·exact hfa _ _ _ h
   ·exact hfo _ _ _ h
  have hkids: ∀ {l:List Tm} {i:Nat},(∀x∈l,∀ {d e},aK fo fa d x= .error e→0<e∧e≤1000)→a_ fo fa d kd i l= .error e→0<e∧e≤1000:=by
   intro l
   induction l with
   |nil=>intro i _ h;rw [a_] at h;cases h
   |cons t l ih=>
    intro i hl h
    rw [a_] at h
    rcases bv h with h|⟨_,_,h⟩
    ·exact hl t (by simp) h
    ·rcases bv h with h|⟨_,_,h⟩
     ·exact ih (fun x hx=>hl x (by simp [hx])) h
     ·cases h
  have hmore: ∀ {l:List Tm},(∀x∈l,∀ {d e},aK fo fa d x= .error e→0<e∧e≤1000)→ ∀ {e},bg fo fa d kd l= .error e→0<e∧e≤1000:=by
   intro l
   induction l with
   |nil=>intro _ e h;rw [bg] at h;cases h
   |cons t l ih=>
    intro hl e h
    rw [bg] at h
    rcases bv h with h|⟨_,_,h⟩
    ·exact hl t (by simp) h
    ·rcases bv h with h|⟨_,_,h⟩
     ·exact ih (fun x hx=>hl x (by simp [hx])) h
     ·cases h
  have hsys: ∀ {l:List (Br Tm)},(∀b∈l,∀x∈b.kids,∀ {d e},aK fo fa d x= .error e→0<e∧e≤1000)→aL fo fa d kd l= .error e→0<e∧e≤1000:=by
   intro l
   induction l with
   |nil=>intro _ h;rw [aL] at h;cases h
   |cons b l ih=>
    intro hl h
    rw [aL] at h
    rcases bv h with h|⟨_,_,h⟩
    ·rw [wL] at h
     rcases bv h with h|⟨_,_,h⟩
     ·exact hfa _ _ _ h
     ·split at h
      ·cases h
      ·rcases bv h with h|⟨_,_,h⟩
       ·exact hmore (hl b (by simp)) h
       ·cases h
    ·rcases bv h with h|⟨_,_,h⟩
     ·exact ih (fun b hb=>hl b (by simp [hb])) h
     ·cases h
  rcases bv h with h|⟨_,_,h⟩
  ·exact hkids (fun x hx=>ih1 x hx) h
  ·rcases bv h with h|⟨_,_,h⟩
   ·exact hsys ih2 h
   ·cases h
theorem My {kd d:Int}: ∀ {l:List Tm} {i:Nat} {e:Int},a_ fo fa d kd i l= .error e→0<e∧e≤1000:=by
 intro l
 induction l with
 |nil=>intro i e h;rw [a_] at h;cases h
 |cons t l ih=>
  intro i e h
  rw [a_] at h
  rcases bv h with h|⟨_,_,h⟩
  ·exact gW hfo hfa t h
  ·rcases bv h with h|⟨_,_,h⟩
   ·exact ih h
   ·cases h
theorem Mz {kd d:Int}: ∀ {l:List Tm} {e:Int},bg fo fa d kd l= .error e→0<e∧e≤1000:=by
 intro l
 induction l with
 |nil=>intro e h;rw [bg] at h;cases h
 |cons t l ih=>
  intro e h
  rw [bg] at h
  rcases bv h with h|⟨_,_,h⟩
  ·exact gW hfo hfa t h
  ·rcases bv h with h|⟨_,_,h⟩
   ·exact ih h
   ·cases h
end
theorem rT {α β:Type} (x:Except Int Tm) (hx: ∀e,x= .error e→0<e∧e≤1000) (f:Tm→α) (g:Int→α):(fun r:Tm×Int=>ab (!(r.2==0)) (g r.2) (f r.1)) (tE x)=eE x f g:=by
 cases x with
 |ok t=>rfl
 |error e=>
  have:=(hx e rfl).1
  show ab (!(e==0)) (g e) (f aJ)=g e
  rw [aY,decide_eq_false (by omega),Bool.not_false,ad]
theorem vD {α β γ:Type} (x:Except Int α) (hx: ∀e,x= .error e→0<e∧e≤1000) (z:α) (f:α→β) (g:Int→β):eE x (fun l=>(fun r:α×Int=>ab (!(r.2==0)) (g r.2) (f r.1)) (l,0)) (fun e=>(fun r:α×Int=>ab (!(r.2==0)) (g r.2) (f r.1)) (z,e))=eE x f g:=by
 cases x with
 |ok t=>rfl
 |error e=>
  have:=(hx e rfl).1
  show ab (!(e==0)) (g e) (f z)=g e
  rw [aY,decide_eq_false (by omega),Bool.not_false,ad]
theorem jP {G:Int→List Cl→List Cl}: ∀d f e,au G d f= .error e→0<e∧e≤1000:=fun d f e h=>by cases h
theorem gQ {i:Int} {r:List Cl} {fa:Bool}: ∀d f e,aQ i r fa d f= .error e→0<e∧e≤1000:=fun d f e h=>wm h
section
variable {hd:Tm→Int→Int→List Cl→(Tm×Int→Option S)→Option S} {i d:Int} {t:Tm} {r:List Cl}
theorem XY (hk:Fu k) (hi:0≤i∧i<24) (hr:RF r) (hd0:0≤d∧d<4611686018427386000) (hro:RowsT t) (ret:List Cl×Int→Option S): ∃z:List Cl×Int,ce z=(if t.kind=14 then (aQ i r true) d t.r else (aQ i r false) d t.r)∧tT k t d i r ret=ret z:=by
 have hr0:=hro.no.1
 simp only [tT,KV,ah hk,Ki hk hr0 hr hi (show 0≤d∧d<4611686018427387000 by omega),ZO hk hr0 hr hi (show 0≤d∧d<4611686018427387000 by omega)]
 by_cases h:t.kind=14
 ·rw [h,if_pos rfl,show ((14:Int)==14)=true from rfl,ad]
  exact ⟨_,lL _ _ _ _ _,rfl⟩
 ·rw [if_neg h,show (t.kind==14)=false from by rw [beq_eq_false_iff_ne];exact h,ac]
  exact ⟨_,lL _ _ _ _ _,rfl⟩
theorem XV (hk:Fu k) (ret:List Tm×Int→Option S) (hd0:0≤d∧d<4611686018427386000) (hQ: ∀y∈t.kids,∀b,0≤b∧b≤1→ ∀g,hd y (d+b) i r g=g (tE (aK (aQ i r false) (aQ i r true) (d+b) y))) (hl:t.kids.length<1073741824):
  ∀ (r' p:List Tm) (m:Nat) (acc:List Tm),t.kids=p++r'→r'.length<m→acc.length=p.length→
  jC hd k ret i r t t.kids d m acc (p.length:Int)=eE (a_ (aQ i r false) (aQ i r true) d t.kind p.length r') (fun l=>ret (acc++l,0)) fun e=>ret ([],e):=by
 intro r'
 induction r' with
 |nil=>
  intro p m acc h hm ha
  obtain ⟨m,rfl,hm'⟩:=ak hm
  simp only [jC,sr,az h,ac,a_,aO,List.append_nil]
 |cons y r' ih=>
  intro p m acc h hm ha
  obtain ⟨m,rfl,hm'⟩:=ak hm
  obtain ⟨e1,e2,e3,e4⟩:=ay h (by omega)
  have hpl:p.length<t.kids.length:=by rw [h];simp
  have b2':=i_ t.kind p.length
  have hy:=hQ y (by rw [h];simp) (bM t.kind p.length) b2'
  simp only [jC,sr,e1,ad,e2,Option.bind_some,ah hk,px,BT,nV,aI,bm (n:=d+bM t.kind p.length) (by omega) (by omega),hy]
  refine Eq.trans (rT (β:=Unit) _ (fun e he=>gW gQ gQ y he) (fun z=>Option.bind (ax 1099511627776 acc.length [z].length) fun _=>jC hd k ret i r t t.kids d m (acc++[z]) (IntKind.wrap .i64 ((p.length:Int)+1))) fun e=>ret ([],e)) ?_
  simp only [a_,aU,aO]
  refine bL (fun t' ht'=> ?_) fun e _=>rfl
  rw [aV (by simp;omega),e3,ih (p++[y]) m (acc++[t']) e4 hm' (by simp;omega),show (p++[y]).length=p.length+1 by simp]
  simp
theorem XW (hk:Fu k) (ret:List Tm×Int→Option S) {x:Br Tm} {kd:Int} (hd0:0≤d∧d<4611686018427386000) (hQ: ∀y∈x.kids,∀g,hd y (d+ar kd) i r g=g (tE (aK (aQ i r false) (aQ i r true) (d+ar kd) y))) (hl:x.kids.length<1073741824):
  ∀ (r' p:List Tm) (m:Nat) (acc:List Tm),x.kids=p++r'→r'.length<m→acc.length=p.length→
  jB hd k ret i r (ar kd) x.kids d m acc (p.length:Int)=eE (bg (aQ i r false) (aQ i r true) d kd r') (fun l=>ret (acc++l,0)) fun e=>ret ([],e):=by
 have hmo:=d4 kd
 intro r'
 induction r' with
 |nil=>
  intro p m acc h hm ha
  obtain ⟨m,rfl,hm'⟩:=ak hm
  simp only [jB,sq,az h,ac,bg,aO,List.append_nil]
 |cons y r' ih=>
  intro p m acc h hm ha
  obtain ⟨m,rfl,hm'⟩:=ak hm
  obtain ⟨e1,e2,e3,e4⟩:=ay h (by omega)
  have hpl:p.length<x.kids.length:=by rw [h];simp
  have hy:=hQ y (by rw [h];simp)
  simp only [jB,sq,e1,ad,e2,Option.bind_some,ah hk,py,BU,aI,bm (n:=d+ar kd) (by omega) (by omega),hy]
  refine Eq.trans (rT (β:=Unit) _ (fun e he=>gW gQ gQ y he) (fun z=>Option.bind (ax 1099511627776 acc.length [z].length) fun _=>jB hd k ret i r (ar kd) x.kids d m (acc++[z]) (IntKind.wrap .i64 ((p.length:Int)+1))) fun e=>ret ([],e)) ?_
  simp only [bg,aU,aO]
  refine bL (fun t' ht'=> ?_) fun e _=>rfl
  rw [aV (by simp;omega),e3,ih (p++[y]) m (acc++[t']) e4 hm' (by simp;omega)]
  simp
theorem XX (hk:Fu k) (ret:Tm×Int→Option S) (hi:0≤i∧i<24) (hr:RF r) (hd0:0≤d∧d<4611686018427386000) {r1:List Cl×Int} {r2:List Tm×Int} (ht:OkT t) (hro:RowsT t) (hQ: ∀b∈t.sys,∀y∈b.kids,∀g,hd y (d+ar t.kind) i r g=g (tE (aK (aQ i r false) (aQ i r true) (d+ar t.kind) y))):
  ∀ (r' p:List (Br Tm)) (m:Nat) (o:List (Br Tm)),t.sys=p++r'→r'.length<m→o.length≤p.length→
  eL hd k ret i r t r1 r2 d m (ar t.kind) o (p.length:Int)=eE (aL (aQ i r false) (aQ i r true) d t.kind r') (fun s=>ret (.mk t.kind t.n t.name r1.1 r2.1 (o++s),0)) fun e=>ret (aJ,e):=by
 obtain ⟨o1,o2,o3,o4,o5,o6,o7⟩:=ht.no
 intro r'
 induction r' with
 |nil=>
  intro p m o h hml ho
  obtain ⟨m,rfl,hm'⟩:=ak hml
  simp only [eL,su,az h,ac,aL,aO,List.append_nil]
 |cons x r' ih=>
  intro p m o h hml ho
  obtain ⟨m,rfl,hm'⟩:=ak hml
  obtain ⟨e1,e2,e3,e4⟩:=ay h (by omega)
  have hx:x∈t.sys:=by rw [h];simp
  have hpl:p.length<t.sys.length:=by rw [h];simp
  have hb:=(ht.bi hx).1
  have hr0:=(hro.bi hx).1
  have hM:=fun g:List Tm×Int→Option S=>XW (kd:=t.kind) hk g hd0 (hQ x hx) hb.2.2 x.kids [] k [] rfl (by have:4294967296≤k:=hk;omega) rfl
  have hM: ∀g:List Tm×Int→Option S,jB hd k g i r (ar t.kind) x.kids d k [] 0=_:=hM
  simp only [eL,su,e1,ad,e2,Option.bind_some,ah hk,Ki hk hr0 hr hi (show 0≤d∧d<4611686018427387000 by omega),yv,BR,hM,e3,List.nil_append]
  have hin:=fun f':List Cl=>vD (β:=Option S) (γ:=Unit) (bg (aQ i r false) (aQ i r true) d t.kind x.kids) (fun e he=>Mz gQ gQ he) [] (fun l=>Option.bind (ax 1099511627776 o.length [Br.mk f' l].length) fun _=>eL hd k ret i r t r1 r2 d m (ar t.kind) (o++[Br.mk f' l]) (((p++[x]).length:Nat):Int)) fun e=>ret (aJ,e)
  refine Eq.trans (rX (z:=(dl i r true d x.face)) (fun f'=>ab (((f'.length:Nat):Int)==0) (eL hd k ret i r t r1 r2 d m (ar t.kind) o (((p++[x]).length:Nat):Int)) (eE (bg (aQ i r false) (aQ i r true) d t.kind x.kids) (fun l=>(fun r5:List Tm×Int=>ab (!(r5.2==0)) (ret (aJ,r5.2)) (Option.bind (ax 1099511627776 o.length [Br.mk f' r5.1].length) fun _=>eL hd k ret i r t r1 r2 d m (ar t.kind) (o++[Br.mk f' r5.1]) (((p++[x]).length:Nat):Int))) (l,0)) fun e=>(fun r5:List Tm×Int=>ab (!(r5.2==0)) (ret (aJ,r5.2)) (Option.bind (ax 1099511627776 o.length [Br.mk f' r5.1].length) fun _=>eL hd k ret i r t r1 r2 d m (ar t.kind) (o++[Br.mk f' r5.1]) (((p++[x]).length:Nat):Int))) ([],e))) fun e=>ret (aJ,e)) ?_
  rw [show ce (dl i r true d x.face)=(aQ i r true) d x.face from lL _ _ _ _ _]
  rw [aL,wL,aU,aU]
  refine bL (fun f' hf'=> ?_) fun e _=>rfl
  rw [ny,aG]
  by_cases h0:f'.length=0
  ·rw [if_pos h0,if_pos h0,aO,aU,ih (p++[x]) m o e4 hm' (by simp;omega)]
   exact bL (fun _ _=>rfl) fun _ _=>rfl
  ·rw [if_neg h0,if_neg h0,hin f',aU]
   refine bL (fun l hl=> ?_) fun e _=>rfl
   rw [aO,aU,aV (by simp;omega),ih (p++[x]) m (o++[Br.mk f' l]) e4 hm' (by simp;omega)]
   refine bL (fun s _=> ?_) fun e _=>rfl
   rw [aO];simp
end
theorem XZ {i:Int} {r:List Cl} (hi:0≤i∧i<24) (hr:RF r) (t:Tm):OkT t→RowsT t→ ∀ {k:Nat} {d:Int} (ret:Tm×Int→Option S),Fd k (av t)→0≤d→d+av t<4611686018427386000→dx k t d i r ret=ret (tE (aK (aQ i r false) (aQ i r true) d t)):=by
 induction t using eB with
 |h t ih1 ih2=>
  intro ht hro k d ret hk hv hv'
  obtain ⟨q,rfl,hq,hf⟩:=hk.pos' (cZ t)
  have hp:=cZ t
  have hd0:0≤d∧d<4611686018427386000:=by omega
  obtain ⟨o1,o2,o3,o4,o5,o6,o7⟩:=ht.no
  have hmo:=d4 t.kind
  have hQ: ∀y∈t.kids,∀b,0≤b∧b≤1→ ∀g:Tm×Int→Option S,dx q y (d+b) i r g=g (tE (aK (aQ i r false) (aQ i r true) (d+b) y)):=fun y hy b h2 g=>
   ih1 y hy (ht.ki hy) (hro.ki hy) g (hf _ (cY hy)) (by omega) (by have:=cY hy;omega)
  have hQ': ∀b∈t.sys,∀y∈b.kids,∀g:Tm×Int→Option S,dx q y (d+ar t.kind) i r g=g (tE (aK (aQ i r false) (aQ i r true) (d+ar t.kind) y)):=fun b hb y hy g=>
   ih2 b hb y hy ((ht.bi hb).2 y hy) ((hro.bi hb).2 y hy) g (hf _ (cX hb hy)) (by omega) (by have:=cX hb hy;omega)
  have hK: ∀g:List Tm×Int→Option S,jC (dx q) q g i r t t.kids d q [] 0=_:=fun g=>XV hq g hd0 hQ o6 t.kids [] q [] rfl (by have:4294967296≤q:=hq;omega) rfl
  have hS:=fun (r1:List Cl×Int) (r2:List Tm×Int)=>XX (r1:=r1) (r2:=r2) hq ret hi hr hd0 ht hro hQ' t.sys [] q [] rfl (by have:4294967296≤q:=hq;omega) (Nat.le_refl _)
  have hS: ∀ (r1:List Cl×Int) (r2:List Tm×Int),eL (dx q) q ret i r t r1 r2 d q (ar t.kind) [] 0=_:=hS
  have hcase: ∀ (r1:List Cl×Int) (r2:List Tm×Int),ab (t.kind==15) (eL (dx q) q ret i r t r1 r2 d q 1 [] 0) (eL (dx q) q ret i r t r1 r2 d q 0 [] 0)=eE (aL (aQ i r false) (aQ i r true) d t.kind t.sys) (fun s=>ret (.mk t.kind t.n t.name r1.1 r2.1 s,0)) fun e=>ret (aJ,e):=by
   intro r1 r2
   have:=hS r1 r2
   simp only [List.nil_append] at this
   rw [←this,b8]
   unfold ar
   by_cases h15:t.kind=15
   ·rw [if_pos h15,if_pos (by rw [h15];rfl)]
   ·rw [if_neg h15,if_neg (by rw [beq_iff_eq];exact h15)]
  obtain ⟨z,hz,hrow⟩:=XY hq hi hr hd0 hro (fun r1=>ab (!(r1.2==0)) (ret (aJ,r1.2)) (eE (a_ (aQ i r false) (aQ i r true) d t.kind 0 t.kids) (fun l=>(fun r2:List Tm×Int=>ab (!(r2.2==0)) (ret (aJ,r2.2)) (eE (aL (aQ i r false) (aQ i r true) d t.kind t.sys) (fun s=>ret (.mk t.kind t.n t.name r1.1 r2.1 s,0)) fun e=>ret (aJ,e))) (l,0)) fun e=>(fun r2:List Tm×Int=>ab (!(r2.2==0)) (ret (aJ,r2.2)) (eE (aL (aQ i r false) (aQ i r true) d t.kind t.sys) (fun s=>ret (.mk t.kind t.n t.name r1.1 r2.1 s,0)) fun e=>ret (aJ,e))) ([],e)))
  simp only [dx,BV,ah hq,aI,yw,BS,hK,hcase,List.nil_append,List.length_nil]
  refine Eq.trans hrow ?_
  rw [iM _ ret,wM,←hz]
  refine Eq.trans (rX (z:=z) (fun r'=>eE (a_ (aQ i r false) (aQ i r true) d t.kind 0 t.kids) (fun l=>(fun r2:List Tm×Int=>ab (!(r2.2==0)) (ret (aJ,r2.2)) (eE (aL (aQ i r false) (aQ i r true) d t.kind t.sys) (fun s=>ret (.mk t.kind t.n t.name r' r2.1 s,0)) fun e=>ret (aJ,e))) (l,0)) fun e=>(fun r2:List Tm×Int=>ab (!(r2.2==0)) (ret (aJ,r2.2)) (eE (aL (aQ i r false) (aQ i r true) d t.kind t.sys) (fun s=>ret (.mk t.kind t.n t.name r' r2.1 s,0)) fun e=>ret (aJ,e))) ([],e)) fun e=>ret (aJ,e)) ?_
  rw [aU]
  refine bL (fun r' _=> ?_) fun e _=>rfl
  refine Eq.trans (vD (β:=Option S) (γ:=Unit) (a_ (aQ i r false) (aQ i r true) d t.kind 0 t.kids) (fun e he=>My gQ gQ he) [] (fun l=>eE (aL (aQ i r false) (aQ i r true) d t.kind t.sys) (fun s=>ret (.mk t.kind t.n t.name r' l s,0)) fun e=>ret (aJ,e)) fun e=>ret (aJ,e)) ?_
  simp only [aU,aO]
section
variable {hd:Tm→Int→Int→(Tm×Int→Option S)→Option S} {i d:Int} {t:Tm}
theorem RL (hk:Fu k) (hi:0≤i∧i<24) (hd0:0≤d∧d<4611686018427386000) (hro:RowsT t) (ret:List Cl×Int→Option S): ∃z:List Cl×Int,ce z=(if t.kind=14 then (au fun d f=>aW (i+d) f) d t.r else (au fun d f=>aW (i+d) f) d t.r)∧tU k t d i ret=ret z:=by
 have hr0:=hro.no.1
 simp only [tU,KW,ah hk,JQ hk hi (show 0≤d∧d<4611686018427387000 by omega) hr0]
 by_cases h:t.kind=14
 ·rw [h,if_pos rfl,show ((14:Int)==14)=true from rfl,ad]
  exact ⟨_,rfl,rfl⟩
 ·rw [if_neg h,show (t.kind==14)=false from by rw [beq_eq_false_iff_ne];exact h,ac]
  exact ⟨_,rfl,rfl⟩
theorem RH (hk:Fu k) (ret:List Tm×Int→Option S) (hd0:0≤d∧d<4611686018427386000) (hQ: ∀y∈t.kids,∀b,0≤b∧b≤1→ ∀g,hd y (d+b) i g=g (tE (aK (au fun d f=>aW (i+d) f) (au fun d f=>aW (i+d) f) (d+b) y))) (hl:t.kids.length<1073741824):
  ∀ (r' p:List Tm) (m:Nat) (acc:List Tm),t.kids=p++r'→r'.length<m→acc.length=p.length→
  jA hd k ret i t t.kids d m acc (p.length:Int)=eE (a_ (au fun d f=>aW (i+d) f) (au fun d f=>aW (i+d) f) d t.kind p.length r') (fun l=>ret (acc++l,0)) fun e=>ret ([],e):=by
 intro r'
 induction r' with
 |nil=>
  intro p m acc h hm ha
  obtain ⟨m,rfl,hm'⟩:=ak hm
  simp only [jA,so,az h,ac,a_,aO,List.append_nil]
 |cons y r' ih=>
  intro p m acc h hm ha
  obtain ⟨m,rfl,hm'⟩:=ak hm
  obtain ⟨e1,e2,e3,e4⟩:=ay h (by omega)
  have hpl:p.length<t.kids.length:=by rw [h];simp
  have b2':=i_ t.kind p.length
  have hy:=hQ y (by rw [h];simp) (bM t.kind p.length) b2'
  simp only [jA,so,e1,ad,e2,Option.bind_some,ah hk,px,BT,nV,aI,bm (n:=d+bM t.kind p.length) (by omega) (by omega),hy]
  refine Eq.trans (rT (β:=Unit) _ (fun e he=>gW jP jP y he) (fun z=>Option.bind (ax 1099511627776 acc.length [z].length) fun _=>jA hd k ret i t t.kids d m (acc++[z]) (IntKind.wrap .i64 ((p.length:Int)+1))) fun e=>ret ([],e)) ?_
  simp only [a_,aU,aO]
  refine bL (fun t' ht'=> ?_) fun e _=>rfl
  rw [aV (by simp;omega),e3,ih (p++[y]) m (acc++[t']) e4 hm' (by simp;omega),show (p++[y]).length=p.length+1 by simp]
  simp
theorem RI (hk:Fu k) (ret:List Tm×Int→Option S) {x:Br Tm} {kd:Int} (hd0:0≤d∧d<4611686018427386000) (hQ: ∀y∈x.kids,∀g,hd y (d+ar kd) i g=g (tE (aK (au fun d f=>aW (i+d) f) (au fun d f=>aW (i+d) f) (d+ar kd) y))) (hl:x.kids.length<1073741824):
  ∀ (r' p:List Tm) (m:Nat) (acc:List Tm),x.kids=p++r'→r'.length<m→acc.length=p.length→
  jz hd k ret i (ar kd) x.kids d m acc (p.length:Int)=eE (bg (au fun d f=>aW (i+d) f) (au fun d f=>aW (i+d) f) d kd r') (fun l=>ret (acc++l,0)) fun e=>ret ([],e):=by
 have hmo:=d4 kd
 intro r'
 induction r' with
 |nil=>
  intro p m acc h hm ha
  obtain ⟨m,rfl,hm'⟩:=ak hm
  simp only [jz,sn,az h,ac,bg,aO,List.append_nil]
 |cons y r' ih=>
  intro p m acc h hm ha
  obtain ⟨m,rfl,hm'⟩:=ak hm
  obtain ⟨e1,e2,e3,e4⟩:=ay h (by omega)
  have hpl:p.length<x.kids.length:=by rw [h];simp
  have hy:=hQ y (by rw [h];simp)
  simp only [jz,sn,e1,ad,e2,Option.bind_some,ah hk,py,BU,aI,bm (n:=d+ar kd) (by omega) (by omega),hy]
  refine Eq.trans (rT (β:=Unit) _ (fun e he=>gW jP jP y he) (fun z=>Option.bind (ax 1099511627776 acc.length [z].length) fun _=>jz hd k ret i (ar kd) x.kids d m (acc++[z]) (IntKind.wrap .i64 ((p.length:Int)+1))) fun e=>ret ([],e)) ?_
  simp only [bg,aU,aO]
  refine bL (fun t' ht'=> ?_) fun e _=>rfl
  rw [aV (by simp;omega),e3,ih (p++[y]) m (acc++[t']) e4 hm' (by simp;omega)]
  simp
theorem RJ (hk:Fu k) (ret:Tm×Int→Option S) (hi:0≤i∧i<24) (hd0:0≤d∧d<4611686018427386000) {r1:List Cl×Int} {r2:List Tm×Int} (ht:OkT t) (hro:RowsT t) (hQ: ∀b∈t.sys,∀y∈b.kids,∀g,hd y (d+ar t.kind) i g=g (tE (aK (au fun d f=>aW (i+d) f) (au fun d f=>aW (i+d) f) (d+ar t.kind) y))):
  ∀ (r' p:List (Br Tm)) (m:Nat) (o:List (Br Tm)),t.sys=p++r'→r'.length<m→o.length≤p.length→
  eM hd k ret i t r1 r2 d m (ar t.kind) o (p.length:Int)=eE (aL (au fun d f=>aW (i+d) f) (au fun d f=>aW (i+d) f) d t.kind r') (fun s=>ret (.mk t.kind t.n t.name r1.1 r2.1 (o++s),0)) fun e=>ret (aJ,e):=by
 obtain ⟨o1,o2,o3,o4,o5,o6,o7⟩:=ht.no
 intro r'
 induction r' with
 |nil=>
  intro p m o h hml ho
  obtain ⟨m,rfl,hm'⟩:=ak hml
  simp only [eM,sx,az h,ac,aL,aO,List.append_nil]
 |cons x r' ih=>
  intro p m o h hml ho
  obtain ⟨m,rfl,hm'⟩:=ak hml
  obtain ⟨e1,e2,e3,e4⟩:=ay h (by omega)
  have hx:x∈t.sys:=by rw [h];simp
  have hpl:p.length<t.sys.length:=by rw [h];simp
  have hb:=(ht.bi hx).1
  have hr0:=(hro.bi hx).1
  have hM:=fun g:List Tm×Int→Option S=>RI (kd:=t.kind) hk g hd0 (hQ x hx) hb.2.2 x.kids [] k [] rfl (by have:4294967296≤k:=hk;omega) rfl
  have hM: ∀g:List Tm×Int→Option S,jz hd k g i (ar t.kind) x.kids d k [] 0=_:=hM
  simp only [eM,sx,e1,ad,e2,Option.bind_some,ah hk,JQ hk hi (show 0≤d∧d<4611686018427387000 by omega) hr0,yr,BP,hM,e3,List.nil_append]
  have hin:=fun f':List Cl=>vD (β:=Option S) (γ:=Unit) (bg (au fun d f=>aW (i+d) f) (au fun d f=>aW (i+d) f) d t.kind x.kids) (fun e he=>Mz jP jP he) [] (fun l=>Option.bind (ax 1099511627776 o.length [Br.mk f' l].length) fun _=>eM hd k ret i t r1 r2 d m (ar t.kind) (o++[Br.mk f' l]) (((p++[x]).length:Nat):Int)) fun e=>ret (aJ,e)
  refine Eq.trans (rX (z:=(aW (i+d) x.face,(0:Int))) (fun f'=>ab (((f'.length:Nat):Int)==0) (eM hd k ret i t r1 r2 d m (ar t.kind) o (((p++[x]).length:Nat):Int)) (eE (bg (au fun d f=>aW (i+d) f) (au fun d f=>aW (i+d) f) d t.kind x.kids) (fun l=>(fun r5:List Tm×Int=>ab (!(r5.2==0)) (ret (aJ,r5.2)) (Option.bind (ax 1099511627776 o.length [Br.mk f' r5.1].length) fun _=>eM hd k ret i t r1 r2 d m (ar t.kind) (o++[Br.mk f' r5.1]) (((p++[x]).length:Nat):Int))) (l,0)) fun e=>(fun r5:List Tm×Int=>ab (!(r5.2==0)) (ret (aJ,r5.2)) (Option.bind (ax 1099511627776 o.length [Br.mk f' r5.1].length) fun _=>eM hd k ret i t r1 r2 d m (ar t.kind) (o++[Br.mk f' r5.1]) (((p++[x]).length:Nat):Int))) ([],e))) fun e=>ret (aJ,e)) ?_
  rw [show ce (aW (i+d) x.face,(0:Int))=(au fun d f=>aW (i+d) f) d x.face from rfl]
  rw [aL,wL,aU,aU]
  refine bL (fun f' hf'=> ?_) fun e _=>rfl
  rw [ny,aG]
  by_cases h0:f'.length=0
  ·rw [if_pos h0,if_pos h0,aO,aU,ih (p++[x]) m o e4 hm' (by simp;omega)]
   exact bL (fun _ _=>rfl) fun _ _=>rfl
  ·rw [if_neg h0,if_neg h0,hin f',aU]
   refine bL (fun l hl=> ?_) fun e _=>rfl
   rw [aO,aU,aV (by simp;omega),ih (p++[x]) m (o++[Br.mk f' l]) e4 hm' (by simp;omega)]
   refine bL (fun s _=> ?_) fun e _=>rfl
   rw [aO];simp
end
theorem RM {i:Int} (hi:0≤i∧i<24) (t:Tm):OkT t→RowsT t→ ∀ {k:Nat} {d:Int} (ret:Tm×Int→Option S),Fd k (av t)→0≤d→d+av t<4611686018427386000→dt k t d i ret=ret (tE (aK (au fun d f=>aW (i+d) f) (au fun d f=>aW (i+d) f) d t)):=by
 induction t using eB with
 |h t ih1 ih2=>
  intro ht hro k d ret hk hv hv'
  obtain ⟨q,rfl,hq,hf⟩:=hk.pos' (cZ t)
  have hp:=cZ t
  have hd0:0≤d∧d<4611686018427386000:=by omega
  obtain ⟨o1,o2,o3,o4,o5,o6,o7⟩:=ht.no
  have hmo:=d4 t.kind
  have hQ: ∀y∈t.kids,∀b,0≤b∧b≤1→ ∀g:Tm×Int→Option S,dt q y (d+b) i g=g (tE (aK (au fun d f=>aW (i+d) f) (au fun d f=>aW (i+d) f) (d+b) y)):=fun y hy b h2 g=>
   ih1 y hy (ht.ki hy) (hro.ki hy) g (hf _ (cY hy)) (by omega) (by have:=cY hy;omega)
  have hQ': ∀b∈t.sys,∀y∈b.kids,∀g:Tm×Int→Option S,dt q y (d+ar t.kind) i g=g (tE (aK (au fun d f=>aW (i+d) f) (au fun d f=>aW (i+d) f) (d+ar t.kind) y)):=fun b hb y hy g=>
   ih2 b hb y hy ((ht.bi hb).2 y hy) ((hro.bi hb).2 y hy) g (hf _ (cX hb hy)) (by omega) (by have:=cX hb hy;omega)
  have hK: ∀g:List Tm×Int→Option S,jA (dt q) q g i t t.kids d q [] 0=_:=fun g=>RH hq g hd0 hQ o6 t.kids [] q [] rfl (by have:4294967296≤q:=hq;omega) rfl
  have hS:=fun (r1:List Cl×Int) (r2:List Tm×Int)=>RJ (r1:=r1) (r2:=r2) hq ret hi hd0 ht hro hQ' t.sys [] q [] rfl (by have:4294967296≤q:=hq;omega) (Nat.le_refl _)
  have hS: ∀ (r1:List Cl×Int) (r2:List Tm×Int),eM (dt q) q ret i t r1 r2 d q (ar t.kind) [] 0=_:=hS
  have hcase: ∀ (r1:List Cl×Int) (r2:List Tm×Int),ab (t.kind==15) (eM (dt q) q ret i t r1 r2 d q 1 [] 0) (eM (dt q) q ret i t r1 r2 d q 0 [] 0)=eE (aL (au fun d f=>aW (i+d) f) (au fun d f=>aW (i+d) f) d t.kind t.sys) (fun s=>ret (.mk t.kind t.n t.name r1.1 r2.1 s,0)) fun e=>ret (aJ,e):=by
   intro r1 r2
   have:=hS r1 r2
   simp only [List.nil_append] at this
   rw [←this,b8]
   unfold ar
   by_cases h15:t.kind=15
   ·rw [if_pos h15,if_pos (by rw [h15];rfl)]
   ·rw [if_neg h15,if_neg (by rw [beq_iff_eq];exact h15)]
  obtain ⟨z,hz,hrow⟩:=RL hq hi hd0 hro (fun r1=>ab (!(r1.2==0)) (ret (aJ,r1.2)) (eE (a_ (au fun d f=>aW (i+d) f) (au fun d f=>aW (i+d) f) d t.kind 0 t.kids) (fun l=>(fun r2:List Tm×Int=>ab (!(r2.2==0)) (ret (aJ,r2.2)) (eE (aL (au fun d f=>aW (i+d) f) (au fun d f=>aW (i+d) f) d t.kind t.sys) (fun s=>ret (.mk t.kind t.n t.name r1.1 r2.1 s,0)) fun e=>ret (aJ,e))) (l,0)) fun e=>(fun r2:List Tm×Int=>ab (!(r2.2==0)) (ret (aJ,r2.2)) (eE (aL (au fun d f=>aW (i+d) f) (au fun d f=>aW (i+d) f) d t.kind t.sys) (fun s=>ret (.mk t.kind t.n t.name r1.1 r2.1 s,0)) fun e=>ret (aJ,e))) ([],e)))
  simp only [dt,BW,ah hq,aI,yu,BQ,hK,hcase,List.nil_append,List.length_nil]
  refine Eq.trans hrow ?_
  rw [iM _ ret,wM,←hz]
  refine Eq.trans (rX (z:=z) (fun r'=>eE (a_ (au fun d f=>aW (i+d) f) (au fun d f=>aW (i+d) f) d t.kind 0 t.kids) (fun l=>(fun r2:List Tm×Int=>ab (!(r2.2==0)) (ret (aJ,r2.2)) (eE (aL (au fun d f=>aW (i+d) f) (au fun d f=>aW (i+d) f) d t.kind t.sys) (fun s=>ret (.mk t.kind t.n t.name r' r2.1 s,0)) fun e=>ret (aJ,e))) (l,0)) fun e=>(fun r2:List Tm×Int=>ab (!(r2.2==0)) (ret (aJ,r2.2)) (eE (aL (au fun d f=>aW (i+d) f) (au fun d f=>aW (i+d) f) d t.kind t.sys) (fun s=>ret (.mk t.kind t.n t.name r' r2.1 s,0)) fun e=>ret (aJ,e))) ([],e)) fun e=>ret (aJ,e)) ?_
  rw [aU]
  refine bL (fun r' _=> ?_) fun e _=>rfl
  refine Eq.trans (vD (β:=Option S) (γ:=Unit) (a_ (au fun d f=>aW (i+d) f) (au fun d f=>aW (i+d) f) d t.kind 0 t.kids) (fun e he=>My jP jP he) [] (fun l=>eE (aL (au fun d f=>aW (i+d) f) (au fun d f=>aW (i+d) f) d t.kind t.sys) (fun s=>ret (.mk t.kind t.n t.name r' l s,0)) fun e=>ret (aJ,e)) fun e=>ret (aJ,e)) ?_
  simp only [aU,aO]
end Go.Proofs.YtapmagaejigpnaaGreatDoor
namespace Go.Proofs.YtapmagaejigpnaaGreatDoor
open Go PI
set_option linter.unusedVariables false
set_option linter.unusedSimpArgs false
set_option maxRecDepth 20000
variable {S:Type} {k:Nat}
def tK (i:Int):Int→List Cl→List Cl:=fun d f=>aW (i+d) f
def bN (i:Int) (r:List Cl) (fa:Bool):dq:=cA (aQ i r fa) (tK i)
theorem qm (i:Int) (r:List Cl) (fa:Bool) (d:Int) (f:List Cl):bN i r fa d f=bE (aQ i r fa d f) fun m=> .ok (aW (i+d) m):=rfl
theorem mB {i:Int} {r:List Cl} {fa:Bool}: ∀d f e,bN i r fa d f= .error e→0<e∧e≤1000:=fun d f e h=>by
 rw [qm] at h
 rcases bv h with h|⟨_,_,h⟩
 ·exact wm h
 ·cases h
section
variable {hd:Tm→Int→List Cl→Int→Bool→(Tm→Option S)→Option S} {i d:Int} {r:List Cl} {t:Tm}
theorem Wl (hk:Fu k) (ret:Tm→Option S) (rec1:List (Br Tm)→Int→Option S) {v18:Int} {r3:List Cl} {ks:List Tm} {o:List (Br Tm)} {x:Br Tm} (hi:al t.sys v18=some x)
  (hd0:0≤d∧d<4611686018427386000) (hQ: ∀y∈x.kids,∀g,hd y i r (d+ar t.kind) true g=g (rE (aK (bN i r false) (bN i r true) (d+ar t.kind) y))) (hkd: ∀y∈x.kids,0≤y.kind) (hl:x.kids.length<1073741824) (ho:o.length<1073741824) {f'':List Cl}:
  ∀ (r' p:List Tm) (m:Nat) (acc:List Tm),x.kids=p++r'→r'.length<m→acc.length=p.length→
  iw hd k ret rec1 t r3 ks o i v18 r d true m f'' acc (p.length:Int)=eE (bg (bN i r false) (bN i r true) d t.kind r') (fun l=>rec1 (o++[Br.mk f'' (acc++l)]) (IntKind.wrap .i64 (v18+1))) fun e=>ret (bJ e):=by
 have hmo:=d4 t.kind
 intro r'
 induction r' with
 |nil=>
  intro p m acc h hm ha
  obtain ⟨m,rfl,hm'⟩:=ak hm
  simp only [iw,tt,hi,Option.bind_some,az h,ac,bg,aO,List.append_nil]
  rw [aV (by simp;omega)]
 |cons y r' ih=>
  intro p m acc h hm ha
  obtain ⟨m,rfl,hm'⟩:=ak hm
  obtain ⟨e1,e2,e3,e4⟩:=ay h (by omega)
  have hpl:p.length<x.kids.length:=by rw [h];simp
  have hym:y∈x.kids:=by rw [h];simp
  have hy:=hQ y hym
  simp only [iw,tt,hi,e1,ad,e2,Option.bind_some,ah hk,Bx,aI,bm (n:=d+ar t.kind) (by omega) (by omega),hy]
  refine Eq.trans (rn (fun e he=>(gW mB mB y he).1) (fun z hz=>by rw [C6 hz];exact hkd y hym) (fun z=>Option.bind (ax 1099511627776 acc.length [z].length) fun _=>iw hd k ret rec1 t r3 ks o i v18 r d true m f'' (acc++[z]) (IntKind.wrap .i64 ((p.length:Int)+1))) ret) ?_
  simp only [bg,aU,aO]
  refine bL (fun t' ht'=> ?_) fun e _=>rfl
  rw [aV (by simp;omega),e3,ih (p++[y]) m (acc++[t']) e4 hm' (by simp;omega)]
  simp
theorem Wj (hk:Fu k) (ret:Tm→Option S) (hi:0≤i∧i<24) (hr:RF r) {r3:List Cl} {ks:List Tm} (ht:OkT t) (hro:RowsT t) (hd0:0≤d∧d<4611686018427386000)
  (hQ: ∀b∈t.sys,∀y∈b.kids,∀g,hd y i r (d+ar t.kind) true g=g (rE (aK (bN i r false) (bN i r true) (d+ar t.kind) y))):
  ∀ (r' p:List (Br Tm)) (m:Nat) (o:List (Br Tm)),t.sys=p++r'→r'.length<m→o.length≤p.length→
  fT hd k ret t r3 ks i r d true m o (p.length:Int)=eE (aL (bN i r false) (bN i r true) d t.kind r') (fun l=>ret (.mk t.kind t.n t.name r3 ks (o++l))) fun e=>ret (bJ e):=by
 obtain ⟨o1,o2,o3,o4,o5,o6,o7⟩:=ht.no
 intro r'
 induction r' with
 |nil=>
  intro p m o h hml ho
  obtain ⟨m,rfl,hm'⟩:=ak hml
  simp only [fT,o8,az h,ac,aL,aO,List.append_nil]
 |cons x r' ih=>
  intro p m o h hml ho
  obtain ⟨m,rfl,hm'⟩:=ak hml
  obtain ⟨e1,e2,e3,e4⟩:=ay h (by omega)
  have hx:x∈t.sys:=by rw [h];simp
  have hpl:p.length<t.sys.length:=by rw [h];simp
  have hb:=(ht.bi hx).1
  have hr0:=(hro.bi hx).1
  have hM:=fun f'':List Cl=>Wl (f'':=f'') (r3:=r3) (ks:=ks) (o:=o) hk ret (fT hd k ret t r3 ks i r d true m) e2 hd0 (hQ x hx) (fun y hy=>((hro.bi hx).2 y hy).no.2.2) hb.2.2 (by omega) x.kids [] k [] rfl (by have:4294967296≤k:=hk;omega) rfl
  have hM: ∀f'':List Cl,iw hd k ret (fT hd k ret t r3 ks i r d true m) t r3 ks o i (p.length:Int) r d true k f'' [] 0=_:=hM
  simp only [fT,o8,e1,ad,e2,Option.bind_some,ah hk,J8 hk hr0 hr hi (show 0≤d∧d<4611686018427387000 by omega),bm (n:=i+d) (by omega) (by omega),hM,e3,List.nil_append]
  rw [aL,wL,aU,aU,qm,aU,←lL]
  have hz:=lL i r true d x.face
  by_cases h0:(dl i r true d x.face).2=0
  ·have hrf:RF (dl i r true d x.face).1:=nT hr0 (hz.symm.trans (eY h0))
   rw [aY,decide_eq_true h0,Bool.not_true,ac,eY h0,aO,aO,ny,aG,JP hk hrf]
   have hlen:=Dx (j:=i+d) hrf
   by_cases hl:(dl i r true d x.face).1.length=0
   ·rw [if_pos hl,if_pos (hlen.2 hl),aO,aU,ih (p++[x]) m o e4 hm' (by simp;omega)]
    exact bL (fun _ _=>rfl) fun _ _=>rfl
   ·rw [if_neg hl,if_neg (fun h=>hl (hlen.1 h)),aU]
    refine bL (fun l _=> ?_) fun e _=>rfl
    rw [aO,aU,ih (p++[x]) m (o++[Br.mk (aW (i+d) (dl i r true d x.face).1) l]) e4 hm' (by simp;omega)]
    refine bL (fun s _=> ?_) fun e _=>rfl
    rw [aO];simp
  ·have hze:ce (dl i r true d x.face)= .error (dl i r true d x.face).2:=d8 h0
   have hen:=wm (hz.symm.trans hze)
   rw [aY,decide_eq_false h0,Bool.not_false,ad,hze,iO hen];rfl
theorem Wi (hk:Fu k) (ret:Tm→Option S) (hi:0≤i∧i<24) (hr:RF r) {r3:List Cl} (ht:OkT t) (hro:RowsT t) (hd0:0≤d∧d<4611686018427386000)
  (hQ: ∀y∈t.kids,∀b,0≤b∧b≤1→ ∀g,hd y i r (d+b) true g=g (rE (aK (bN i r false) (bN i r true) (d+b) y))) (hQ': ∀b∈t.sys,∀y∈b.kids,∀g,hd y i r (d+ar t.kind) true g=g (rE (aK (bN i r false) (bN i r true) (d+ar t.kind) y))):
  ∀ (r' p:List Tm) (m:Nat) (acc:List Tm),t.kids=p++r'→r'.length<m→acc.length=p.length→
  jM hd k ret t i r d true m r3 acc (p.length:Int)=eE (a_ (bN i r false) (bN i r true) d t.kind p.length r') (fun l=>eE (aL (bN i r false) (bN i r true) d t.kind t.sys) (fun s=>ret (.mk t.kind t.n t.name r3 (acc++l) s)) fun e=>ret (bJ e)) fun e=>ret (bJ e):=by
 obtain ⟨o1,o2,o3,o4,o5,o6,o7⟩:=ht.no
 intro r'
 induction r' with
 |nil=>
  intro p m acc h hm ha
  obtain ⟨m,rfl,hm'⟩:=ak hm
  have hs:fT hd k ret t r3 acc i r d true k [] 0=_:=Wj hk ret hi hr ht hro hd0 hQ' t.sys [] k [] rfl (by have:4294967296≤k:=hk;omega) (Nat.le_refl _)
  simp only [jM,o0,az h,ac,a_,aO,List.append_nil,hs,List.nil_append]
 |cons y r' ih=>
  intro p m acc h hm ha
  obtain ⟨m,rfl,hm'⟩:=ak hm
  obtain ⟨e1,e2,e3,e4⟩:=ay h (by omega)
  have hpl:p.length<t.kids.length:=by rw [h];simp
  have b2':=i_ t.kind p.length
  have hym:y∈t.kids:=by rw [h];simp
  have hy:=hQ y hym (bM t.kind p.length) b2'
  simp only [jM,o0,e1,ad,e2,Option.bind_some,ah hk,Bu hk,aI,bm (n:=d+bM t.kind p.length) (by omega) (by omega),hy]
  refine Eq.trans (rn (fun e he=>(gW mB mB y he).1) (fun z hz=>by rw [C6 hz];exact (hro.ki hym).no.2.2) (fun z=>Option.bind (ax 1099511627776 acc.length [z].length) fun _=>jM hd k ret t i r d true m r3 (acc++[z]) (IntKind.wrap .i64 ((p.length:Int)+1))) ret) ?_
  simp only [a_,aU,aO]
  refine bL (fun t' ht'=> ?_) fun e _=>rfl
  rw [aV (by simp;omega),e3,ih (p++[y]) m (acc++[t']) e4 hm' (by simp;omega),show (p++[y]).length=p.length+1 by simp]
  simp
end
theorem Zu {i:Int} {r:List Cl} (hi:0≤i∧i<24) (hr:RF r) (t:Tm):OkT t→RowsT t→ ∀ {k:Nat} {d:Int} (ret:Tm→Option S),Fd k (av t)→0≤d→d+av t<4611686018427386000→eI k t i r d true ret=ret (rE (aK (bN i r false) (bN i r true) d t)):=by
 induction t using eB with
 |h t ih1 ih2=>
  intro ht hro k d ret hk hv hv'
  obtain ⟨q,rfl,hq,hf⟩:=hk.pos' (cZ t)
  have hp:=cZ t
  have hd0:0≤d∧d<4611686018427386000:=by omega
  obtain ⟨o1,o2,o3,o4,o5,o6,o7⟩:=ht.no
  have hmo:=d4 t.kind
  have hr0:=hro.no.1
  have hQ: ∀y∈t.kids,∀b,0≤b∧b≤1→ ∀g:Tm→Option S,eI q y i r (d+b) true g=g (rE (aK (bN i r false) (bN i r true) (d+b) y)):=fun y hy b h2 g=>
   ih1 y hy (ht.ki hy) (hro.ki hy) g (hf _ (cY hy)) (by omega) (by have:=cY hy;omega)
  have hQ': ∀b∈t.sys,∀y∈b.kids,∀g:Tm→Option S,eI q y i r (d+ar t.kind) true g=g (rE (aK (bN i r false) (bN i r true) (d+ar t.kind) y)):=fun b hb y hy g=>
   ih2 b hb y hy ((ht.bi hb).2 y hy) ((hro.bi hb).2 y hy) g (hf _ (cX hb hy)) (by omega) (by have:=cX hb hy;omega)
  have h1:=fun r3:List Cl=>Wi (r3:=r3) hq ret hi hr ht hro hd0 hQ hQ' t.kids [] q [] rfl (by have:4294967296≤q:=hq;omega) rfl
  have h1: ∀r3:List Cl,jM (eI q) q ret t i r d true q r3 [] 0=_:=h1
  simp only [eI,CJ,ah hq,J8 hq hr0 hr hi (show 0≤d∧d<4611686018427387000 by omega),bm (n:=i+d) (by omega) (by omega),ad,h1,List.nil_append,List.length_nil]
  have hfa: ∀fa:Bool,(if t.kind=14 then bN i r true d t.r else bN i r false d t.r)=bN i r (t.kind==14) d t.r:=fun _=>by
   by_cases h:t.kind=14
   ·rw [if_pos h,h];rfl
   ·rw [if_neg h,show (t.kind==14)=false from by rw [beq_eq_false_iff_ne];exact h]
  rw [iL _ ret,wM,hfa true,qm,aU,aU,←lL]
  have hz:=lL i r (t.kind==14) d t.r
  by_cases h0:(dl i r (t.kind==14) d t.r).2=0
  ·have hrf:RF (dl i r (t.kind==14) d t.r).1:=nT hr0 (hz.symm.trans (eY h0))
   rw [aY,decide_eq_true h0,Bool.not_true,ac,eY h0,aO,aO,JP hq hrf]
   simp only [aU,aO]
  ·have hze:ce (dl i r (t.kind==14) d t.r)= .error (dl i r (t.kind==14) d t.r).2:=d8 h0
   have hen:=wm (hz.symm.trans hze)
   rw [aY,decide_eq_false h0,Bool.not_false,ad,hze,iO hen];rfl
def j5 (i:Int) (r:List Cl) (t:Tm):Except Int Tm:=bE (ce (aZ r i 1)) fun s=>aK (bN i s false) (bN i s true) 0 t
theorem aax {i:Int} {r:List Cl} {t:Tm} {e:Int} (h:j5 i r t= .error e):0<e∧e≤1000:=by
 rcases bv h with h|⟨s,_,h⟩
 ·obtain ⟨h1,rfl⟩:=rW h
  have:=nA r i 1
  unfold EN at this;omega
 ·exact gW mB mB t h
theorem aay {i:Int} {r:List Cl} {t y:Tm} (h:j5 i r t= .ok y):y.kind=t.kind:=by
 obtain ⟨s,_,h⟩:=bj h
 exact C6 h
theorem YX (hk:F3 k) {t:Tm} (ht:Fm t) {i:Int} (hi:0≤i∧i<24) {r:List Cl} (hr:RF r) (ret:Tm×Int→Option S):pr k t i r ret=ret (tE (j5 i r t)):=by
 have l2:=hr.len
 have hdp:=ht.dep
 simp only [pr,KN,ah hk.fu,aI,yx,KX,rH ht.ok (ht.fd hk) (show av t<1099511627776 by omega),ht.2,Y5 hk.fu,nX hk.fu hr.2 hr.lt,hr.right,decide_eq_true hi,rM hk.fu hr.2 (show r.length<1073741824 by omega) (show aD i by unfold aD;omega) (show aD 1 by unfold aD;omega),yo,KQ,yp,KT,yq,KU,yn,KP]
 rw [show ((0:Int)==0)=true from rfl,Bool.not_true,ac,ac,ac,ac]
 rw [iM _ ret]
 unfold j5
 rw [aU]
 by_cases h0:(aZ r i 1).2=0
 ·have hs:=fX h0
  rw [aY,decide_eq_true h0,Bool.not_true,ac,eY h0,aO,XZ hi hs t ht.ok ht.rows _ (ht.fd hk) (by omega) (by omega)]
  refine Eq.trans (rT (α:=Option S) (β:=Unit) _ (fun e he=>gW gQ gQ t he) (fun x=>dt k x 0 i fun r6=>ret (r6.1,r6.2)) fun e=>ret (aJ,e)) ?_
  have htw:=aa5 (fo:=aQ i (aZ r i 1).1 false) (fa:=aQ i (aZ r i 1).1 true) (G:=tK i) (fun d f g hf h=>nT hf h) (fun d f hf=>Dx hf) t 0 ht.rows
  show _=eE (aK (cA (aQ i (aZ r i 1).1 false) (tK i)) (cA (aQ i (aZ r i 1).1 true) (tK i)) 0 t) _ _
  rw [←htw,aU]
  refine bL (fun x hx=> ?_) fun e _=>rfl
  have hw:=MB (fun d f g hf h=>nT hf h) (fun d f g hf h=>nT hf h) (fun d=>Jn) t 0 x hx
  obtain ⟨w1,w2,w3,w4⟩:=hw
  obtain ⟨hox,hrx⟩:=w4 ht.ok ht.rows
  rw [RM hi x hox hrx _ (hk.fd (by omega)) (by omega) (by omega)]
  exact iM _ ret
 ·rw [aY,decide_eq_false h0,Bool.not_false,ad,d8 h0];rfl
theorem YL (hk:F3 k) {t:Tm} (ht:Fm t) {i:Int} (hi:0≤i∧i<24) {r:List Cl} (hr:RF r) (ret:Tm→Option S):pS k t i r ret=ret (rE (j5 i r t)):=by
 have l2:=hr.len
 have hdp:=ht.dep
 simp only [pS,LZ,ah hk.fu,aI,ws hk.fu hr.2 (show r.length<1073741824 by omega) (show aD i by unfold aD;omega) (show aD 1 by unfold aD;omega)]
 rw [decide_eq_false (by have:=ht.rows.no.2.2;omega),ac,iL _ ret]
 unfold j5
 rw [aU]
 by_cases h0:(aZ r i 1).2=0
 ·have hs:=fX h0
  rw [aY,decide_eq_true h0,Bool.not_true,ac,eY h0,aO,Zu hi hs t ht.ok ht.rows _ (ht.fd hk) (by omega) (by omega),iL _ ret]
 ·have hze:ce (aZ r i 1)= .error (aZ r i 1).2:=d8 h0
  have hen:0<(aZ r i 1).2∧(aZ r i 1).2≤1000:=by
   have:=nA r i 1
   unfold EN at this;omega
  rw [aY,decide_eq_false h0,Bool.not_false,ad,hze,iO hen];rfl
end Go.Proofs.YtapmagaejigpnaaGreatDoor
namespace Go.Proofs.YtapmagaejigpnaaGreatDoor
open Go PI
set_option linter.unusedVariables false
set_option linter.unusedSimpArgs false
set_option maxRecDepth 20000
variable {S:Type} {k:Nat}
def In (k:Nat) (t:Tm):Prop:=OkT t∧Fd k (av t)∧aF t<1073741824
theorem In.dep {t:Tm} (h:In k t):av t<1099511627776:=by have:=uJ t;have:=h.2.2;omega
theorem Fm.isIn {t:Tm} (h:Fm t) (hk:F3 k):In k t:=⟨h.ok,h.fd hk,by have:=h.siz;omega⟩
def dm:List Tm→Int
 |[]=>0
 |t::l=>if cH t=0 then dm l else cH t
theorem wC {l:List Tm} (hl: ∀t∈l,OkT t) (h:dm l=0): ∀t∈l,Fm t:=by
 induction l with
 |nil=>intro t h;cases h
 |cons x l ih=>
  intro t ht
  unfold dm at h
  split at h
  ·next h0=>
   rcases List.mem_cons.1 ht with rfl|ht
   ·exact ⟨hl _ (by simp),h0⟩
   ·exact ih (fun t ht=>hl t (by simp [ht])) h t ht
  ·next h0=>exact absurd h h0
theorem abY (l:List Tm):0≤dm l∧dm l≤1000:=by
 induction l with
 |nil=>unfold dm;omega
 |cons x l ih=>
  unfold dm
  split
  ·exact ih
  ·exact Eu x
theorem lE (c e:Int) (ret:Int→Option S):fH k e c ret=ret (if c=0 then e else c):=by
 simp only [fH,KE,aY,aG]
 split<;>rfl
theorem Va (hk:Fu k) (ret:Int→Option S) {l:List Tm} (hl: ∀t∈l,In k t) (hlen:l.length<1000):
  ∀ (r p:List Tm) (m:Nat) (b:Int),l=p++r→r.length<m→mE k ret l m b (p.length:Int)=ret (if b=0 then dm r else b):=by
 intro r
 induction r with
 |nil=>
  intro p m b h hm
  obtain ⟨m,rfl,hm'⟩:=ak hm
  simp only [mE,si,az h,ac,dm]
  split
  ·next h=>rw [h]
  ·rfl
 |cons x r ih=>
  intro p m b h hm
  obtain ⟨m,rfl,hm'⟩:=ak hm
  obtain ⟨e1,e2,e3,e4⟩:=ay h (by omega)
  have hx:=hl x (by rw [h];simp)
  simp only [mE,si,e1,ad,e2,Option.bind_some,ah hk,aI,rH hx.1 hx.2.1 hx.dep,lE,e3,ih (p++[x]) m _ e4 hm',dm]
  congr 1
  have:=Eu x
  by_cases hb:b=0
  ·rw [if_pos hb,if_pos hb]
  ·rw [if_neg hb,if_neg hb,if_neg hb]
theorem Y1 (hk:F3 k) {l:List Tm} (hl: ∀t∈l,In k t) (hlen:l.length<1000) (ret:Int→Option S):pn k l ret=ret (dm l):=by
 simp only [pn,BF]
 have:=Va hk.fu ret hl hlen l [] k 0 rfl (by have:4294968296≤k:=hk;omega)
 exact this
theorem Wr (hk:Fu k) (ret:Int→Option S) {l:List Tm} (hl: ∀t∈l,In k t) (hlen:l.length<1000):
  ∀ (r p:List Tm) (m:Nat),l=p++r→r.length<m→nj k ret l m (p.length:Int)=ret (dm r):=by
 intro r
 induction r with
 |nil=>
  intro p m h hm
  obtain ⟨m,rfl,hm'⟩:=ak hm
  simp only [nj,tv,az h,ac,dm]
 |cons x r ih=>
  intro p m h hm
  obtain ⟨m,rfl,hm'⟩:=ak hm
  obtain ⟨e1,e2,e3,e4⟩:=ay h (by omega)
  have hx:=hl x (by rw [h];simp)
  simp only [nj,tv,e1,ad,e2,Option.bind_some,ah hk,aI,Bw hx.1 hx.2.1 (show aF x<1099511627776 by have:=hx.2.2;omega),e3,ih (p++[x]) m e4 hm',dm,aY]
  by_cases h0:cH x=0
  ·rw [decide_eq_true h0,if_pos h0,Bool.not_true,ac]
  ·rw [decide_eq_false h0,if_neg h0,Bool.not_false,ad]
theorem JK (hk:F3 k) {l:List Tm} (hl: ∀t∈l,In k t) (hlen:l.length<1000) (ret:Int→Option S):pY k l ret=ret (dm l):=by
 simp only [pY,CN]
 exact Wr hk.fu ret hl hlen l [] k rfl (by have:4294968296≤k:=hk;omega)
def fG (r:List Cl) (line:Tm):Except Int Tm:=bE (bo 0 2 0 1 line) (j5 0 r)
theorem sg {r:List Cl} {t:Tm} {e:Int} (h:fG r t= .error e):0<e∧e≤1000:=by
 rcases bv h with h|⟨s,_,h⟩
 ·exact iz t h
 ·exact aax h
theorem Q_ {r:List Cl} {t y:Tm} (h:fG r t= .ok y):y.kind=t.kind:=by
 obtain ⟨s,h1,h⟩:=bj h
 rw [aay h,li h1]
theorem Er {i:Int} {r:List Cl} {fa:Bool} {d:Int} {f g:List Cl} (hf:RF f) (h:bN i r fa d f= .ok g):RF g:=by
 rw [qm] at h
 obtain ⟨m,h1,h⟩:=bj h
 injection h with h;subst h
 exact Ry (nT hf h1).len
theorem TS {i:Int} {r:List Cl} {fa:Bool} (d:Int):bN i r fa d []= .ok []:=by
 rw [qm,Jn,aw];rfl
theorem aaz {i:Int} {r:List Cl} {t y:Tm} (h:j5 i r t= .ok y):Wk t y:=by
 obtain ⟨s,_,h⟩:=bj h
 exact MB (fun d f g hf h=>Er hf h) (fun d f g hf h=>Er hf h) TS t 0 y h
theorem Ra {r:List Cl} {t y:Tm} (ht:Fm t) (h:fG r t= .ok y):OkT y∧RowsT y∧av y≤200∧aF y≤20000:=by
 obtain ⟨s,h1,h⟩:=bj h
 have hs:=lg (by omega) ht h1
 obtain ⟨w1,w2,w3,w4⟩:=aaz h
 have h4:=w4 hs.ok hs.rows
 have:=hs.dep;have:=hs.siz
 exact ⟨h4.1,h4.2,by omega,by omega⟩
section
variable {c:Int}
theorem ZQ (hc:c≠0) (hk:F3 k) (f:List Cl) (ret:List Cl×Int→Option S):g_ k f c ret=ret ([],c):=by
 simp only [g_,BJ,ah hk.fu,df,gg,aY,decide_eq_false hc,Bool.not_false,ad]
theorem JZ (hc:c≠0) (hk:F3 k) (f g:List Cl) (ret:List Cl×Int→Option S):jb k f g c ret=ret ([],c):=by
 simp only [jb,BI,ah hk.fu,df,gg,aY,decide_eq_false hc,Bool.not_false,ad]
theorem Bm (hc:c≠0) (hk:F3 k) (l:Tm) (r:List Cl) (ret:Tm×Int→Option S):g9 k l r c ret=ret (aJ,c):=by
 simp only [g9,BG,ah hk.fu,df,gg,aY,decide_eq_false hc,Bool.not_false,ad];rfl
theorem wx (hc:c≠0) (hk:F3 k) (l:Tm) (a b:Int) (ret:Tm×Int→Option S):d_ k l a b c ret=ret (aJ,c):=by
 simp only [d_,BL,ah hk.fu,df,gg,aY,decide_eq_false hc,Bool.not_false,ad];rfl
theorem rL (hc:c≠0) (hk:F3 k) (l:Tm) (ret:Tm×Int×Int→Option S):fe k l c ret=ret (aJ,c,c):=by
 simp only [fe,BH,ah hk.fu,df,gg,aY,decide_eq_false hc,Bool.not_false,ad,ac];rfl
end
theorem ZP (hk:F3 k) {f:List Cl} (hf:am f) (hl:f.length<1073741824) (ret:List Cl×Int→Option S):g_ k f 0 ret=ret (aZ f 0 1):=by
 simp only [g_,BJ,ah hk.fu,df,gg,rM hk.fu hf hl (show aD 0 by unfold aD;omega) (show aD 1 by unfold aD;omega),lE,if_true]
 rfl
theorem Zp (hk:F3 k) {f g:List Cl} (hf:am f) (hg:am g) (h1:f.length<1073741824) (h2:g.length<1073741824) (ret:List Cl×Int→Option S):jb k f g 0 ret=ret (dI f g):=by
 simp only [jb,BI,ah hk.fu,df,gg,Y_ hk.fu hf hg h1 h2,lE,if_true]
 rfl
theorem ZV (hk:F3 k) {t:Tm} (ht:Fm t) {a b:Int} (ha:0≤a∧a≤1000000) (hb:0≤b∧b<9223372036854775808) (ret:Tm×Int→Option S):d_ k t a b 0 ret=ret (tE (eZ a b t)):=by
 simp only [d_,BL,ah hk.fu,df,gg,aI,Zi hk ht ha hb,lE,if_true]
 rfl
theorem Y0 (hk:F3 k) {t:Tm} (ht:Fm t) {r:List Cl} (hr:RF r) (ret:Tm×Int→Option S):g9 k t r 0 ret=ret (tE (fG r t)):=by
 simp only [g9,BG,ah hk.fu,df,gg,aI,Zj hk ht (show (0:Int)≤1∧(1:Int)≤24 by omega) (show (0:Int)≤2∧(2:Int)<9223372036854775808 by omega),lE,if_true]
 rw [show ((0:Int)==0)=true from rfl,Bool.not_true,ac,iM _ ret]
 unfold fG
 rw [aU]
 cases hx:bo 0 2 0 1 t with
 |error e=>
  have:=iz t hx
  show ab (!(e==0)) (ret (aJ,e)) _=_
  rw [aY,decide_eq_false (by omega),Bool.not_false,ad];rfl
 |ok y=>
  have hy:=lg (by omega) ht hx
  show ab (!((0:Int)==0)) _ (pr k y 0 r fun r5=>ret (r5.1,if (0:Int)=0 then r5.2 else 0))=_
  rw [show ((0:Int)==0)=true from rfl,Bool.not_true,ac,YX hk hy (by omega) hr,aO]
  exact iM _ ret
theorem Y7 (hk:F3 k) {t:Tm} (ht:In k t) (ret:Tm×Int×Int→Option S):fe k t 0 ret=ret (if cH t=0 then (t,0,0) else (aJ,cH t,cH t)):=by
 simp only [fe,BH,ah hk.fu,df,gg,aI,rH ht.1 ht.2.1 ht.dep,lE,if_true]
 rw [show ((0:Int)==0)=true from rfl,ad,aY]
 by_cases h0:cH t=0
 ·rw [decide_eq_true h0,if_pos h0,Bool.not_true,ac,h0]
 ·rw [decide_eq_false h0,if_neg h0,Bool.not_false,ad];rfl
def g5 (line:Tm) (phi:List Cl) (a:Tm) (en:Cl) (r:List Cl):Except Int Tm:=
 bE (ce (aZ phi 0 1)) fun f1=>bE (ce (dI f1 [en])) fun f=>bE (fG r line) fun l=>bE (eZ 0 1 a) fun a'=> .ok (.mk 14 0 ByteArray.empty f [l,a'] [])
def qb (x:Except Int Tm):Except Int Tm:=bE x fun t=>if cH t=0 then .ok t else .error (cH t)
def gh (line:Tm) (phi:List Cl) (a:Tm) (en:Cl) (r:List Cl):Except Int Tm:=
 if dm [line,a]=0 then if be phi then qb (g5 line phi a en r) else .error 2 else .error (dm [line,a])
theorem EQ (f g:List Cl):EN (dI f g).2:=by
 unfold dI
 split
 ·exact vd _ _
 ·exact h_
theorem Ui {f g:List Cl} (hf:am f) (hg:am g) (h:(dI f g).2=0):RFa (dI f g).1:=by
 unfold dI at h ⊢
 split
 ·next hc=>
  rw [if_pos hc] at h
  rw [Bool.and_eq_true] at hc
  exact qw ((fm hf).1 hc.1) ((fm hg).1 hc.2) h
 ·next hc=>rw [if_neg hc] at h;exact absurd h (by decide)
theorem wJ {z:List Cl×Int} (hz:EN z.2) {e:Int} (h:ce z= .error e):0<e∧e≤1000:=by
 obtain ⟨h1,rfl⟩:=rW h
 unfold EN at hz;omega
theorem Dd {line:Tm} {phi:List Cl} {a:Tm} {en:Cl} {r:List Cl} {e:Int} (h:g5 line phi a en r= .error e):0<e∧e≤1000:=by
 rcases bv h with h|⟨_,_,h⟩
 ·exact wJ (nA _ _ _) h
 rcases bv h with h|⟨_,_,h⟩
 ·exact wJ (EQ _ _) h
 rcases bv h with h|⟨_,_,h⟩
 ·exact sg h
 rcases bv h with h|⟨_,_,h⟩
 ·exact wK h
 ·cases h
theorem sc (hk:F3 k) {line:Tm} {phi:List Cl} {a:Tm} {en:Cl} {r:List Cl} (hl:Fm line) (ha:Fm a) (hp:RF phi) (he:aH en) {t:Tm} (h:g5 line phi a en r= .ok t):In k t∧t.kind=14:=by
 obtain ⟨f1,h1,h⟩:=bj h
 obtain ⟨f,h2,h⟩:=bj h
 obtain ⟨l,h3,h⟩:=bj h
 obtain ⟨a',h4,h⟩:=bj h
 injection h with h;subst h
 obtain ⟨g1,rfl⟩:=lK h1
 obtain ⟨g2,rfl⟩:=lK h2
 have hf1:=fX g1
 have hf:=(Ui hf1.2 (fun c hc=>by simp at hc;subst hc;exact he) g2).1
 obtain ⟨l1,l2,l3,l4⟩:=Ra hl h3
 have ha':=aaN (by omega) ha h4
 have:=hf.len;have:=ha'.dep;have:=ha'.siz
 refine ⟨⟨?_,hk.fd ?_, ?_⟩,rfl⟩
 ·rw [OkT,b_,b_,b_,bW]
  refine ⟨⟨by unfold aD;omega,by unfold aD;omega,by show 0<_;omega,hf.2,by omega,by simp,by simp⟩,⟨l1,ha'.ok,trivial⟩,trivial⟩
 ·rw [av,bk,bk,bk,bK];omega
 ·rw [aF,aR,aR,aR,a8];omega
theorem JM (hk:F3 k) {line a:Tm} {phi r:List Cl} {en:Cl} (hl:In k line) (ha:In k a) (hp:am phi) (hpl:phi.length<1073741824) (he:aH en) (hr:RF r) (ret:Tm×Int→Option S):pm k line phi a en r ret=ret (tE (gh line phi a en r)):=by
 have hin: ∀t∈[line,a],In k t:=fun t ht=>by
  simp at ht
  rcases ht with rfl|rfl
  ·exact hl
  ·exact ha
 have hen:am [en]:=fun c hc=>by simp at hc;subst hc;exact he
 have bad: ∀c:Int,c≠0→(g_ k phi c fun r4=>jb k r4.1 [en] r4.2 fun r5=>g9 k line r r5.2 fun r6=>d_ k a 0 1 r6.2 fun r7=>
   bX k 14 [r6.1,r7.1] fun r8=>fe k (Tm.mk r8.1 r8.2.1 r8.2.2.1 r5.1 r8.2.2.2 []) r7.2 fun r9=>ret (r9.1,r9.2.1))=ret (aJ,c):=by
  intro c hc
  simp only [ZQ hc hk,JZ hc hk,Bm hc hk,wx hc hk,bX,lJ,rL hc hk]
 simp only [pm,KD,ah hk.fu,aI,Y1 hk hin (by simp),rN hk.fu hp (show phi.length<2147483648 by omega),lE]
 unfold gh
 by_cases h0:dm [line,a]=0
 ·simp only [h0,if_true]
  have hfm:=wC (fun t ht=>(hin t ht).1) h0
  have hl':=hfm line (by simp)
  have ha':=hfm a (by simp)
  cases hph:be phi with
  |false=>
   rw [Bool.not_false,ad,if_neg (show ¬ (false=true) by decide)]
   exact bad 2 (by decide)
  |true=>
   have hrf:=(fm hp).1 hph
   rw [Bool.not_true,ac,if_pos (show true=true from rfl),ZP hk hp hpl,iM _ ret]
   unfold qb
   rw [aU]
   have hal: ∀t,g5 line phi a en r= .ok t→In k t:=fun t h=>(sc hk hl' ha' hrf.1 he h).1
   revert hal
   unfold g5
   intro hal
   by_cases h1:(aZ phi 0 1).2=0
   ·have hf1:=fX h1
    have hlen1:=hf1.len
    rw [eY h1,aw] at hal ⊢
    rw [h1,Zp hk hf1.2 hen (by omega) (by simp)]
    by_cases h2:(dI (aZ phi 0 1).1 [en]).2=0
    ·rw [eY h2,aw] at hal ⊢
     rw [h2,Y0 hk hl' hr]
     cases h3:fG r line with
     |error e=>
      have hc:=(sg h3).1
      show d_ k a 0 1 e _=ret (aJ,e)
      simp only [wx (show e≠0 by omega) hk,bX,lJ,rL (show e≠0 by omega) hk]
     |ok l=>
      rw [h3,aw] at hal
      show d_ k a 0 1 0 _=_
      rw [ZV hk ha' (by omega) (by omega),aw]
      cases h4:eZ 0 1 a with
      |error e=>
       have hc:=(wK h4).1
       show bX k 14 _ _=ret (aJ,e)
       simp only [bX,lJ]
       show fe k _ e _=_
       simp only [rL (show e≠0 by omega) hk]
      |ok a'=>
       rw [h4,aw] at hal
       show bX k 14 _ _=_
       simp only [bX,lJ]
       show fe k (Tm.mk 14 0 ByteArray.empty (dI (aZ phi 0 1).1 [en]).1 [l,a'] []) 0 _=_
       rw [Y7 hk (hal _ rfl),aw,aO]
       by_cases h5:cH (Tm.mk 14 0 ByteArray.empty (dI (aZ phi 0 1).1 [en]).1 [l,a'] [])=0
       ·rw [if_pos h5,if_pos h5];rfl
       ·rw [if_neg h5,if_neg h5];rfl
    ·rw [d8 h2]
     show _=ret (aJ,(dI (aZ phi 0 1).1 [en]).2)
     simp only [Bm h2 hk,wx h2 hk,bX,lJ,rL h2 hk]
   ·rw [d8 h1]
    show _=ret (aJ,(aZ phi 0 1).2)
    simp only [JZ h1 hk,Bm h1 hk,wx h1 hk,bX,lJ,rL h1 hk]
 ·simp only [if_neg h0]
  cases be phi with
  |false=>rw [Bool.not_false,ad];exact bad _ h0
  |true=>rw [Bool.not_true,ac];exact bad _ h0
theorem YQ (hk:F3 k) {t:Tm} (ht:Fm t) {r:List Cl} (hr:RF r) (ret:Tm→Option S):pX k t r ret=ret (rE (fG r t)):=by
 simp only [pX,L6,ah hk.fu,aI,Zs hk ht (show (0:Int)≤1∧(1:Int)≤24 by omega) (show (0:Int)≤2∧(2:Int)<9223372036854775808 by omega)]
 rw [decide_eq_false (by have:=ht.rows.no.2.2;omega),ac,iL _ ret]
 unfold fG
 rw [aU]
 cases hx:bo 0 2 0 1 t with
 |error e=>
  have:=iz t hx
  show ab (!(e==0)) (dN k e _) _=ret (bJ e)
  rw [aY,decide_eq_false (by omega),Bool.not_false,ad,iO this];rfl
 |ok y=>
  have hy:=lg (by omega) ht hx
  show ab (!((0:Int)==0)) _ (pS k y 0 r fun r3=>ret r3)=_
  rw [show ((0:Int)==0)=true from rfl,Bool.not_true,ac,YL hk hy (by omega) hr,aO]
  exact iL _ ret
theorem U7 (hk:Fu k) (ret:Tm→Option S) {kd:Int} {l:List Tm} (hlen:l.length<1000):
  ∀ (r p:List Tm) (m:Nat),l=p++r→r.length<m→ni k ret kd l m (p.length:Int)=ret (match r.find? fun x=>decide (x.kind<0) with|some x=>x|none=> .mk kd 0 ByteArray.empty [] l []):=by
 intro r
 induction r with
 |nil=>
  intro p m h hm
  obtain ⟨m,rfl,hm'⟩:=ak hm
  simp only [ni,tu,az h,ac];rfl
 |cons x r ih=>
  intro p m h hm
  obtain ⟨m,rfl,hm'⟩:=ak hm
  obtain ⟨e1,e2,e3,e4⟩:=ay h (by omega)
  simp only [ni,tu,e1,ad,e2,Option.bind_some,aI,e3,ih (p++[x]) m e4 hm']
  rw [List.find?_cons]
  cases decide (x.kind<0) with
  |true=>rw [ad]
  |false=>rw [ac]
theorem YY (hk:F3 k) {kd:Int} {x y:Except Int Tm} (hx: ∀e,x= .error e→0<e) (hx': ∀t,x= .ok t→0≤t.kind) (hy: ∀e,y= .error e→0<e) (hy': ∀t,y= .ok t→0≤t.kind) (ret:Tm→Option S):
  mm k kd (rE x) (rE y) ret=ret (rE (bE x fun a=>bE y fun b=> .ok (.mk kd 0 ByteArray.empty [] [a,b] []))):=by
 simp only [mm,L8,ah hk.fu,aI,yH,CL]
 have:=U7 hk.fu ret (kd:=kd) (l:=[rE x,rE y]) (by simp) [rE x,rE y] [] k rfl (by have:4294968296≤k:=hk;simp;omega)
 refine Eq.trans this ?_
 congr 1
 rw [List.find?_cons,List.find?_cons]
 cases x with
 |error e=>rw [show rE (.error e)=bJ e from rfl,qz (hx e rfl)];rfl
 |ok a=>
  rw [show rE (.ok a)=a from rfl,decide_eq_false (by have:=hx' a rfl;omega),aw]
  cases y with
  |error e=>rw [show rE (.error e)=bJ e from rfl,qz (hy e rfl)];rfl
  |ok b=>rw [show rE (.ok b)=b from rfl,decide_eq_false (by have:=hy' b rfl;omega)];rfl
theorem aaO {a b:Int} {t y:Tm} (h:eZ a b t= .ok y):y.kind=t.kind:=by
 obtain ⟨s,h1,h⟩:=bj h
 rw [li h,li h1]
theorem JE (hk:F3 k) {line a:Tm} {phi r:List Cl} {en:Cl} (hl:Fm line) (ha:Fm a) (hp:RF phi) (he:aH en) (hr:RF r) (ret:Tm→Option S):pV k line phi a en r ret=ret (rE (g5 line phi a en r)):=by
 have hplen:=hp.len
 have hen:am [en]:=fun c hc=>by simp at hc;subst hc;exact he
 have htwo: ∀g:Tm→Option S,mm k 14 (rE (fG r line)) (rE (eZ 0 1 a)) g=_:=fun g=>YY hk (fun e h=>(sg h).1) (fun t h=>by rw [Q_ h];exact hl.rows.no.2.2) (fun e h=>(wK h).1) (fun t h=>by rw [aaO h];exact ha.rows.no.2.2) g
 simp only [pV,L3,ah hk.fu,aI,ws hk.fu hp.2 (show phi.length<1073741824 by omega) (show aD 0 by unfold aD;omega) (show aD 1 by unfold aD;omega),YQ hk hl hr,Zt hk ha (show (0:Int)≤0∧(0:Int)≤1000000000 by omega) (show (0:Int)≤1∧(1:Int)<9223372036854775808 by omega),htwo]
 rw [iL (g5 line phi a en r) ret]
 unfold g5
 rw [aU]
 by_cases h1:(aZ phi 0 1).2=0
 ·have hf1:=fX h1
  have hlen1:=hf1.len
  rw [aY,decide_eq_true h1,ad,eY h1,aO,Kb hk.fu hf1.2 hen (by omega) (by simp),aU]
  by_cases h2:(dI (aZ phi 0 1).1 [en]).2=0
  ·rw [aY,decide_eq_true h2,Bool.not_true,ac,eY h2,aO,aU]
   cases h3:fG r line with
   |error e=>rw [xW,show rE (.error e)=bJ e from rfl,show decide ((bJ e).kind≥0)=false from decide_eq_false (by have:=(sg h3).1;show ¬ (-e≥0);omega),ac];rfl
   |ok l=>
    rw [aw,aO,aU]
    cases h4:eZ 0 1 a with
    |error e=>rw [xW,show rE (.error e)=bJ e from rfl,show decide ((bJ e).kind≥0)=false from decide_eq_false (by have:=(wK h4).1;show ¬ (-e≥0);omega),ac];rfl
    |ok a'=>rfl
  ·rw [aY,decide_eq_false h2,Bool.not_false,ad,d8 h2,iO (wJ (EQ _ _) (d8 h2))];rfl
 ·rw [aY,decide_eq_false h1,ac,Bool.not_false,ad,d8 h1,iO (wJ (nA _ _ _) (d8 h1))];rfl
theorem JF (hk:F3 k) {x:Except Int Tm} (hx: ∀e,x= .error e→0<e∧e≤1000) (hx': ∀t,x= .ok t→In k t∧0≤t.kind) (ret:Tm×Int→Option S):pW k (rE x) ret=ret (tE (qb x)):=by
 simp only [pW,L5,ah hk.fu,aI]
 unfold qb
 cases x with
 |error e=>
  have he:=hx e rfl
  rw [show rE (.error e)=bJ e from rfl,qz he.1,ad,bm (show-9223372036854775808≤0-(bJ e).kind by show _≤0-(-e);omega) (by show 0-(-e)<_;omega)]
  show ret (aJ,0-(-e))=ret (aJ,e)
  rw [show (0:Int)-(-e)=e by omega]
 |ok t=>
  obtain ⟨hin,hkd⟩:=hx' t rfl
  rw [show rE (.ok t)=t from rfl,decide_eq_false (by omega),ac,Bw hin.1 hin.2.1 (by have:=hin.2.2;omega),aw,aY]
  by_cases h0:cH t=0
  ·rw [decide_eq_true h0,Bool.not_true,ac,if_pos h0];rfl
  ·rw [decide_eq_false h0,Bool.not_false,ad,if_neg h0];rfl
end Go.Proofs.YtapmagaejigpnaaGreatDoor
namespace Go.Proofs.YtapmagaejigpnaaGreatDoor
open Go PI
set_option maxRecDepth 100000
theorem aa7 {S:Type} (q:Nat) (ret:Bool→Option S):l_ (q+400) ret=ret true:=by kernel_rfl
end Go.Proofs.YtapmagaejigpnaaGreatDoor
namespace Go.Proofs.YtapmagaejigpnaaGreatDoor
open Go PI
set_option linter.unusedVariables false
set_option linter.unusedSimpArgs false
set_option maxRecDepth 20000
variable {S:Type} {k:Nat}
theorem ZW (hk:F3 k) (ret:Bool→Option S):l_ k ret=ret true:=by
 obtain ⟨q,rfl⟩: ∃q,k=q+400:=⟨k-400,by have:4294968296≤k:=hk;omega⟩
 exact aa7 q ret
theorem Jh:RF [⟨3,0⟩]:=gb ⟨⟨by decide,by decide⟩,by decide,by decide⟩
theorem Ji:RF [⟨0,1⟩,⟨2,0⟩]:=by
 refine ⟨by rfl,fun c hc=> ?_⟩
 simp only [List.mem_cons,List.not_mem_nil,or_false] at hc
 rcases hc with rfl|rfl
 ·exact ⟨⟨by decide,by decide⟩,by decide,by decide⟩
 ·exact ⟨⟨by decide,by decide⟩,by decide,by decide⟩
theorem vu:aH ⟨0,1⟩:=⟨⟨by decide,by decide⟩,by decide,by decide⟩
theorem vv:aH ⟨1,0⟩:=⟨⟨by decide,by decide⟩,by decide,by decide⟩
theorem En (x:Except Int Tm):((tE x).1,(tE x).2)=tE x:=by cases x<;>rfl
theorem YV (hk:F3 k) {line a:Tm} {phi:List Cl} (hl:In k line) (ha:In k a) (hp:am phi) (hpl:phi.length<1073741824) (ret:Tm×Int→Option S):pk k line phi a ret=ret (tE (gh line phi a ⟨0,1⟩ [⟨3,0⟩])):=by
 simp only [pk,KC,ah hk.fu,aI,JM hk hl ha hp hpl vu Jh]
theorem YM (hk:F3 k) {line a:Tm} {phi:List Cl} (hl:In k line) (ha:In k a) (hp:am phi) (hpl:phi.length<1073741824) (ret:Tm×Int→Option S):tL k line phi a ret=ret (tE (gh line phi a ⟨1,0⟩ [⟨0,1⟩,⟨2,0⟩])):=by
 simp only [tL,KA,ah hk.fu,aI,JM hk hl ha hp hpl vv Ji]
theorem ZI (hk:F3 k) {line a:Tm} {phi:List Cl} (hl:In k line) (ha:In k a) (hp:am phi) (hpl:phi.length<1073741824) (ret:Tm×Int→Option S):uD k line phi a ret=ret (tE (gh line phi a ⟨0,1⟩ [⟨3,0⟩])):=by
 have hin: ∀t∈[line,a],In k t:=fun t ht=>by
  simp at ht
  rcases ht with rfl|rfl
  ·exact hl
  ·exact ha
 obtain ⟨q,hq⟩: ∃q,k=q+1:=⟨k-1,by have:4294968296≤k:=hk;omega⟩
 have hj: ∀v,vk k ret line a phi k v=o_ k ret line a phi v:=fun v=>by
  have: ∀j,j=q+1→vk k ret line a phi j v=o_ k ret line a phi v:=by rintro j rfl;rfl
  exact this k hq
 simp only [uD,CM,ah hk.fu,aI,JK hk hin (by simp),iQ hk.fu hp (show phi.length<2147483648 by omega),hj,o_,aY]
 unfold gh
 by_cases h0:dm [line,a]=0
 ·have hfm:=wC (fun t ht=>(hin t ht).1) h0
  have hl':=hfm line (by simp)
  have ha':=hfm a (by simp)
  simp only [h0,if_true,decide_true,Bool.not_true,ad,ac]
  cases hph:be phi with
  |false=>rw [Bool.not_false,ad];rfl
  |true=>
   have hrf:=(fm hp).1 hph
   rw [Bool.not_true,ac]
   simp only [yI,L7,ah hk.fu,aI,JE hk hl' ha' hrf.1 vu Jh]
   rw [JF hk (fun e h=>Dd h) (fun t h=>by have:=sc hk hl' ha' hrf.1 vu h;exact ⟨this.1,by rw [this.2];decide⟩),En];rfl
 ·simp only [if_neg h0]
  rw [decide_eq_false h0,ac,Bool.not_false,ad];rfl
theorem ZD (hk:F3 k) {line a:Tm} {phi:List Cl} (hl:In k line) (ha:In k a) (hp:am phi) (hpl:phi.length<1073741824) (ret:Tm×Int→Option S):uC k line phi a ret=ret (tE (gh line phi a ⟨1,0⟩ [⟨0,1⟩,⟨2,0⟩])):=by
 have hin: ∀t∈[line,a],In k t:=fun t ht=>by
  simp at ht
  rcases ht with rfl|rfl
  ·exact hl
  ·exact ha
 obtain ⟨q,hq⟩: ∃q,k=q+1:=⟨k-1,by have:4294968296≤k:=hk;omega⟩
 have hj: ∀v,vj k ret line a phi k v=o9 k ret line a phi v:=fun v=>by
  have: ∀j,j=q+1→vj k ret line a phi j v=o9 k ret line a phi v:=by rintro j rfl;rfl
  exact this k hq
 simp only [uC,CK,ah hk.fu,aI,JK hk hin (by simp),iQ hk.fu hp (show phi.length<2147483648 by omega),hj,o9,aY]
 unfold gh
 by_cases h0:dm [line,a]=0
 ·have hfm:=wC (fun t ht=>(hin t ht).1) h0
  have hl':=hfm line (by simp)
  have ha':=hfm a (by simp)
  simp only [h0,if_true,decide_true,Bool.not_true,ad,ac]
  cases hph:be phi with
  |false=>rw [Bool.not_false,ad];rfl
  |true=>
   have hrf:=(fm hp).1 hph
   rw [Bool.not_true,ac]
   simp only [yG,L4,ah hk.fu,aI,JE hk hl' ha' hrf.1 vv Ji]
   rw [JF hk (fun e h=>Dd h) (fun t h=>by have:=sc hk hl' ha' hrf.1 vv h;exact ⟨this.1,by rw [this.2];decide⟩),En];rfl
 ·simp only [if_neg h0]
  rw [decide_eq_false h0,ac,Bool.not_false,ad];rfl
theorem W8:OkT aJ:=by
 unfold aJ
 rw [OkT,b_,bW]
 exact ⟨⟨by unfold aD;omega,by unfold aD;omega,by show 0<_;omega,fun c hc=>(by cases hc),by simp,by simp,by simp⟩,trivial,trivial⟩
theorem rd (hk:F3 k):In k aJ:=⟨W8,hk.fd (by unfold aJ;rw [av,bk,bK];omega),by unfold aJ;rw [aF,aR,a8];omega⟩
theorem De (hk:F3 k) {line a:Tm} {phi r:List Cl} {en:Cl} (hl:In k line) (ha:In k a) (hp:am phi) (he:aH en):In k (tE (gh line phi a en r)).1:=by
 unfold gh
 split
 ·next h0=>
  split
  ·next hph=>
   have hfm:=wC (l:=[line,a]) (fun t ht=>by
    simp at ht
    rcases ht with rfl|rfl
    ·exact hl.1
    ·exact ha.1) h0
   have hrf:=(fm hp).1 hph
   unfold qb
   cases hx:g5 line phi a en r with
   |error e=>exact rd hk
   |ok t=>
    have:=(sc hk (hfm line (by simp)) (hfm a (by simp)) hrf.1 he hx).1
    rw [aw]
    split
    ·exact this
    ·exact rd hk
  ·exact rd hk
 ·exact rd hk
theorem JV (hk:F3 k) {t:Tm} (ht:In k t) (e:Int) (ret:Bool→Option S):pD k t e t e ret=ret true:=by
 simp only [pD,Lk,aI,ZJ t ht.1 _ ht.2.1,ad,beq_self_eq_true]
theorem Zf (hk:F3 k) {a b:Tm} {sys:List (Br Tm)} (ha:In k a) (hb:In k b) (hs:In k (.mk 0 0 ByteArray.empty [] [] sys)) (ret:Bool→Option S): ∃c,uh k a b sys ret=ret c:=by
 simp only [uh,Lj,aI]
 obtain ⟨w,hw⟩:=Bv a ha.1 150 (fun r1=>ab (decide (r1>150)) (ret true) (dG k b 150 fun r2=>ab (decide (r2>150)) (ret true) (dG k (.mk 0 0 ByteArray.empty [] [] sys) 150 fun r3=>ret (decide (r3>150))))) ha.2.1
 rw [hw]
 cases decide (w>150) with
 |true=>exact ⟨true,rfl⟩
 |false=>
  rw [ac]
  obtain ⟨w',hw'⟩:=Bv b hb.1 150 (fun r2=>ab (decide (r2>150)) (ret true) (dG k (.mk 0 0 ByteArray.empty [] [] sys) 150 fun r3=>ret (decide (r3>150)))) hb.2.1
  rw [hw']
  cases decide (w'>150) with
  |true=>exact ⟨true,rfl⟩
  |false=>
   rw [ac]
   obtain ⟨w'',hw''⟩:=Bv _ hs.1 150 (fun r3=>ret (decide (r3>150))) hs.2.1
   exact ⟨_,hw''⟩
theorem YN (hk:F3 k) {line t:Tm} {phi:List Cl} (hl:In k line) (ht:In k t) (hp:am phi) (hpl:phi.length<1073741824) (ret:Bool→Option S):yC k line phi t ret=ret true:=by
 simp only [yC,Li,ah hk.fu,aI,ZW hk,YV hk hl ht hp hpl,YM hk hl ht hp hpl,ZI hk hl ht hp hpl,ZD hk hl ht hp hpl,JV hk (De hk hl ht hp vu),JV hk (De hk hl ht hp vv),ad]
 obtain ⟨c,hc⟩:=Zf hk hl ht (rd hk) (fun r1=>ab r1 (ret true) (ab (decide ((phi.length:Int)>24)) (ret true) (ret true)))
 refine Eq.trans hc ?_
 cases c with
 |true=>rfl
 |false=>rw [ac];cases decide ((phi.length:Int)>24)<;>rfl
end Go.Proofs.YtapmagaejigpnaaGreatDoor
