/- Part 1 of a proof: the sources, with their names and remarks, lie in wip/. -/
import Derived.Test.YtapmagaejigpnaaGreatDoorX0
import Derived.Laws.StructEq
import Derived.Laws.CopyRow
import Derived.Laws.Tables
import Derived.Laws.AppendOwn
import Derived.Laws.Small
namespace Go.Proofs.YtapmagaejigpnaaGreatDoor.PI
open Go
set_option linter.unusedVariables false
set_option linter.unusedSimpArgs false
section
variable {U:Uni} {V:Env U} {P:Program} {X:Link V P} {K:bJ U} {S:Side U} {c:Ctx} {a:Act} {w:World} {σ:St U} {g:Gh U} {D:Nat→Option Nat}
variable {next:Act→World→Prop} {Q:Exit→Act→World→Prop} {r:MR U} {τ:St U} {fp gp:List Loc} {N:au}
variable {dst:Option Tmp} {ty:TypeId} {pos:String} {after:Array Edge} {gd:Option (Nat×Bool)}
theorem wG {t:TypeId} {k:IntKind} (h:P.underlying t=some (.int k)) {xs:Array Value} {off:Nat} {v:Value} (hx:xs[off]? =some v) (w:World):(part t xs off).run P w= .ok v w:=by
 simp [part,isAgg,run_underlying h,hx]
theorem nc: ∀ {a0s bs:List (PV U)} {r:Bool},PV.eqvI a0s bs=some r→a0s.length=bs.length∧ ∀ (i:Nat) x y,a0s[i]? =some x→bs[i]? =some y→ ∃k m n,x= .int k m∧y= .int k n:=by
 intro a0s
 induction a0s with
 |nil=>intro bs r h;cases bs with
  |nil=>simp
  |cons=>simp [PV.eqvI] at h
 |cons a a0s ih=>
  intro bs r h
  cases bs with
  |nil=>cases a<;>simp [PV.eqvI] at h
  |cons b bs=>
   unfold PV.eqvI at h
   split at h
   ·rename_i e1 e2;cases e1
   ·rename_i e1 e2
    cases e1;cases e2
    split at h
    ·rename_i hk
     subst hk
     split at h
     ·rename_i y hy
      obtain ⟨hl,hh⟩:=ih hy
      refine ⟨by simp [hl],fun i x y hx hy=> ?_⟩
      cases i with
      |zero=>simp at hx hy;exact ⟨_,_,_,hx.symm,hy.symm⟩
      |succ i=>exact hh i x y (by simpa using hx) (by simpa using hy)
     ·cases h
    ·cases h
   ·cases h
theorem DT (d:Nat) (xs ys:Array Value): ∀ (fs:List Field) (a0s bs:List (PV U)) (o:Nat) (r:Bool),PV.eqvI a0s bs=some r→fs.length=a0s.length→
  (∀ (i:Nat) p,a0s[i]? =some p→Rep X w N g (xs.getD (o+i) undef) p∧o+i<xs.size)→(∀ (i:Nat) p,bs[i]? =some p→Rep X w N g (ys.getD (o+i) undef) p∧o+i<ys.size)→
  (∀ (i:Nat) f,fs[i]? =some f→f.name≠ "_" ∧f.offset=o+i∧ ∃k,P.underlying f.type=some (.int k))→
  (Op.eqFields (d+1) xs ys fs).run P w= .ok r w:=by
 intro fs
 induction fs with
 |nil=>
  intro a0s bs o r he hl _ _ _
  cases a0s with
  |nil=>cases bs with
   |nil=>simp [PV.eqvI] at he;subst he;simp [Op.eqFields]
   |cons=>simp [PV.eqvI] at he
  |cons=>simp at hl
 |cons f fs ih=>
  intro a0s bs o r he hl hx hy hf
  obtain ⟨hlen,hints⟩:=nc he
  cases a0s with
  |nil=>simp at hl
  |cons x a0s=>cases bs with
   |nil=>simp at hlen
   |cons y bs=>
    obtain ⟨k,m,n,rfl,rfl⟩:=hints 0 x y rfl rfl
    simp only [PV.eqvI,if_true] at he
    split at he
    case h_2=>cases he
    rename_i s hs
    injection he with he;subst he
    obtain ⟨hname,hoff,k',hk'⟩:=hf 0 f rfl
    have hx0:=hx 0 _ rfl
    have hy0:=hy 0 _ rfl
    have ex:xs[o]? =some (.int k m):=by
     have h1:=b8 hx0.1;have h2:=hx0.2
     simp only [Nat.add_zero] at h1 h2
     rw [Array.getElem?_eq_getElem h2]
     simpa [Array.getD_eq_getD_getElem?,h2] using h1
    have ey:ys[o]? =some (.int k n):=by
     have h1:=b8 hy0.1;have h2:=hy0.2
     simp only [Nat.add_zero] at h1 h2
     rw [Array.getElem?_eq_getElem h2]
     simpa [Array.getD_eq_getD_getElem?,h2] using h1
    have hrec:=ih a0s bs (o+1) s hs (by simpa using hl) (fun i p hp=>by have:=hx (i+1) p (by simpa using hp);rwa [show o+(i+1)=o+1+i by omega] at this)
     (fun i p hp=>by have:=hy (i+1) p (by simpa using hp);rwa [show o+(i+1)=o+1+i by omega] at this)
     (fun i f' hf'=>by have:=hf (i+1) f' (by simpa using hf');rwa [show o+(i+1)=o+1+i by omega] at this)
    simp only [Op.eqFields,hname,ne_eq,not_false_eq_true,if_true,Sem.run_bind,hoff,Nat.add_zero,wG hk' ex,wG hk' ey,Result.andThen_ok,run_equalIn_int w d f.type k k' m n hk']
    cases hb:(m==n) with
    |true=>simp only [Bool.not_true,Bool.false_eq_true,if_false,Bool.true_and];exact hrec
    |false=>simp only [Bool.not_false,if_true,Bool.false_and,Sem.run_pure]
theorem QZ (d:Nat) {t:TypeId} {ms} (hu:P.underlying t=some (.interface ms)) (t':TypeId) (v:Value) (w:World):
  (Op.equalIn (d+1) t (.iface t' v) .nilIface).run P w= .ok false w:=by
 simp only [Op.equalIn,Sem.run_bind,run_underlying hu,Result.andThen_ok,Sem.run_pure]
theorem Q0 (d:Nat) {t:TypeId} {ms} (hu:P.underlying t=some (.interface ms)) (w:World):(Op.equalIn (d+1) t .nilIface .nilIface).run P w= .ok true w:=by
 simp only [Op.equalIn,Sem.run_bind,run_underlying hu,Result.andThen_ok,Sem.run_pure]
theorem DV {t:TypeId} {ms} (hu:P.underlying t=some (.interface ms)) (t':TypeId) (v:Value) (w:World):
  (Op.equal t (.iface t' v) .nilIface).run P w= .ok false w:=QZ 9999 hu t' v w
theorem DW {t:TypeId} {ms} (hu:P.underlying t=some (.interface ms)) (w:World):(Op.equal t .nilIface .nilIface).run P w= .ok true w:=Q0 9999 hu w
theorem JQ (t t':TypeId) (v:Value):binOp .eql t (.iface t' v) .nilIface=(do pure (.bool (←Op.equal t (.iface t' v) .nilIface))):=rfl
theorem JS (t t':TypeId) (v:Value):binOp .neq t (.iface t' v) .nilIface=(do pure (.bool (!(←Op.equal t (.iface t' v) .nilIface)))):=rfl
theorem JR (t:TypeId):binOp .eql t .nilIface .nilIface=(do pure (.bool (←Op.equal t .nilIface .nilIface))):=rfl
theorem JT (t:TypeId):binOp .neq t .nilIface .nilIface=(do pure (.bool (!(←Op.equal t .nilIface .nilIface)))):=rfl
def Ju (o:Own) (A:Option Addr) (n cp:Nat):Prop:=match o with| .none=>True| .full=>n=cp| .nil=>A=none∧n=0∧cp=0| .void=>A=none| .sure=>A≠none
theorem DU {x y:Operand} {t:TypeId} {vx vy:Value} {p q:PV U} {k:Bool→M U} {cy:Bool} (hp:Rep X w N g vx p) (hq:Rep X w N g vy q)
  (hcy:cy=true→ ∃v,y= .const v) (hr:(qC V t cy p q k).Rel K σ fp r τ gp):
  ∃b fp',(k b).Rel K σ fp' r τ gp∧(do eqGuard .eql t x y vx vy;binOp .eql t vx vy:Sem Value).run P w= .ok (.bool b) w∧(do eqGuard .neq t x y vx vy;binOp .neq t vx vy:Sem Value).run P w= .ok (.bool (!b)) w:=by
 unfold qC at hr
 split at hr
 ·have e1:=b8 hp;have e2:=b8 hq;subst e1;subst e2
  split at hr
  ·rename_i hk;subst hk
   exact ⟨_,_,hr,by simp [eqGuard,binOp,Op.intCmp],by simp [eqGuard,binOp,Op.intCmp];rfl⟩
  ·exact hr.elim
 ·have e1:=rZ hp;have e2:=rZ hq;subst e1;subst e2
  exact ⟨_,_,hr,by simp [eqGuard,binOp,Op.stringOp,beq_toListBytes],by simp [eqGuard,binOp,Op.stringOp,beq_toListBytes]⟩
 ·have e1:=g0 hp;have e2:=g0 hq;subst e1;subst e2
  rename_i a b
  cases hk:Nat.beq (V.eqk t) 3 with
  |false=>rw [hk] at hr;exact hr.elim
  |true=>
   rw [hk] at hr
   have hu:P.underlying t=some .bool:=by
    simp [Env.eqk] at hk
    split at hk
    ·rename_i row hrow;exact (X.ty t row hrow).isBool hk
    ·cases hk
   refine ⟨_,_,hr, ?_, ?_⟩
   ·simp only [eqGuard_at_bool,Sem.run_bind,Sem.run_pure,Result.andThen_ok];exact run_eql_bool w t a b hu
   ·simp only [eqGuard_at_bool,Sem.run_bind,Sem.run_pure,Result.andThen_ok];exact run_neq_bool w t a b hu
 ·rename_i a0s bs
  split at hr
  case h_2=>exact hr.elim
  rename_i row hrow
  cases hk:Nat.beq row.eqk 1&&Nat.beq a0s.length row.size with
  |false=>rw [hk] at hr;exact hr.elim
  |true=>
   rw [hk] at hr
   simp at hk
   simp only [cond_true] at hr
   split at hr
   case h_2=>exact hr.elim
   rename_i r0 hr0
   obtain ⟨fs,hu,hst,hgd,hsz,hfs⟩:=(X.ty t row hrow).isInts hk.1
   obtain ⟨hlen,_⟩:=nc hr0
   cases hp with
   |agg xs _ hxl hxs=>cases hq with
    |agg ys _ hyl hys=>
     have hF:P.fieldsOf t=fs:=by simp [Program.fieldsOf,hu]
     have hrun:(Op.equalIn 10000 t (.agg xs) (.agg ys)).run P w= .ok r0 w:=by
      rw [show (10000:Nat)=9998+1+1 from rfl,run_equalIn_struct w (9998+1) t xs ys (by rw [hF];exact hu) hst,hF]
      exact DT (X:=X) (g:=g) (N:=N) 9998 xs ys fs.toList a0s bs 0 r0 hr0 (by simp [hsz,hk.2]) (fun i p hi=>by
       have:=hxs i p hi;simp only [Nat.zero_add];exact ⟨this,by rw [hxl];exact (List.getElem?_eq_some_iff.1 hi).1⟩) (fun i p hi=>by
       have:=hys i p hi;simp only [Nat.zero_add];exact ⟨this,by rw [hyl];exact (List.getElem?_eq_some_iff.1 hi).1⟩) (fun i f hf=>by
       have:=hfs i f (by simpa using hf);simpa using this)
     refine ⟨_,_,hr, ?_, ?_⟩
     ·simp only [Sem.run_bind,run_eqGuard_agg w .eql t x y xs ys hgd,Result.andThen_ok,run_eql_struct,hrun]
     ·simp only [Sem.run_bind,run_eqGuard_agg w .neq t x y xs ys hgd,Result.andThen_ok,run_neq_struct,hrun]
 ·cases hk:Nat.beq (V.eqk t) 2 with
  |false=>rw [hk] at hr;exact hr.elim
  |true=>
   rw [hk] at hr
   obtain ⟨ms,hu⟩: ∃ms,P.underlying t=some (.interface ms):=by
    simp [Env.eqk] at hk
    split at hk
    ·rename_i row hrow;exact (X.ty t row hrow).isIf hk
    ·cases hk
   cases hp;cases hq
   refine ⟨_,_,hr, ?_, ?_⟩
   ·simp only [eqGuard_at_iface,JQ,Sem.run_bind,Sem.run_pure,Result.andThen_ok,DV hu]
   ·simp only [eqGuard_at_iface,JS,Sem.run_bind,Sem.run_pure,Result.andThen_ok,DV hu]
 ·cases hk:Nat.beq (V.eqk t) 2&&cy with
  |false=>rw [hk] at hr;exact hr.elim
  |true=>
   rw [hk] at hr
   simp at hk
   obtain ⟨ms,hu⟩: ∃ms,P.underlying t=some (.interface ms):=by
    simp [Env.eqk] at hk
    split at hk
    ·rename_i row hrow;exact (X.ty t row hrow).isIf hk.1
    ·cases hk.1
   obtain ⟨v,rfl⟩:=hcy hk.2
   cases hp;cases hq
   refine ⟨_,_,hr, ?_, ?_⟩
   ·simp only [eqGuard_nil_constR,JR,Sem.run_bind,Sem.run_pure,Result.andThen_ok,DW hu]
   ·simp only [eqGuard_nil_constR,JT,Sem.run_bind,Sem.run_pure,Result.andThen_ok,DW hu]
 ·rename_i e1 l1 o1 e2 l2
  obtain ⟨A,n,cp,rfl,hA⟩: ∃A n cp,vx= .slice A n cp∧Ju o1 A n cp:=by
   clear hr
   cases hp with
   |sl A n cp _ _ _ val hl hc ho _ _=>exact ⟨A,n,cp,rfl,ho⟩
  have hvy:vy= .slice none 0 0:=by
   cases hq with
   |sl A n cp _ _ _ val hl hc ho _ _=>obtain ⟨rfl,rfl,rfl⟩:=ho;rfl
  subst hvy
  have key: ∀ (b:Bool) (e:U.E),V.ety t=some e→A.isNone=b→(do eqGuard .eql t x y (.slice A n cp) (.slice none 0 0);binOp .eql t (.slice A n cp) (.slice none 0 0):Sem Value).run P w= .ok (.bool b) w∧
    (do eqGuard .neq t x y (.slice A n cp) (.slice none 0 0);binOp .neq t (.slice A n cp) (.slice none 0 0):Sem Value).run P w= .ok (.bool (!b)) w:=by
   intro b e he hb
   have hu:P.underlying t=some (.slice (X.etid e)):=by
    unfold Env.ety at he
    split at he
    ·rename_i row hrow;exact (X.ty t row hrow).elem e he
    ·cases he
   have heq:(Op.equal t (.slice A n cp) (.slice none 0 0)).run P w= .ok b w:=by
    subst hb
    have e3: ∀d,(Op.equalIn (d+1) t (.slice A n cp) (.slice none 0 0)).run P w= .ok A.isNone w:=by
     intro d
     simp only [Op.equalIn,Sem.run_bind,run_underlying hu,Result.andThen_ok]
     cases A<;>rfl
    exact e3 9999
   have e1:binOp .eql t (.slice A n cp) (.slice none 0 0)=(do pure (.bool (←Op.equal t (.slice A n cp) (.slice none 0 0)))):=rfl
   have e2:binOp .neq t (.slice A n cp) (.slice none 0 0)=(do pure (.bool (!(←Op.equal t (.slice A n cp) (.slice none 0 0))))):=rfl
   constructor
   ·rw [e1];simp [eqGuard,heq]
   ·rw [e2];simp [eqGuard,heq]
  split at hr
  ·rename_i e he
   obtain ⟨rfl,_,_⟩:=hA
   obtain ⟨h1,h2⟩:=key true e he rfl
   exact ⟨_,_,hr,h1,h2⟩
  ·rename_i e he
   have hA:A=none:=hA
   subst hA
   obtain ⟨h1,h2⟩:=key true e he rfl
   exact ⟨_,_,hr,h1,h2⟩
  ·rename_i e he
   have hA:A≠none:=hA
   obtain ⟨h1,h2⟩:=key false e he (by cases A<;>simp_all)
   exact ⟨_,_,hr,h1,h2⟩
  ·exact hr.elim
 ·exact hr.elim
theorem ew {x y:Value} {p q:PV U} {k:IntKind→Int→Int→M U} (hp:Rep X w N g x p) (hq:Rep X w N g y q) (hr:(ints p q k).Rel K σ fp r τ gp):
  ∃kd m n,x= .int kd m∧y= .int kd n∧(k kd m n).Rel K σ fp r τ gp:=by
 unfold ints at hr
 split at hr
 ·split at hr
  ·rename_i h;subst h;exact ⟨_,_,_,b8 hp,b8 hq,hr⟩
  ·exact hr.elim
 ·exact hr.elim
theorem fR {p:Prop} [Decidable p] {k:Unit→M U} (hr:(M.ask (bX p) k).Rel K σ fp r τ gp):p∧(k ()).Rel K σ fp r τ gp:=by
 obtain ⟨x,hx,hr⟩:=hr
 unfold bX at hx
 split at hx
 ·exact ⟨‹p›,hr⟩
 ·cases hx
theorem Ak (y:Operand):(match y with| .const _=>true|_=>false)=true→ ∃v,y= .const v:=by
 cases y<;>simp
theorem Pk {op:BinOp} {t yt:TypeId} {x y:Operand} (hd:aU c.nt ⟨dst,.binOp op t x y yt,ty,pos,after,gd⟩=true) (h:Sim X c a.tmps w σ g D)
  (hr:(a_ V S ⟨dst,.binOp op t x y yt,ty,pos,after,gd⟩).Rel K σ fp r τ gp)
  (ht:Then X c a r τ next Q):(⟨dst,.binOp op t x y yt,ty,pos,after,gd⟩:Oper).wp P a w next Q:=by
 obtain ⟨p,fp1,hp,hr1⟩:=bD h hr
 obtain ⟨q,fp2,hq,hr2⟩:=bD h hr1
 have main: ∀ {v:Value} {pv:PV U} {fp3},(do eqGuard op t x y (a.eval x) (a.eval y);binOp op t (a.eval x) (a.eval y):Sem Value).run P w= .ok v w→Rep X w (c.N g D) g v pv→(put dst pv).Rel K σ fp3 r τ gp→
   (⟨dst,.binOp op t x y yt,ty,pos,after,gd⟩:Oper).wp P a w next Q:=fun h1 h2 h3=>
  bg hd ht h (by simp only [Sem.run_bind] at h1;simp only [execOp,Sem.run_bind,h1,Result.andThen_ok,Sem.run_pure]) h2 h3
 have quiet: ∀ {v:Value} {pv:PV U} {fp3},(eqGuard op t x y (a.eval x) (a.eval y)=pure ())→(binOp op t (a.eval x) (a.eval y):Sem Value).run P w= .ok v w→Rep X w (c.N g D) g v pv→(put dst pv).Rel K σ fp3 r τ gp→
   (⟨dst,.binOp op t x y yt,ty,pos,after,gd⟩:Oper).wp P a w next Q:=fun h0 h1 h2 h3=>
  main (by rw [h0];simpa using h1) h2 h3
 cases op
 case eql=>
  simp only [mE] at hr2
  obtain ⟨b,fp3,hk,he,_⟩:=DU (x:=x) (y:=y) hp hq (Ak y) hr2
  exact main he (.bool b) hk
 case neq=>
  simp only [mE] at hr2
  obtain ⟨b,fp3,hk,_,he⟩:=DU (x:=x) (y:=y) hp hq (Ak y) hr2
  exact main he (.bool _) hk
 case shl=>
  simp only [mE] at hr2
  split at hr2
  ·obtain ⟨h0,hr3⟩:=fR hr2
   have e1:=b8 hp;have e2:=b8 hq
   refine quiet rfl (v:= .int _ _) ?_ (.int _ _) hr3
   rw [e1,e2,binOp_shl]
   simp [Op.shift,Int.not_lt.2 h0]
  ·exact hr2.elim
 case shr=>
  simp only [mE] at hr2
  split at hr2
  ·obtain ⟨h0,hr3⟩:=fR hr2
   have e1:=b8 hp;have e2:=b8 hq
   refine quiet rfl (v:= .int _ _) ?_ (.int _ _) hr3
   rw [e1,e2,binOp_shr]
   simp [Op.shift,Int.not_lt.2 h0]
  ·exact hr2.elim
 case quo=>
  obtain ⟨kd,m,n,e1,e2,hr3⟩:=ew hp hq hr2
  obtain ⟨h0,hr4⟩:=fR hr3
  refine quiet rfl (v:= .int _ _) ?_ (.int _ _) hr4
  rw [e1,e2,binOp_quo];simp [Op.intDiv,h0]
 case rem=>
  obtain ⟨kd,m,n,e1,e2,hr3⟩:=ew hp hq hr2
  obtain ⟨h0,hr4⟩:=fR hr3
  refine quiet rfl (v:= .int _ _) ?_ (.int _ _) hr4
  rw [e1,e2,binOp_rem];simp [Op.intDiv,h0]
 case add=>
  obtain ⟨kd,m,n,e1,e2,hr3⟩:=ew hp hq hr2
  exact quiet rfl (by rw [e1,e2,binOp_add];rfl) (.int _ _) hr3
 case sub=>
  obtain ⟨kd,m,n,e1,e2,hr3⟩:=ew hp hq hr2
  exact quiet rfl (by rw [e1,e2,binOp_sub];rfl) (.int _ _) hr3
 case mul=>
  obtain ⟨kd,m,n,e1,e2,hr3⟩:=ew hp hq hr2
  exact quiet rfl (by rw [e1,e2,binOp_mul];rfl) (.int _ _) hr3
 case and=>
  obtain ⟨kd,m,n,e1,e2,hr3⟩:=ew hp hq hr2
  exact quiet rfl (by rw [e1,e2,binOp_and];rfl) (.int _ _) hr3
 case or=>
  obtain ⟨kd,m,n,e1,e2,hr3⟩:=ew hp hq hr2
  exact quiet rfl (by rw [e1,e2,binOp_or];rfl) (.int _ _) hr3
 case xor=>
  obtain ⟨kd,m,n,e1,e2,hr3⟩:=ew hp hq hr2
  exact quiet rfl (by rw [e1,e2,binOp_xor];rfl) (.int _ _) hr3
 case andNot=>
  obtain ⟨kd,m,n,e1,e2,hr3⟩:=ew hp hq hr2
  exact quiet rfl (by rw [e1,e2,binOp_andNot];rfl) (.int _ _) hr3
 case lss=>
  obtain ⟨kd,m,n,e1,e2,hr3⟩:=ew hp hq hr2
  exact quiet rfl (by rw [e1,e2,binOp_lss];rfl) (.bool _) hr3
 case leq=>
  obtain ⟨kd,m,n,e1,e2,hr3⟩:=ew hp hq hr2
  exact quiet rfl (by rw [e1,e2,binOp_leq];rfl) (.bool _) hr3
 case gtr=>
  obtain ⟨kd,m,n,e1,e2,hr3⟩:=ew hp hq hr2
  exact quiet rfl (by rw [e1,e2,binOp_gtr];rfl) (.bool _) hr3
 case geq=>
  obtain ⟨kd,m,n,e1,e2,hr3⟩:=ew hp hq hr2
  exact quiet rfl (by rw [e1,e2,binOp_geq];rfl) (.bool _) hr3
end
end Go.Proofs.YtapmagaejigpnaaGreatDoor.PI
namespace Go.Proofs.YtapmagaejigpnaaGreatDoor.PI
open Go
set_option linter.unusedVariables false
set_option linter.unusedSimpArgs false
section
variable {U:Uni} {V:Env U} {P:Program} {X:Link V P} {K:bJ U} {S:Side U} {c:Ctx} {a:Act} {w:World} {σ:St U} {g:Gh U} {D:Nat→Option Nat}
variable {next:Act→World→Prop} {Q:Exit→Act→World→Prop} {r:MR U} {τ:St U} {fp gp:List Loc} {N:au}
variable {dst:Option Tmp} {ty:TypeId} {pos:String} {after:Array Edge} {gd:Option (Nat×Bool)}
def At (X:Link V P) (w:World) (N:au) (g:Gh U) (a:Addr) (cs:List (PV U)):Prop:=
 ∀ (k:Nat) p,cs[k]? =some p→ ∃v,w.cell? (a.add k)=some v∧Rep X w N g v p
theorem n7 {t:TypeId} {r:Ty U} (hT:TyOK P X.etid X.etid t r) (w:World):(isAgg t).run P w= .ok r.agg w:=by
 obtain ⟨d,hu,hd⟩:=hT.agg
 simp only [isAgg,Sem.run_bind,run_underlying hu,Result.andThen_ok]
 rw [←hd]
 cases d<;>rfl
theorem wH {t:TypeId} {r:Ty U} (hT:TyOK P X.etid X.etid t r) (w:World):(sizeOf t).run P w= .ok r.size w:=by
 obtain ⟨i,z,hi,hs,_⟩:=hT.info
 simp [sizeOf,typeInfo,hi,hs]
theorem Dz {v:Value} {p:PV U} (h:Rep X w N g v p) (hc:p.cs.all PV.isCell=true):v.cells.size=p.cs.length∧(∀ (j:Nat) q,p.cs[j]? =some q→Rep X w N g (v.cells.getD j undef) q):=by
 have main: ∀ (v:Value) (p:PV U),Rep X w N g v p→p.cs=[p]→v.cells= #[v]→v.cells.size=p.cs.length∧(∀ (j:Nat) q,p.cs[j]? =some q→Rep X w N g (v.cells.getD j undef) q):=by
  intro v p h e1 e2
  rw [e1,e2]
  refine ⟨rfl,fun j q hq=> ?_⟩
  cases j with
  |zero=>simp at hq;subst hq;exact h
  |succ j=>simp at hq
 cases h with
 |undef v=>simp [PV.cs,PV.isCell] at hc
 |agg vs cs hl hh=>exact ⟨hl,hh⟩
 |tuple vs cs hl hh=>simp [PV.cs,PV.isCell] at hc
 |own i v val ver e val' hk hv he hs=>
  obtain ⟨A,n,cp,rfl⟩:=hs
  exact main _ _ (.own i v _ ver e val' hk hv he ⟨A,n,cp,rfl⟩) rfl rfl
 |optr i v j off val ver e val' hk hv he hs=>
  obtain ⟨A,rfl⟩:=hs
  exact main _ _ (.optr i v j off _ ver e val' hk hv he ⟨A,rfl⟩) rfl rfl
 |int k n=>exact main _ _ (.int k n) rfl rfl
 |bool b=>exact main _ _ (.bool b) rfl rfl
 |str s=>exact main _ _ (.str s) rfl rfl
 |sl A n c e l o val h1 h2 h3 h4 h5=>exact main _ _ (.sl A n c e l o val h1 h2 h3 h4 h5) rfl rfl
 |ptr id off b hb=>exact main _ _ (.ptr id off b hb) rfl rfl
 |aptr id n b hb hn=>exact main _ _ (.aptr id n b hb hn) rfl rfl
 |mp id b hb=>exact main _ _ (.mp id b hb) rfl rfl
 |eptr e x off a val h1 h2=>exact main _ _ (.eptr e x off a val h1 h2) rfl rfl
 |func f a0s bs vs us ha hb h1 h2=>exact main _ _ (.func f a0s bs vs us ha hb h1 h2) rfl rfl
 |iface t v p h=>exact main _ _ (.iface t v p h) rfl rfl
 |nilIface=>exact main _ _ .nilIface rfl rfl
 |nilPtr=>exact main _ _ .nilPtr rfl rfl
 |nilFunc=>exact main _ _ .nilFunc rfl rfl
theorem DA {v:Value} {p:PV U} (h:Rep X w N g v p) (hc:p.isCell=true):v.oneCell'=true:=by
 cases h with
 |undef v=>simp [PV.isCell] at hc
 |agg=>simp [PV.isCell] at hc
 |tuple=>simp [PV.isCell] at hc
 |own i v val ver e val' hk hv he hs=>obtain ⟨A,n,cp,rfl⟩:=hs;rfl
 |optr i v j off val ver e val' hk hv he hs=>obtain ⟨A,rfl⟩:=hs;rfl
 |_=>rfl
theorem Q3 {t:TypeId} {cs:List (PV U)} {off:Nat} {x:PV U} {b:Addr} (hc:pA V t cs off=some x) (h:At X w N g b cs):
  ∃u,(loadVar t (b.add off)).run P w= .ok u w∧Rep X w N g u x:=by
 unfold pA at hc
 split at hc
 case h_2=>cases hc
 rename_i row hrow
 have hT:=X.ty t row hrow
 cases hag:row.agg with
 |true=>
  rw [hag] at hc
  simp only [cond_true] at hc
  cases hle:Nat.ble (off+row.size) cs.length with
  |false=>rw [hle] at hc;cases hc
  |true=>
   rw [hle] at hc
   simp only [cond_true,Option.some.injEq] at hc
   subst hc
   have hle':off+row.size≤cs.length:=by simpa using hle
   have hcell: ∀j,j<row.size→ ∃v p,cs[off+j]? =some p∧w.cell? ((b.add off).add j)=some v∧Rep X w N g v p:=by
    intro j hj
    have hlt:off+j<cs.length:=by omega
    obtain ⟨v,hv,hr⟩:=h (off+j) _ (List.getElem?_eq_getElem hlt)
    exact ⟨v,_,List.getElem?_eq_getElem hlt,by rw [Addr.add_add];exact hv,hr⟩
   have hrun:=run_loadCells (P:=P) w (b.add off) row.size (fun j=>(w.cell? ((b.add off).add j)).getD undef) (fun j hj=>by
    obtain ⟨v,p,_,hv,_⟩:=hcell j hj;rw [hv];rfl)
   refine ⟨.agg ((List.range row.size).map fun j=>(w.cell? ((b.add off).add j)).getD undef).toArray, ?_, ?_⟩
   ·simp only [loadVar,Sem.run_bind,n7 hT,hag,Result.andThen_ok,if_true,wH hT,hrun,Sem.run_pure]
   ·refine .agg _ _ (by simp;omega) fun j p hp=> ?_
    have hj:j<row.size:=by
     have:=(List.getElem?_eq_some_iff.1 hp).1
     simp at this;omega
    obtain ⟨v,q,hq,hv,hr⟩:=hcell j hj
    have e1:p=q:=by
     rw [List.getElem?_take_of_lt hj,List.getElem?_drop] at hp
     rw [hp] at hq;cases hq;rfl
    subst e1
    have:((List.range row.size).map fun j=>(w.cell? ((b.add off).add j)).getD undef).toArray.getD j undef=v:=by
     simp [Array.getD_eq_getD_getElem?,hj,hv]
    rw [this];exact hr
 |false=>
  rw [hag] at hc
  simp only [cond_false] at hc
  obtain ⟨v,hv,hr⟩:=h off x hc
  exact ⟨v,by simp [loadVar,n7 hT,hag,hv],hr⟩
theorem yH {k:Nat} {cs:List (PV U)} (h:BoxOK X w N g k (.cells cs)):At X w N g ⟨k,0,none⟩ cs:=by
 obtain ⟨cur,e,h1,h2,h3⟩:=h
 intro j p hp
 have hlt:j<cur.size:=by rw [h2];exact (List.getElem?_eq_some_iff.1 hp).1
 refine ⟨cur.getD j undef, ?_,h3 j p hp⟩
 rw [Addr.add_lit',Nat.zero_add]
 simp [World.cell?,h1,Array.getD_eq_getD_getElem?,hlt]
theorem BP {e:U.E} {l:List (U.El e)} {val:Value} {u:Use} {Do:Option Nat} (h:ObOK X w N g e l val u Do) {j:Nat} {x:U.El e} (hx:l[j]? =some x) (hne:V.cells e x≠[]):
  ∃b n cp,val= .slice (some b) n cp∧At X w N g (b.add (j*X.esize e)) (V.cells e x):=by
 obtain ⟨A,n,cp,hv,_,_,h1,_⟩:=h.val
 cases hcs:V.cells e x with
 |nil=>exact absurd hcs hne
 |cons p0 rest=>
  obtain ⟨b,v,hA,_⟩:=h1 j x hx 0 p0 (by rw [hcs];rfl)
  subst hA
  refine ⟨b,n,cp,hv,fun k p hp=> ?_⟩
  obtain ⟨b',v,hb,hc,hr,_⟩:=h1 j x hx k p (hcs▸hp)
  cases hb
  exact ⟨v,by rw [Addr.add_add];exact hc,hr⟩
theorem py (X:Link V P) {e:U.E} (x:U.El e):V.cells e x≠[]:=by
 intro h
 have h1:=X.len e x
 have h2:=X.epos e
 rw [h] at h1
 simp at h1;omega
theorem jf {i v:Nat} {k:Ob U→M U} (hr:(gw i v k).Rel K σ fp r τ gp): ∃ob fp',σ.o i=some ob∧ob.ver=v∧(k ob).Rel K σ fp' r τ gp:=by
 unfold gw at hr
 simp only [M.Rel] at hr
 split at hr
 ·rename_i ob hob
  cases hb:Nat.beq ob.ver v with
  |true=>rw [hb] at hr;exact ⟨ob,_,hob,by simpa using hb,hr⟩
  |false=>rw [hb] at hr;exact hr.elim
 ·exact hr.elim
theorem kM {α:Type} {l:List α} {i:Int} {x:α} (h:ar l i=some x):0≤i∧l[i.toNat]? =some x:=by
 unfold ar at h
 split at h
 ·exact ⟨‹_›,h⟩
 ·cases h
theorem JI: ∀ {cs:List (PV U)} {k:IntKind} {l:List Int},md cs=some (k,l)→ ∀ (i:Nat) n,l[i]? =some n→cs[i]? =some (.int k n):=by
 intro cs
 induction cs with
 |nil=>intro k l h;simp [md] at h
 |cons p cs ih=>
  intro k l h i n hn
  unfold md at h
  split at h
  ·rename_i e;cases e
  ·rename_i k' m e
   injection e with e1 e2
   subst e1;subst e2
   cases h
   cases i with
   |zero=>simp at hn;subst hn;rfl
   |succ i=>simp at hn
  ·rename_i k' m rest _ e
   injection e with e1 e2
   subst e1;subst e2
   split at h
   ·rename_i k2 l2 h2
    split at h
    ·rename_i hk
     subst hk
     cases h
     cases i with
     |zero=>simp at hn;subst hn;rfl
     |succ i=>exact ih h2 i n (by simpa using hn)
    ·cases h
   ·cases h
  ·cases h
theorem AO (h:Sim X c a.tmps w σ g D) {t:TypeId} {p:PV U} {u:Value} {k:PV U→M U} (hp:Rep X w (c.N g D) g u p) (hr:(rg V t p k).Rel K σ fp r τ gp):
  ∃x fp' v,(k x).Rel K σ fp' r τ gp∧(Instr.loadAt t u).run P w= .ok v w∧Rep X w (c.N g D) g v x:=by
 have fin: ∀ {cs:List (PV U)} {off:Nat} {b:Addr} {fp':List Loc},(jv V t cs off k).Rel K σ fp' r τ gp→At X w (c.N g D) g b cs→u= .pointer (some (b.add off))→
   ∃x fp' v,(k x).Rel K σ fp' r τ gp∧(Instr.loadAt t u).run P w= .ok v w∧Rep X w (c.N g D) g v x:=by
  intro cs off b fp' hc hat hu
  unfold jv at hc
  split at hc
  ·rename_i x hx
   obtain ⟨v,hv,hrep⟩:=Q3 hx hat
   exact ⟨x,_,v,hc,by simp [Instr.loadAt,hu,Instr.sureAddr,hv],hrep⟩
  ·exact hc.elim
 unfold rg at hr
 split at hr
 ·rename_i id off
  simp only [M.Rel] at hr
  split at hr
  ·rename_i cs hcs
   obtain ⟨kb,hkb,hbox⟩:=h.boxes _ _ hcs
   cases hp with
   |ptr _ _ b hb=>
    rw [hb] at hkb;cases hkb
    exact fin hr (yH hbox) (by rw [Addr.add_lit',Nat.zero_add])
  ·exact hr.elim
 ·rename_i e x off
  cases hp with
  |eptr _ _ _ b val h1 h2=>
   exact fin hr (fun k p hp=>⟨val k,(h1 k p hp).1,h2 k p hp⟩) rfl
 ·rename_i i v j off
  obtain ⟨ob,fp',hob,hver,hr2⟩:=jf hr
  obtain ⟨x,hx,hr3⟩:=hr2
  obtain ⟨h0,hx'⟩:=kM hx
  obtain ⟨val,hkap,hOb⟩:=h.objs i ob hob
  cases hp with
  |optr _ _ _ _ _ ver e val' hk hv he hs=>
   rw [hkap] at hk
   injection hk with hk
   injection hk with e1 hk
   injection hk with e2 e3
   subst e1;subst e2;subst e3
   obtain ⟨b,n,cp,hval,rfl⟩:=he hver.symm
   obtain ⟨b',n',cp',hval',hat⟩:=BP hOb hx' (py X x)
   rw [hval] at hval'
   cases hval'
   exact fin hr3 hat (by rw [Addr.add_add])
 ·rename_i id n
  simp only [M.Rel] at hr
  split at hr
  ·rename_i cs hcs
   obtain ⟨kb,hkb,hbox⟩:=h.boxes _ _ hcs
   split at hr
   ·rename_i kd l row hl hrow
    cases hag:row.agg with
    |true=>rw [hag] at hr;exact hr.elim
    |false=>
     rw [hag] at hr
     obtain ⟨m,hm,hr2⟩:=hr
     obtain ⟨h0,hm'⟩:=kM hm
     have hcell:=JI hl _ _ hm'
     cases hp with
     |aptr _ _ b hb hn=>
      rw [hb] at hkb;cases hkb
      obtain ⟨v,hv,hrep⟩:=yH hbox _ _ hcell
      rw [Addr.add_lit',Nat.zero_add] at hv
      refine ⟨.int kd m,_,v,hr2, ?_,hrep⟩
      simp [Instr.loadAt,Instr.sureAddr,loadVar,n7 (X.ty t row hrow),hag,hv]
   ·exact hr.elim
  ·exact hr.elim
 ·exact hr.elim
theorem Pw {t:TypeId} {x:Operand} (hd:aU c.nt ⟨dst,.load t x,ty,pos,after,gd⟩=true) (h:Sim X c a.tmps w σ g D) (hr:(a_ V S ⟨dst,.load t x,ty,pos,after,gd⟩).Rel K σ fp r τ gp)
  (ht:Then X c a r τ next Q):(⟨dst,.load t x,ty,pos,after,gd⟩:Oper).wp P a w next Q:=by
 obtain ⟨p,fp',hp,hr'⟩:=bD h hr
 obtain ⟨x',fp'',v,hr2,hrun,hrep⟩:=AO h hp hr'
 exact bg hd ht h (by simp [execOp,hrun]) hrep hr2
end
end Go.Proofs.YtapmagaejigpnaaGreatDoor.PI
namespace Go.Proofs.YtapmagaejigpnaaGreatDoor.PI
open Go
set_option linter.unusedVariables false
set_option linter.unusedSimpArgs false
section
variable {U:Uni} {V:Env U} {P:Program} {X:Link V P} {K:bJ U} {S:Side U} {c:Ctx} {tm:Array Value} {w:World} {σ:St U} {g:Gh U} {D:Nat→Option Nat}
variable {r:MR U} {τ:St U} {fp gp:List Loc} {N:au}
theorem Rep.less {v:Value} {p q:PV U} (h:Rep X w N g v p) (hl:p.less q):Rep X w N g v q:=by
 rcases hl with rfl|⟨e,l,o,rfl,rfl⟩
 ·exact h
 ·cases h with
  |sl A n cp _ _ _ val h1 h2 h3 h4 h5=>exact .sl A n cp e l .none val h1 h2 trivial h4 h5
theorem ObOK.rep {e:U.E} {l:List (U.El e)} {val:Value} {u:Use} (h:ObOK X w N g e l val u none):Rep X w N g val (.sl e l .none):=by
 obtain ⟨A,n,cp,rfl,hl,hc,h1,_⟩:=h.val
 refine .sl A n cp e l .none (fun j k=>match A with|some a=>(w.cell? (a.add (j*X.esize e+k))).getD undef|none=>undef) hl hc trivial (fun j x hx k p hp=> ?_) (fun j x hx k p hp=> ?_)
 ·obtain ⟨a,v,rfl,hv,hr,hn⟩:=h1 j x hx k p hp
  exact ⟨a,rfl,by simp [hv],hn rfl⟩
 ·obtain ⟨a,v,rfl,hv,hr,hn⟩:=h1 j x hx k p hp
  simp [hv];exact hr
structure Same (σ σ':St U):Prop where
 r: ∀n,σ'.r n=σ.r n
 b: ∀n,σ'.b n=σ.b n
 o: ∀n,σ'.o n=σ.o n
theorem Same.refl (σ:St U):Same σ σ:=⟨fun _=>rfl,fun _=>rfl,fun _=>rfl⟩
theorem Same.trans {σ σ' σ'':St U} (h:Same σ σ') (h':Same σ' σ''):Same σ σ'':=
 ⟨fun n=>(h'.r n).trans (h.r n),fun n=>(h'.b n).trans (h.b n),fun n=>(h'.o n).trans (h.o n)⟩
structure Frozen (X:Link V P) (c:Ctx) (tm:Array Value) (w:World) (g:Gh U) (σ:St U) (D:Nat→Option Nat) (σ':St U) (D':Nat→Option Nat):Prop where
 same:Same σ σ'
 sim:Sim X c tm w σ' g D'
 D: ∀i b,D' i=some b→D i=some b
theorem Frozen.rep {σ':St U} {D':Nat→Option Nat} (h:Frozen X c tm w g σ D σ' D') {v:Value} {p:PV U} (hr:Rep X w (c.N g D) g v p):Rep X w (c.N g D') g v p:=
 hr.mono X (fun _ _ _ _=>rfl) (fun b o _ hn=>by
  rcases hn with hn|hn|⟨i,hi⟩
  ·exact .inl hn
  ·exact .inr (.inl hn)
  ·exact .inr (.inr ⟨i,h.D i b hi⟩)) (Gh.le.refl g)
theorem Frozen.refl (h:Sim X c tm w σ g D):Frozen X c tm w g σ D σ D:=⟨.refl σ,h,fun _ _ h=>h⟩
theorem Frozen.trans {σ' σ'':St U} {D' D'':Nat→Option Nat} (h:Frozen X c tm w g σ D σ' D') (h':Frozen X c tm w g σ' D' σ'' D''):Frozen X c tm w g σ D σ'' D'':=
 ⟨h.same.trans h'.same,h'.sim,fun i b hb=>h.D i b (h'.D i b hb)⟩
mutual
def PV.noOwn:PV U→Bool
 | .own .. =>false
 | .agg cs=>PV.noOwnL cs
 | .tuple cs=>PV.noOwnL cs
 | .func _ a b=>PV.noOwnL a&&PV.noOwnL b
 | .iface _ v=>PV.noOwn v
 |_=>true
def PV.noOwnL:List (PV U)→Bool
 |[]=>true
 |v::r=>PV.noOwn v&&PV.noOwnL r
end
mutual
theorem jK: ∀ (p:PV U) {σ:St U} {D:Nat→Option Nat} {v:Value} {k:PV U→M U} {fp:List Loc},Sim X c tm w σ g D→Rep X w (c.N g D) g v p→(frz p k).Rel K σ fp r τ gp→
  ∃q σ' D' fp',(k q).Rel K σ' fp' r τ gp∧Frozen X c tm w g σ D σ' D'∧Rep X w (c.N g D') g v q∧q.noOwn=true
 | .own i ver,σ,D,v,k,fp,h,hv,hr=>by
  unfold frz at hr
  obtain ⟨ob,fp',hob,hver,hr2⟩:=jf hr
  have hs:=h.frz (i:=i)
  have hF:Frozen X c tm w g σ D (σ.setU i .read) (fun j=>if j=i then none else D j):=⟨⟨fun _=>rfl,fun _=>rfl,fun _=>rfl⟩,hs,fun j b hb=>by
   split at hb
   ·cases hb
   ·exact hb⟩
  obtain ⟨val,hk,hO⟩:=hs.objs i ob hob
  rw [if_pos rfl] at hO
  refine ⟨_,_,_,_,hr2,hF, ?_,rfl⟩
  cases hv with
  |own _ _ _ ver' e val' hk' hle he _=>
   rw [hk] at hk'
   injection hk' with e1
   injection e1 with e1 e2
   injection e2 with e2 e3
   subst e2;subst e3;subst e1
   rw [he hver.symm]
   exact hO.rep
 | .agg cs,σ,D,v,k,fp,h,hv,hr=>by
  unfold frz at hr
  cases hv with
  |agg vs _ hl hh=>
   obtain ⟨qs,σ',D',fp',hk,hF,hlen,hq,hn⟩:=jJ cs h (fun j=>vs.getD j undef) hh hr
   exact ⟨_,_,_,_,hk,hF,.agg vs qs (hl.trans hlen.symm) hq,by simp [PV.noOwn,hn]⟩
 | .tuple cs,σ,D,v,k,fp,h,hv,hr=>by
  unfold frz at hr
  cases hv with
  |tuple vs _ hl hh=>
   obtain ⟨qs,σ',D',fp',hk,hF,hlen,hq,hn⟩:=jJ cs h (fun j=>vs.getD j undef) hh hr
   exact ⟨_,_,_,_,hk,hF,.tuple vs qs (hl.trans hlen.symm) hq,by simp [PV.noOwn,hn]⟩
 | .func f a b,σ,D,v,k,fp,h,hv,hr=>by
  unfold frz at hr
  cases hv with
  |func _ _ _ vs us ha hb h1 h2=>
   obtain ⟨qs,σ',D',fp',hk,hF,hlen,hq,hn⟩:=jJ a h (fun j=>vs.getD j undef) h1 hr
   obtain ⟨qs',σ'',D'',fp'',hk',hF',hlen',hq',hn'⟩:=jJ b hF.sim (fun j=>us.getD j undef) (fun j p hp=>hF.rep (h2 j p hp)) hk
   exact ⟨_,_,_,_,hk',hF.trans hF',.func f qs qs' vs us (ha.trans hlen.symm) (hb.trans hlen'.symm) (fun j p hp=>hF'.rep (hq j p hp)) hq',by simp [PV.noOwn,hn,hn']⟩
 | .iface t p,σ,D,v,k,fp,h,hv,hr=>by
  unfold frz at hr
  cases hv with
  |iface _ u _ hu=>
   obtain ⟨q,σ',D',fp',hk,hF,hq,hn⟩:=jK p h hu hr
   exact ⟨_,_,_,_,hk,hF,.iface t u q hq,by simp [PV.noOwn,hn]⟩
 | .undef,σ,D,v,k,fp,h,hv,hr=>⟨_,_,_,_,hr,.refl h,hv,rfl⟩
 | .int _ _,σ,D,v,k,fp,h,hv,hr=>⟨_,_,_,_,hr,.refl h,hv,rfl⟩
 | .bool _,σ,D,v,k,fp,h,hv,hr=>⟨_,_,_,_,hr,.refl h,hv,rfl⟩
 | .str _,σ,D,v,k,fp,h,hv,hr=>⟨_,_,_,_,hr,.refl h,hv,rfl⟩
 | .sl _ _ _,σ,D,v,k,fp,h,hv,hr=>⟨_,_,_,_,hr,.refl h,hv,rfl⟩
 | .fresh _ _,σ,D,v,k,fp,h,hv,hr=>⟨_,_,_,_,hr,.refl h,hv,rfl⟩
 | .ptr _ _,σ,D,v,k,fp,h,hv,hr=>⟨_,_,_,_,hr,.refl h,hv,rfl⟩
 | .aptr _ _,σ,D,v,k,fp,h,hv,hr=>⟨_,_,_,_,hr,.refl h,hv,rfl⟩
 | .eptr _ _ _,σ,D,v,k,fp,h,hv,hr=>⟨_,_,_,_,hr,.refl h,hv,rfl⟩
 | .optr _ _ _ _,σ,D,v,k,fp,h,hv,hr=>⟨_,_,_,_,hr,.refl h,hv,rfl⟩
 | .mp _,σ,D,v,k,fp,h,hv,hr=>⟨_,_,_,_,hr,.refl h,hv,rfl⟩
 | .nilIface,σ,D,v,k,fp,h,hv,hr=>⟨_,_,_,_,hr,.refl h,hv,rfl⟩
 | .nilPtr,σ,D,v,k,fp,h,hv,hr=>⟨_,_,_,_,hr,.refl h,hv,rfl⟩
 | .nilFunc,σ,D,v,k,fp,h,hv,hr=>⟨_,_,_,_,hr,.refl h,hv,rfl⟩
theorem jJ: ∀ (ps:List (PV U)) {σ:St U} {D:Nat→Option Nat} {k:List (PV U)→M U} {fp:List Loc},Sim X c tm w σ g D→(vs:Nat→Value)→(∀ (j:Nat) p,ps[j]? =some p→Rep X w (c.N g D) g (vs j) p)→(gL ps k).Rel K σ fp r τ gp→
  ∃qs σ' D' fp',(k qs).Rel K σ' fp' r τ gp∧Frozen X c tm w g σ D σ' D'∧qs.length=ps.length∧(∀ (j:Nat) p,qs[j]? =some p→Rep X w (c.N g D') g (vs j) p)∧PV.noOwnL qs=true
 |[],σ,D,k,fp,h,vs,hv,hr=>⟨[],_,_,_,hr,.refl h,rfl,by simp,rfl⟩
 |p::ps,σ,D,k,fp,h,vs,hv,hr=>by
  unfold gL at hr
  obtain ⟨q,σ',D',fp',hk,hF,hq,hn⟩:=jK p h (hv 0 p rfl) hr
  obtain ⟨qs,σ'',D'',fp'',hk',hF',hlen,hqs,hn'⟩:=jJ ps hF.sim (fun j=>vs (j+1)) (fun j p hp=>hF.rep (hv (j+1) p (by simpa using hp))) hk
  refine ⟨q::qs,_,_,_,hk',hF.trans hF',by simp [hlen],fun j p hp=> ?_,by simp [PV.noOwnL,hn,hn']⟩
  cases j with
  |zero=>simp at hp;subst hp;exact hF'.rep hq
  |succ j=>exact hqs j p (by simpa using hp)
end
end
end Go.Proofs.YtapmagaejigpnaaGreatDoor.PI
namespace Go.Proofs.YtapmagaejigpnaaGreatDoor.PI
open Go
set_option linter.unusedVariables false
set_option linter.unusedSimpArgs false
section
variable {U:Uni} {V:Env U} {P:Program} {X:Link V P} {K:bJ U} {S:Side U} {c:Ctx} {a:Act} {w:World} {σ:St U} {g:Gh U} {D:Nat→Option Nat}
variable {next:Act→World→Prop} {Q:Exit→Act→World→Prop} {r:MR U} {τ:St U} {fp gp:List Loc} {N:au}
variable {dst:Option Tmp} {ty:TypeId} {pos:String} {after:Array Edge} {gd:Option (Nat×Bool)}
theorem qI {t:TypeId} {v:Value} {p:PV U} (hf:fY V t p=true) (h:Rep X w N g v p): ∃row,V.ty t=some row∧p.cs.length=row.size∧v.cells.size=row.size∧
  (∀ (j:Nat) q,p.cs[j]? =some q→Rep X w N g (v.cells.getD j undef) q)∧(∀x∈v.cells.toList,x.oneCell'=true):=by
 unfold fY at hf
 split at hf
 case h_2=>cases hf
 rename_i row hrow
 simp only [Bool.and_eq_true] at hf
 obtain ⟨h1,h2⟩:=hf
 obtain ⟨h3,h4⟩:=Dz h h2
 have h1':p.cs.length=row.size:=by simpa using h1
 refine ⟨row,hrow,h1',by omega,h4,fun x hx=> ?_⟩
 obtain ⟨j,hj,rfl⟩:=List.getElem_of_mem hx
 have hj':j<p.cs.length:=by simp at hj;omega
 have:=h4 j _ (List.getElem?_eq_getElem hj')
 have hx:v.cells.getD j undef=v.cells.toList[j]:=by simp at hj;simp [Array.getD_eq_getD_getElem?,hj]
 rw [hx] at this
 exact DA this (List.all_eq_true.1 h2 _ (List.getElem_mem hj'))
theorem lR {α:Type} (l m:List α) (off j:Nat) (h:off+m.length≤l.length):
  (l.take off++(m++l.drop (off+m.length)))[j]? =if j<off then l[j]? else if j<off+m.length then m[j-off]? else l[j]? :=by
 have hl:(l.take off).length=off:=by simp;omega
 by_cases h1:j<off
 ·rw [List.getElem?_append_left (by omega),if_pos h1,List.getElem?_take_of_lt h1]
 ·rw [List.getElem?_append_right (by omega),hl,if_neg h1]
  by_cases h2:j<off+m.length
  ·rw [if_pos h2,List.getElem?_append_left (by omega)]
  ·rw [if_neg h2,List.getElem?_append_right (by omega),List.getElem?_drop]
   congr 1;omega
theorem sr {α:Type} (l m:List α) (off:Nat) (h:off+m.length≤l.length):(l.take off++(m++l.drop (off+m.length))).length=l.length:=by
 simp;omega
theorem EK {cur us:List Value} {cs ps:List (PV U)} {off:Nat} (hl:cur.length=cs.length) (hl':us.length=ps.length) (hle:off+ps.length≤cs.length)
  (h1: ∀ (j:Nat) p,cs[j]? =some p→Rep X w N g (cur.getD j undef) p) (h2: ∀ (j:Nat) p,ps[j]? =some p→Rep X w N g (us.getD j undef) p):
  ∀ (j:Nat) p,(eM cs off ps)[j]? =some p→Rep X w N g ((cur.take off++(us++cur.drop (off+us.length))).getD j undef) p:=by
 intro j p hp
 unfold eM at hp
 rw [lR _ _ _ _ hle] at hp
 rw [List.getD_eq_getElem?_getD,lR _ _ _ _ (by omega)]
 split at hp
 ·rw [if_pos ‹_›,←List.getD_eq_getElem?_getD];exact h1 j p hp
 ·rw [if_neg ‹_›]
  split at hp
  ·rw [if_pos (by omega),←List.getD_eq_getElem?_getD];exact h2 _ p hp
  ·rw [if_neg (by omega),←List.getD_eq_getElem?_getD];exact h1 j p hp
theorem D4 (X:Link V P) {t:TypeId} {row:Ty U} (hrow:V.ty t=some row) {k off:Nat} {cur:Array Value} {e:TypeId} {u:Value} (hk:w.heap[k]? =some (.cells cur e (0,0)))
  (hs:u.cells.size=row.size) (hle:off+u.cells.size≤cur.size) (h1: ∀x∈u.cells.toList,x.oneCell'=true):
  (Instr.storeAt t (.pointer (some ⟨k,off,none⟩)) u).run P w= .ok () (w.setRow k (cur.toList.take off++(u.cells.toList++cur.toList.drop (off+u.cells.toList.length))).toArray):=by
 have hst:=run_storeCells_at P k off e u.cells.toList 0 cur w hk (by simpa using hle) h1
 simp only [Nat.add_zero,List.append_assoc] at hst
 simp only [Instr.storeAt,Instr.sureAddr,Sem.run_bind,Sem.run_pure,Result.andThen_ok,storeVar,wH (X:=X) (X.ty t row hrow),hs,ne_eq,not_true,if_false,hst]
theorem Sx (h:Sim X c a.tmps w σ g D) {t:TypeId} {p v:PV U} {u x:Value} {m:M U} (hp:Rep X w (c.N g D) g u p) (hv:Rep X w (c.N g D) g x v) (hr:(w6 V t p v m).Rel K σ fp r τ gp):
  ∃σ' D' fp' w',m.Rel K σ' fp' r τ gp∧(Instr.storeAt t u x).run P w= .ok () w'∧Sim X c a.tmps w' σ' g D':=by
 unfold w6 at hr
 split at hr
 ·rename_i id off
  simp only [M.Rel] at hr
  split at hr
  ·rename_i cs hcs
   cases hb:fY V t v&&Nat.ble (off+v.cs.length) cs.length with
   |false=>rw [hb] at hr;exact hr.elim
   |true=>
    rw [hb] at hr
    simp only [Bool.and_eq_true,Nat.ble_eq] at hb
    obtain ⟨hf,hle⟩:=hb
    obtain ⟨row,hrow,hl1,hl2,hcells,hone⟩:=qI hf hv
    obtain ⟨k,hk,cur,e,hblk,hsz,hcur⟩:=h.boxes _ _ hcs
    cases hp with
    |ptr _ _ b hb=>
     rw [hb] at hk
     injection hk with hk
     subst hk
     have hrun:=D4 X hrow hblk hl2 (off:=off) (by omega) hone
     refine ⟨_,D,_,_,hr,hrun, ?_⟩
     have hw: ∀b' o,b'<w.heap.size→ ¬ (c.N g D) b' o→(w.setRow b (cur.toList.take off++(x.cells.toList++cur.toList.drop (off+x.cells.toList.length))).toArray).cell? ⟨b',o,none⟩=w.cell? ⟨b',o,none⟩:=fun b' o _ hn=>
      cell_setRow_other w b _ _ (fun e=>hn (.inr (.inl ⟨id,by simp at e;rw [e];exact hb⟩)))
     refine h.setBox hb rfl rfl rfl (by simp) (fun b' hne=>setRow_other w b b' _ hne) ⟨_,e,setRow_heap w b cur _ e _ hblk, ?_,fun j q hq=> ?_⟩
     ·simp only [eM,List.size_toArray,List.length_append,List.length_take,List.length_drop,Array.length_toList];omega
     ·have:=EK (X:=X) (w:=w) (N:=c.N g D) (g:=g) (cur:=cur.toList) (us:=x.cells.toList) (by simpa using hsz) (by simp;omega) hle (fun j p hp=>by
        have:=hcur j p hp
        simpa [Array.getD_eq_getD_getElem?,List.getD_eq_getElem?_getD] using this) (fun j p hp=>by
        have:=hcells j p hp
        simpa [Array.getD_eq_getD_getElem?,List.getD_eq_getElem?_getD] using this) j q hq
      have:=this.mono X hw (fun _ _ _ h=>h) (Gh.le.refl g)
      simpa [Array.getD_eq_getD_getElem?,List.getD_eq_getElem?_getD] using this
  ·exact hr.elim
 ·rename_i i ver j off
  obtain ⟨v',σ1,D1,fp1,hr1,hF,hv1,_⟩:=jK v h hv hr
  have hp1:=hF.rep hp
  have h1:=hF.sim
  obtain ⟨ob,fp2,hob,hver,hr2⟩:=jf hr1
  simp only [M.Rel] at hr2
  cases hu:σ1.u i with
  |read=>rw [hu] at hr2;exact hr2.elim
  |app=>rw [hu] at hr2;exact hr2.elim
  |wr=>
   rw [hu] at hr2
   obtain ⟨y,hy,hr3⟩:=hr2
   obtain ⟨h0,hy'⟩:=kM hy
   dsimp only at hr3
   cases hb:fY V t v'&&Nat.ble (off+v'.cs.length) (V.cells ob.e y).length with
   |false=>rw [hb] at hr3;exact hr3.elim
   |true=>
    rw [hb] at hr3
    simp only [Bool.and_eq_true,Nat.ble_eq] at hb
    obtain ⟨hf,hle⟩:=hb
    simp only [cond_true] at hr3
    split at hr3
    case h_2=>exact hr3.elim
    rename_i z hz
    obtain ⟨row,hrow,hl1,hl2,hcells,hone⟩:=qI hf hv1
    obtain ⟨val,hkap,hOb⟩:=h1.objs i ob hob
    rw [hu] at hOb
    obtain ⟨A,n,cp,hval,hlen,hcp,hcl,hD⟩:=hOb.val
    have hlen':=X.len ob.e y
    cases hDi:D1 i with
    |none=>
     rw [hDi] at hD
     have:=(hD.1 rfl)
     have hlt:=(List.getElem?_eq_some_iff.1 hy').1
     omega
    |some b=>
     rw [hDi] at hD
     obtain ⟨_,cur,hA,hblk,hsz,hmax⟩:=hD
     cases hp1 with
     |optr _ _ _ _ _ ver' e' val' hk' hle' he hs=>
      rw [hkap] at hk'
      injection hk' with hk'
      injection hk' with e1 hk'
      injection hk' with e2 e3
      subst e1;subst e2;subst e3
      obtain ⟨b',n',cp',hval',hu'⟩:=he hver.symm
      subst hA
      rw [hval] at hval'
      injection hval' with q1 q2 q3
      injection q1 with q1
      subst q1;subst q2;subst q3
      rw [Addr.add_lit',Nat.zero_add] at hu'
      subst hu'
      have hjlt:j.toNat<n:=by have:=(List.getElem?_eq_some_iff.1 hy').1;omega
      have hbound:j.toNat*X.esize ob.e+X.esize ob.e≤cp*X.esize ob.e:=by
       have:(j.toNat+1)*X.esize ob.e≤cp*X.esize ob.e:=Nat.mul_le_mul_right _ (by omega)
       rw [Nat.add_mul,Nat.one_mul] at this;exact this
      have hrun:=D4 X hrow hblk hl2 (off:=j.toNat*X.esize ob.e+off) (by omega) hone
      refine ⟨_,D1,_,_,hr3,hrun, ?_⟩
      obtain ⟨t1,t2,t3⟩:=X.toEl _ _ _ hz
      have hN:(c.N g D1)=(c.N g D1):=rfl
      have hw: ∀b' o,b'<w.heap.size→ ¬ (c.N g D1) b' o→(w.setRow b (cur.toList.take (j.toNat*X.esize ob.e+off)++(x.cells.toList++cur.toList.drop (j.toNat*X.esize ob.e+off+x.cells.toList.length))).toArray).cell? ⟨b',o,none⟩=w.cell? ⟨b',o,none⟩:=fun b' o _ hn=>
       cell_setRow_other w b _ _ (fun e=>hn (.inr (.inr ⟨i,by simp at e;rw [e];exact hDi⟩)))
      have hmono: ∀ {v:Value} {p:PV U},Rep X w (c.N g D1) g v p→Rep X (w.setRow b (cur.toList.take (j.toNat*X.esize ob.e+off)++(x.cells.toList++cur.toList.drop (j.toNat*X.esize ob.e+off+x.cells.toList.length))).toArray) (c.N g D1) g v p:=
       fun h=>h.mono X hw (fun _ _ _ h=>h) (Gh.le.refl g)
      have hcurlen:(cur.toList.take (j.toNat*X.esize ob.e+off)++(x.cells.toList++cur.toList.drop (j.toNat*X.esize ob.e+off+x.cells.toList.length))).length=cur.size:=by
       rw [sr _ _ _ (by simp;omega)];simp
      refine h1.objsTurn (fun q=>q=i) rfl rfl rfl (by simp) (fun b' _ hne=>setRow_other w b b' _ (fun e=>hne i rfl (e▸hDi))) (fun _=>rfl) (fun _=>rfl) rfl (Gh.le.refl g)
       (fun q b' hq=>by
        by_cases hqi:q=i
        ·exact .inr (.inl ⟨i,rfl,by rw [←hqi];exact hq⟩)
        ·exact .inl ⟨hqi,hq⟩)
       (fun q q' b' _ hq hq'=>h1.dinj _ _ _ hq hq')
       (fun q hq=>⟨by rw [St.setO_o,if_neg (Ne.symm hq)],rfl,rfl,rfl⟩)
       (fun q ob' hq hob'=> ?_) (fun q hq ho=>by subst hq;rw [St.setO_o,if_pos rfl] at ho;cases ho)
      subst hq
      rw [St.setO_o,if_pos rfl] at hob'
      injection hob' with hob'
      subst hob'
      refine ⟨val,hkap, ?_⟩
      simp only [St.setO_u,hu,hDi]
      refine ⟨some ⟨b,0,none⟩,n,cp,hval,by simpa using hlen,hcp,fun j' x' hx' k' p' hp'=> ?_,by simp,_,rfl,setRow_heap w b cur _ _ _ hblk,by rw [List.size_toArray,hcurlen,hsz],hmax⟩
      have hkl:k'<X.esize ob.e:=by have:=(List.getElem?_eq_some_iff.1 hp').1;rw [X.len] at this;exact this
      refine ⟨⟨b,0,none⟩,(cur.toList.take (j.toNat*X.esize ob.e+off)++(x.cells.toList++cur.toList.drop (j.toNat*X.esize ob.e+off+x.cells.toList.length))).getD (j'*X.esize ob.e+k') undef,rfl, ?_, ?_,by simp⟩
      ·rw [Addr.add_lit',Nat.zero_add,cell_setRow_same w b _ cur _ _ (0,0) hblk]
       have hj'lt:j'<n:=by
        have:=(List.getElem?_eq_some_iff.1 hx').1
        simp at this;omega
       have hb2:j'*X.esize ob.e+X.esize ob.e≤cp*X.esize ob.e:=by
        have:(j'+1)*X.esize ob.e≤cp*X.esize ob.e:=Nat.mul_le_mul_right _ (by omega)
        rw [Nat.add_mul,Nat.one_mul] at this;exact this
       have hlt:j'*X.esize ob.e+k'<(cur.toList.take (j.toNat*X.esize ob.e+off)++(x.cells.toList++cur.toList.drop (j.toNat*X.esize ob.e+off+x.cells.toList.length))).length:=by
        rw [hcurlen];omega
       rw [List.getElem?_toArray,List.getD_eq_getElem?_getD,List.getElem?_eq_getElem hlt];rfl
      ·apply hmono
       rw [List.getElem?_set] at hx'
       rw [List.getD_eq_getElem?_getD,lR _ _ _ _ (by simp;omega)]
       have hold: ∀ (j2 k2:Nat) x2 p2,ob.l[j2]? =some x2→(V.cells ob.e x2)[k2]? =some p2→Rep X w (c.N g D1) g (cur.toList[j2*X.esize ob.e+k2]?.getD undef) p2:=by
        intro j2 k2 x2 p2 hx2 hp2
        obtain ⟨a2,v2,ha2,hc2,hr2,_⟩:=hcl j2 x2 hx2 k2 p2 hp2
        cases ha2
        rw [Addr.add_lit',Nat.zero_add] at hc2
        unfold World.cell? at hc2
        rw [hblk] at hc2
        simp at hc2
        simp [hc2];exact hr2
       by_cases hjj:j.toNat=j'
       ·subst hjj
        rw [if_pos rfl] at hx'
        split at hx'
        case isFalse=>cases hx'
        injection hx' with hx'
        subst hx'
        have hsl:=sr (V.cells ob.e y) v'.cs off hle
        have hk2:k'<(eM (V.cells ob.e y) off v'.cs).length:=by unfold eM;rw [hsl,X.len];exact hkl
        obtain ⟨q,hq,hless⟩:=t3 k' _ (List.getElem?_eq_getElem hk2)
        rw [hp'] at hq
        injection hq with hq
        subst hq
        refine Rep.less ?_ hless
        have hsp:(eM (V.cells ob.e y) off v'.cs)[k']? =some (eM (V.cells ob.e y) off v'.cs)[k']:=List.getElem?_eq_getElem hk2
        generalize (eM (V.cells ob.e y) off v'.cs)[k']=sp at hsp
        unfold eM at hsp
        rw [lR _ _ _ _ hle] at hsp
        by_cases hA:k'<off
        ·rw [if_pos hA] at hsp
         rw [if_pos (by omega)]
         exact hold _ _ _ _ hy' hsp
        ·rw [if_neg hA] at hsp
         rw [if_neg (by omega)]
         by_cases hB:k'<off+v'.cs.length
         ·rw [if_pos hB] at hsp
          rw [if_pos (by simp;omega),show j.toNat*X.esize ob.e+k'-(j.toNat*X.esize ob.e+off)=k'-off by omega]
          have:=hcells _ _ hsp
          simpa [Array.getD_eq_getD_getElem?] using this
         ·rw [if_neg hB] at hsp
          rw [if_neg (by simp;omega)]
          exact hold _ _ _ _ hy' hsp
       ·rw [if_neg hjj] at hx'
        have hne: ¬ (j.toNat*X.esize ob.e+off≤j'*X.esize ob.e+k'∧j'*X.esize ob.e+k'<j.toNat*X.esize ob.e+off+x.cells.toList.length):=by
         rintro ⟨q1,q2⟩
         have hsz':off+x.cells.toList.length≤X.esize ob.e:=by simp;omega
         rcases Nat.lt_or_gt_of_ne hjj with h3|h3
         ·have:(j.toNat+1)*X.esize ob.e≤j'*X.esize ob.e:=Nat.mul_le_mul_right _ h3
          rw [Nat.add_mul,Nat.one_mul] at this;omega
         ·have:(j'+1)*X.esize ob.e≤j.toNat*X.esize ob.e:=Nat.mul_le_mul_right _ h3
          rw [Nat.add_mul,Nat.one_mul] at this;omega
        have:=hold _ _ _ _ hx' hp'
        split
        ·exact this
        ·split
         ·omega
         ·exact this
 ·exact hr.elim
theorem PH {t:TypeId} {x y:Operand} (h:Sim X c a.tmps w σ g D) (hr:(a_ V S ⟨dst,.store t x y,ty,pos,after,gd⟩).Rel K σ fp r τ gp)
  (ht:Then X c a r τ next Q):(⟨dst,.store t x y,ty,pos,after,gd⟩:Oper).wp P a w next Q:=by
 cases hdst:dst with
 |some d=>subst hdst;exact hr.elim
 |none=>
 subst hdst
 obtain ⟨p,fp1,hp,hr1⟩:=bD h hr
 obtain ⟨v,fp2,hv,hr2⟩:=bD h hr1
 have hdst:(none:Option Tmp)=none:=rfl
 obtain ⟨σ',D',fp',w',hr3,hrun,hs⟩:=Sx h hp hv hr2
 obtain ⟨h1,h2,_⟩:=hr3
 subst h2
 exact wp_skip ht hdst hs (by simp [execOp,hrun]) h1
end
end Go.Proofs.YtapmagaejigpnaaGreatDoor.PI
namespace Go.Proofs.YtapmagaejigpnaaGreatDoor.PI
open Go
set_option linter.unusedVariables false
set_option linter.unusedSimpArgs false
section
variable {U:Uni} {V:Env U} {P:Program} {X:Link V P} {K:bJ U} {S:Side U} {c:Ctx} {a:Act} {w:World} {σ:St U} {g:Gh U} {D:Nat→Option Nat}
variable {next:Act→World→Prop} {Q:Exit→Act→World→Prop} {r:MR U} {τ:St U} {fp gp:List Loc} {N:au}
variable {dst:Option Tmp} {ty:TypeId} {pos:String} {after:Array Edge} {gd:Option (Nat×Bool)}
theorem qr {op:Op} {d:Nat} {nt:Nat} (h:aU nt ⟨some d,op,ty,pos,after,gd⟩=true):d<nt:=by simpa [aU] using h
theorem GH {op:Op} {d:Nat} (hd:aU c.nt ⟨some d,op,ty,pos,after,gd⟩=true) (h:Sim X c a.tmps w σ g D) {b:Nat} (hfree:σ.b b=none) (hfix:c.fix b=none) {cells:Array Value} {et:TypeId} {cs:List (PV U)}
  (hsz:cells.size=cs.length) (hc: ∀ (j:Nat) p,cs[j]? =some p→Rep X w (c.N g D) g (cells.getD j undef) p)
  (hrun:(execOp a.eval ⟨some d,op,ty,pos,after,gd⟩).run P w= .ok (.value (.pointer (some ⟨w.heap.size,0,none⟩))) (w.alloc (.cells cells et)))
  (hr:r= .done) (hτ:τ=(σ.setB b (.cells cs)).setR d (.ptr b 0)) (ht:Then X c a r τ next Q):(⟨some d,op,ty,pos,after,gd⟩:Oper).wp P a w next Q:=by
 subst hτ
 have hs:=h.newBox hfree hfix (o:= .cells cells et) (b:= .cells cs) ⟨cells,et,heap_alloc_new w _,hsz,fun j p hp=>h.newRep hfree _ (hc j p hp)⟩
 obtain ⟨h1,h2⟩:=hs.putAct (o:=⟨some d,op,ty,pos,after,gd⟩) hd (p:= .ptr b 0) (.ptr b 0 w.heap.size (by simp [Gh.put]))
 unfold Oper.wp
 rw [hrun]
 exact ht.done hr _ _ _ _ h2 h1
def PinOK (S:Side U) (c:Ctx):Prop:= ∀d,S.pin d=true→c.fix (5000000+d)=none
theorem PinOK.free (hP:PinOK S c) {d:Nat} (hd:d<c.nt):c.fix (S.boxId d)=none:=by
 unfold Side.boxId
 cases hp:S.pin d with
 |true=>exact hP d hp
 |false=>exact c.free hd
theorem Pi (hP:PinOK S c) {t:TypeId} (hd:aU c.nt ⟨dst,.alloc t,ty,pos,after,gd⟩=true) (h:Sim X c a.tmps w σ g D) (hr:(a_ V S ⟨dst,.alloc t,ty,pos,after,gd⟩).Rel K σ fp r τ gp)
  (ht:Then X c a r τ next Q):(⟨dst,.alloc t,ty,pos,after,gd⟩:Oper).wp P a w next Q:=by
 simp only [a_] at hr
 split at hr
 case h_2=>exact hr.elim
 rename_i d z hz
 simp only [M.Rel] at hr
 split at hr
 case h_2=>exact hr.elim
 rename_i hfree
 obtain ⟨h1,h2,_⟩:=hr
 unfold Env.zero at hz
 split at hz
 case h_2=>cases hz
 rename_i row hrow
 injection hz with hz
 subst hz
 obtain ⟨i,zv,hi,hs,hzero,hzs⟩:=(X.ty t row hrow).info
 obtain ⟨hl,hrep⟩:=GT X (w:=w) (N:=c.N g D) (g:=g) hzs
 refine GH hd h hfree (hP.free (qr hd)) (cells:=zv.cells) (et:=t) (by simpa using hl) (fun j p hp=> ?_) ?_ h1 h2 ht
 ·have:=hrep j p hp
  simpa [Array.getD_eq_getD_getElem?,List.getD_eq_getElem?_getD] using this
 ·simp [execOp,Instr.alloc,zeroValue,typeInfo,hi,hzero,newVar,newRow]
theorem Pl (hP:PinOK S c) {t:TypeId} {x:Operand} (hd:aU c.nt ⟨dst,.box t x,ty,pos,after,gd⟩=true) (h:Sim X c a.tmps w σ g D) (hr:(a_ V S ⟨dst,.box t x,ty,pos,after,gd⟩).Rel K σ fp r τ gp)
  (ht:Then X c a r τ next Q):(⟨dst,.box t x,ty,pos,after,gd⟩:Oper).wp P a w next Q:=by
 obtain ⟨p,fp1,hp,hr1⟩:=bD h hr
 split at hr1
 case h_2=>exact hr1.elim
 rename_i d hdd
 cases hdd
 simp only [M.Rel] at hr1
 split at hr1
 case h_2=>exact hr1.elim
 rename_i hfree
 cases hf:fY V t p with
 |false=>rw [hf] at hr1;exact hr1.elim
 |true=>
  rw [hf] at hr1
  obtain ⟨h1,h2,_⟩:=hr1
  obtain ⟨row,hrow,hl1,hl2,hcells,_⟩:=qI hf hp
  exact GH hd h hfree (hP.free (qr hd)) (cells:=(a.eval x).cells) (et:=t) (by omega) hcells (by simp [execOp,Instr.box,newVar,newRow]) h1 h2 ht
theorem Q2 {f:Field} {q:TypeInfo} (hi:P.info? f.type=some q) (hq:0<q.size) (b:Addr) (w:World):(fieldPlace b f).run P w= .ok (b.add f.offset) w:=by
 have:q.size≠0:=by omega
 simp [fieldPlace,sizeOf,typeInfo,hi,this]
theorem EH {t:TypeId} {i off:Nat} {ft:TypeId} (X:Link V P) (h:V.soff t i=some (off,ft)): ∃ (fs:Array Field) (f:Field) (q:TypeInfo),P.underlying t=some (.struct fs)∧fs[i]? =some f∧f.offset=off∧f.type=ft∧P.info? ft=some q∧0<q.size:=by
 unfold Env.soff at h
 split at h
 ·rename_i row hrow
  split at h
  ·rename_i harr;exact (X.ty t row hrow).fields harr i off ft h
  ·cases h
 ·cases h
theorem Pt {s:TypeId} {x:Operand} {f:Nat} (hd:aU c.nt ⟨dst,.fieldAddr s x f,ty,pos,after,gd⟩=true) (h:Sim X c a.tmps w σ g D) (hr:(a_ V S ⟨dst,.fieldAddr s x f,ty,pos,after,gd⟩).Rel K σ fp r τ gp)
  (ht:Then X c a r τ next Q):(⟨dst,.fieldAddr s x f,ty,pos,after,gd⟩:Oper).wp P a w next Q:=by
 obtain ⟨p,fp1,hp,hr1⟩:=bD h hr
 have run: ∀ {off:Nat} {ft:TypeId} {b:Addr},V.soff s f=some (off,ft)→a.eval x= .pointer (some b)→(execOp a.eval ⟨dst,.fieldAddr s x f,ty,pos,after,gd⟩).run P w= .ok (.value (.pointer (some (b.add off)))) w:=by
  intro off ft b ho he
  obtain ⟨fs,fd,q,hu,hf,h1,h2,h3,h4⟩:=EH X ho
  subst h1;subst h2
  simp [execOp,Instr.fieldAt,run_underlying hu,hf,he,Instr.sureAddr,Q2 h3 h4]
 split at hr1
 ·rename_i off ft id n ho
  have hp':=hp
  generalize he:a.eval x=ev at hp
  cases hp with
  |ptr _ _ b hb=>exact bg hd ht h (run ho he) (by rw [Addr.add_lit'];exact .ptr id (n+off) b hb) hr1
 ·rename_i off ft e y n ho
  generalize he:a.eval x=ev at hp
  cases hp with
  |eptr _ _ _ b val h1 h2=>exact bg hd ht h (run ho he) (by rw [Addr.add_add];exact .eptr e y (n+off) b val h1 h2) hr1
 ·rename_i off ft i v j n ho
  generalize he:a.eval x=ev at hp
  cases hp with
  |optr _ _ _ _ val ver e val' hk hv he' hs=>
   obtain ⟨b,rfl⟩:=hs
   refine bg hd ht h (run ho he) (.optr i v j (n+off) _ ver e val' hk hv (fun hver=> ?_) ⟨_,rfl⟩) hr1
   obtain ⟨b',n',cp,h1,h2⟩:=he' hver
   injection h2 with h2
   injection h2 with h2
   subst h2
   exact ⟨b',n',cp,h1,by rw [Addr.add_add,Nat.add_assoc]⟩
 ·exact hr1.elim
theorem Ps {s:TypeId} {x:Operand} {f:Nat} (hd:aU c.nt ⟨dst,.field s x f,ty,pos,after,gd⟩=true) (h:Sim X c a.tmps w σ g D) (hr:(a_ V S ⟨dst,.field s x f,ty,pos,after,gd⟩).Rel K σ fp r τ gp)
  (ht:Then X c a r τ next Q):(⟨dst,.field s x f,ty,pos,after,gd⟩:Oper).wp P a w next Q:=by
 obtain ⟨p,fp1,hp,hr1⟩:=bD h hr
 split at hr1
 case h_2=>exact hr1.elim
 rename_i off ft cs ho
 unfold jv at hr1
 split at hr1
 case h_2=>exact hr1.elim
 rename_i y hy
 obtain ⟨fs,fd,q,hu,hf,h1,h2,h3,h4⟩:=EH X ho
 subst h1;subst h2
 generalize he:a.eval x=ev at hp
 cases hp with
 |agg vs _ hl hh=>
  unfold pA at hy
  split at hy
  case h_2=>cases hy
  rename_i row hrow
  have hT:=X.ty fd.type row hrow
  cases hag:row.agg with
  |true=>
   rw [hag] at hy
   simp only [cond_true] at hy
   cases hle:Nat.ble (fd.offset+row.size) cs.length with
   |false=>rw [hle] at hy;cases hy
   |true=>
    rw [hle] at hy
    simp only [cond_true,Option.some.injEq] at hy
    subst hy
    have hle':fd.offset+row.size≤cs.length:=by simpa using hle
    refine bg hd ht h (v:= .agg (vs.extract fd.offset (fd.offset+row.size))) ?_ (.agg _ _ ?_ fun j p hp=> ?_) hr1
    ·simp [execOp,Instr.field,run_underlying hu,hf,he,asAgg,part,n7 hT,hag,wH hT]
    ·simp;omega
    ·have hj:j<row.size:=by have:=(List.getElem?_eq_some_iff.1 hp).1;simp at this;omega
     rw [List.getElem?_take_of_lt hj,List.getElem?_drop] at hp
     have:=hh _ _ hp
     have hlt:fd.offset+j<vs.size:=by rw [hl];exact (List.getElem?_eq_some_iff.1 hp).1
     have e:(vs.extract fd.offset (fd.offset+row.size)).getD j undef=vs.getD (fd.offset+j) undef:=by
      have h5:j<min (fd.offset+row.size) vs.size-fd.offset:=by omega
      simp [Array.getD_eq_getD_getElem?,Array.getElem?_extract,h5,hlt]
     rw [e];exact this
  |false=>
   rw [hag] at hy
   simp only [cond_false] at hy
   have:=hh _ _ hy
   have hlt:fd.offset<vs.size:=by rw [hl];exact (List.getElem?_eq_some_iff.1 hy).1
   refine bg hd ht h (v:=vs.getD fd.offset undef) ?_ this hr1
   simp [execOp,Instr.field,run_underlying hu,hf,he,asAgg,part,n7 hT,hag,hlt,Array.getD_eq_getD_getElem?]
theorem ng {t:TypeId} {e:U.E} (X:Link V P) (h:V.isEl t e=true):P.underlying t=some (.slice (X.etid e))∧V.ety t=some e:=by
 unfold Env.isEl at h
 split at h
 ·rename_i e' he
  split at h
  ·rename_i hh
   subst hh
   refine ⟨?_,he⟩
   unfold Env.ety at he
   split at he
   ·rename_i row hrow;exact (X.ty t row hrow).elem _ he
   ·cases he
  ·cases h
 ·cases h
theorem n5 (X:Link V P) (e:U.E) (w:World):(sizeOf (X.etid e)).run P w= .ok (X.esize e) w:=by
 obtain ⟨i,hi,_,hs,_⟩:=X.einfo e
 simp [sizeOf,typeInfo,hi,hs]
theorem DZ {t:TypeId} {e:U.E} (X:Link V P) (h:V.isEl t e=true) {b:Addr} {n cp:Nat} {k:IntKind} {i:Int} (h0:0≤i) (h1:i.toNat<n) (w:World):
  (Instr.indexAt t (.slice (some b) n cp) (.int k i)).run P w= .ok (.pointer (some (b.add (i.toNat*X.esize e)))) w:=by
 have hi:i<(n:Int):=by omega
 simp [Instr.indexAt,asIntOf,run_underlying (ng X h).1,h0,hi,n5 X e]
theorem Pv {t:TypeId} {x i:Operand} (hd:aU c.nt ⟨dst,.indexAddr t x i,ty,pos,after,gd⟩=true) (h:Sim X c a.tmps w σ g D) (hr:(a_ V S ⟨dst,.indexAddr t x i,ty,pos,after,gd⟩).Rel K σ fp r τ gp)
  (ht:Then X c a r τ next Q):(⟨dst,.indexAddr t x i,ty,pos,after,gd⟩:Oper).wp P a w next Q:=by
 obtain ⟨p,fp1,hp,hr1⟩:=bD h hr
 obtain ⟨q,fp2,hq,hr2⟩:=bD h hr1
 split at hr2
 ·rename_i e l o k n
  cases hE:V.isEl t e with
  |false=>rw [hE] at hr2;exact hr2.elim
  |true=>
   rw [hE] at hr2
   obtain ⟨y,hy,hr3⟩:=hr2
   obtain ⟨h0,hy'⟩:=kM hy
   have hq':=b8 hq
   generalize he:a.eval x=ev at hp
   cases hp with
   |sl A m cp _ _ _ val hl hcp ho h1 h2=>
    obtain ⟨b,hA⟩: ∃b,A=some b:=by
     cases hcs:V.cells e y with
     |nil=>exact absurd hcs (py X y)
     |cons p0 rest=>obtain ⟨b,hb,_⟩:=h1 _ y hy' 0 p0 (by rw [hcs];rfl);exact ⟨b,hb⟩
    subst hA
    have hlt:n.toNat<m:=by rw [←hl];exact (List.getElem?_eq_some_iff.1 hy').1
    refine bg hd ht h (v:= .pointer (some (b.add (n.toNat*X.esize e)))) ?_ ?_ hr3
    ·simp [execOp,he,hq',DZ X hE h0 hlt]
    ·have:=Rep.eptr (X:=X) (w:=w) (N:=c.N g D) (g:=g) e y 0 (b.add (n.toNat*X.esize e)) (val n.toNat) (fun k p hp=>by
      obtain ⟨b',hb',hc,hn⟩:=h1 _ y hy' k p hp
      cases hb'
      rw [Addr.add_add,Addr.add_block,Addr.add_off,Nat.add_assoc]
      exact ⟨hc,hn⟩) (fun k p hp=>h2 _ y hy' k p hp)
     rwa [Addr.add_zero] at this
 ·rename_i ii v k n
  obtain ⟨ob,fp3,hob,hver,hr3⟩:=jf hr2
  cases hE:V.isEl t ob.e with
  |false=>rw [hE] at hr3;exact hr3.elim
  |true=>
   rw [hE] at hr3
   obtain ⟨y,hy,hr4⟩:=hr3
   obtain ⟨h0,hy'⟩:=kM hy
   have hq':=b8 hq
   obtain ⟨val,hkap,hOb⟩:=h.objs ii ob hob
   obtain ⟨b,m,cp,hval,_⟩:=BP hOb hy' (py X y)
   obtain ⟨_,m',cp',hval',hlen,_⟩:=hOb.val
   rw [hval] at hval';cases hval'
   generalize he:a.eval x=ev at hp
   cases hp with
   |own _ _ _ ver e val' hk hle hev hs=>
    have hkk:=hk
    rw [hkap] at hk
    injection hk with hk
    injection hk with e1 hk
    injection hk with e2 e3
    subst e1;subst e2;subst e3
    have hev':=hev hver.symm
    subst hev'
    have hlt:n.toNat<m:=by rw [←hlen];exact (List.getElem?_eq_some_iff.1 hy').1
    refine bg hd ht h (v:= .pointer (some (b.add (n.toNat*X.esize ob.e)))) ?_ ?_ hr4
    ·simp [execOp,he,hq',hval,DZ X hE h0 hlt]
    ·exact .optr ii v n 0 _ ob.ver ob.e _ hkk hle (fun _=>⟨b,m,cp,hval,by rw [Nat.add_zero]⟩) ⟨_,rfl⟩
 ·rename_i id k n
  simp only [M.Rel] at hr2
  split at hr2
  case h_2=>exact hr2.elim
  rename_i cs hcs
  split at hr2
  case h_2=>exact hr2.elim
  rename_i m hm
  cases hml:Nat.beq m cs.length with
  |false=>rw [hml] at hr2;exact hr2.elim
  |true=>
   rw [hml] at hr2
   obtain ⟨hn,hr3⟩:=fR hr2
   have hq':=b8 hq
   obtain ⟨e,qq,hu,hi,hs,hmr,_⟩: ∃ (e:TypeId) (q:TypeInfo),P.underlying t=some (.array m e)∧P.info? e=some q∧q.size=1∧True∧True:=by
    unfold Env.arr at hm
    split at hm
    ·rename_i row hrow
     obtain ⟨e,q,h1,h2,h3,_⟩:=(X.ty t row hrow).arr m hm
     exact ⟨e,q,h1,h2,h3,trivial,trivial⟩
    ·cases hm
   have hml':m=cs.length:=by simpa using hml
   generalize he:a.eval x=ev at hp
   cases hp with
   |ptr _ _ b hb=>
    refine bg hd ht h (v:= .pointer (some ⟨b,n.toNat,none⟩)) ?_ (.aptr id n b hb hn.1) hr3
    have hlt:n<(m:Int):=by omega
    simp [execOp,he,hq',Instr.indexAt,asIntOf,run_underlying hu,hn.1,hlt,sizeOf,typeInfo,hi,hs,Instr.sureAddr,Addr.add_lit']
 ·exact hr2.elim
theorem Pu {t:TypeId} {x i:Operand} (hd:aU c.nt ⟨dst,.index t x i,ty,pos,after,gd⟩=true) (h:Sim X c a.tmps w σ g D) (hr:(a_ V S ⟨dst,.index t x i,ty,pos,after,gd⟩).Rel K σ fp r τ gp)
  (ht:Then X c a r τ next Q):(⟨dst,.index t x i,ty,pos,after,gd⟩:Oper).wp P a w next Q:=by
 obtain ⟨p,fp1,hp,hr1⟩:=bD h hr
 obtain ⟨q,fp2,hq,hr2⟩:=bD h hr1
 split at hr2
 case h_2=>exact hr2.elim
 rename_i s k n
 cases hE:Nat.beq (V.eqk t) 4 with
 |false=>rw [hE] at hr2;exact hr2.elim
 |true=>
  rw [hE] at hr2
  obtain ⟨y,hy,hr3⟩:=hr2
  obtain ⟨h0,hy'⟩:=kM hy
  have hq':=b8 hq
  have hp':=rZ hp
  have hu:P.underlying t=some .string:=by
   simp [Env.eqk] at hE
   split at hE
   ·rename_i row hrow;exact (X.ty t row hrow).isStr hE
   ·cases hE
  refine bg hd ht h (v:= .int .u8 y.toNat) ?_ (.int _ _) hr3
  have hy2:s[n.toNat]? =some y:=by
   have:n.toNat<s.data.size:=by have:=(List.getElem?_eq_some_iff.1 hy').1;simpa using this
   have hb:n.toNat<s.size:=this
   rw [getElem?_pos s n.toNat hb]
   have:=(List.getElem?_eq_some_iff.1 hy').2
   simp at this
   exact congrArg some this
  simp [execOp,hq',hp',Instr.index,asIntOf,run_underlying hu,h0,hy2]
end
end Go.Proofs.YtapmagaejigpnaaGreatDoor.PI
namespace Go.Proofs.YtapmagaejigpnaaGreatDoor.PI
open Go
set_option linter.unusedVariables false
set_option linter.unusedSimpArgs false
section
variable {U:Uni} {V:Env U} {P:Program} {X:Link V P} {K:bJ U} {S:Side U} {c:Ctx} {a:Act} {w:World} {σ:St U} {g:Gh U} {D:Nat→Option Nat}
variable {next:Act→World→Prop} {Q:Exit→Act→World→Prop} {r:MR U} {τ:St U} {fp gp:List Loc} {N:au}
variable {dst:Option Tmp} {ty:TypeId} {pos:String} {after:Array Edge} {gd:Option (Nat×Bool)}
theorem Me (off:Nat): ∀ (l:List Value) (s:Nat) (cells:Array Value),off+s+l.length≤cells.size→
  (l.zipIdx s).foldl (fun cs (x:Value×Nat)=>cs.setIfInBounds (off+x.2) x.1) cells=(cells.toList.take (off+s)++(l++cells.toList.drop (off+s+l.length))).toArray:=by
 intro l
 induction l with
 |nil=>intro s cells h;simp
 |cons v l ih=>
  intro s cells h
  simp only [List.zipIdx_cons,List.foldl_cons]
  rw [ih (s+1) _ (by simp at h ⊢;omega)]
  congr 1
  have e:=list_seg_step cells.toList (off+s) v l (by simp at h ⊢;omega)
  simp only [Array.toList_setIfInBounds,List.length_cons,List.append_assoc,Nat.add_assoc] at e ⊢
  exact e
theorem zQ (off:Nat) (vs cells:Array Value) (h:off+vs.size≤cells.size):
  vs.zipIdx.foldl (fun cs (x:Value×Nat)=>cs.setIfInBounds (off+x.2) x.1) cells=(cells.toList.take off++(vs.toList++cells.toList.drop (off+vs.toList.length))).toArray:=by
 rw [←Array.foldl_toList,Array.toList_zipIdx]
 have:=Me off vs.toList 0 cells (by simpa using h)
 simpa using this
theorem L7 {t:TypeId} {a7:Nat→Option (Nat×Nat)} (hpl: ∀i off ft row,V.foff t i=some (off,ft)→V.ty ft=some row→a7 i=some (off,row.size)):
  ∀ (parts:List (Nat×PV U)) (us:List (Nat×Value)) (cs cs':List (PV U)) (cells:Array Value),parts.map (·.1)=us.map (·.1)→
   (∀ (j:Nat) i p u,parts[j]? =some (i,p)→us[j]? =some (i,u)→Rep X w N g u p)→cells.size=cs.length→(∀ (j:Nat) p,cs[j]? =some p→Rep X w N g (cells.getD j undef) p)→
   fill V t cs parts=some cs'→ ∃cells',Instr.fill a7 cells us=some cells'∧cells'.size=cs'.length∧(∀ (j:Nat) p,cs'[j]? =some p→Rep X w N g (cells'.getD j undef) p):=by
 intro parts
 induction parts with
 |nil=>
  intro us cs cs' cells hm _ hl hc hf
  cases us with
  |nil=>simp [fill] at hf;subst hf;exact ⟨cells,rfl,hl,hc⟩
  |cons=>simp at hm
 |cons ip parts ih=>
  intro us cs cs' cells hm hp hl hc hf
  obtain ⟨i,p⟩:=ip
  cases us with
  |nil=>simp at hm
  |cons iu us=>
   obtain ⟨i',u⟩:=iu
   simp only [List.map_cons,List.cons.injEq] at hm
   obtain ⟨rfl,hm⟩:=hm
   simp only [fill] at hf
   split at hf
   case h_2=>cases hf
   rename_i off ft ho
   cases hb:fY V ft p&&Nat.ble (off+p.cs.length) cs.length with
   |false=>rw [hb] at hf;cases hf
   |true=>
    rw [hb] at hf
    simp only [Bool.and_eq_true,Nat.ble_eq] at hb
    obtain ⟨hft,hle⟩:=hb
    simp only [cond_true] at hf
    obtain ⟨row,hrow,h1,h2,h3,_⟩:=qI hft (hp 0 i p u rfl rfl)
    have hplace:=hpl i off ft row ho hrow
    simp only [Instr.fill,hplace]
    rw [if_neg (by simp;omega),zQ off u.cells cells (by omega)]
    refine ih us _ cs' _ hm (fun j i p u h1 h2=>hp (j+1) i p u (by simpa using h1) (by simpa using h2)) ?_ (fun j q hq=> ?_) hf
    ·simp only [eM,List.size_toArray,List.length_append,List.length_take,List.length_drop,Array.length_toList];omega
    ·have:=EK (X:=X) (w:=w) (N:=N) (g:=g) (cur:=cells.toList) (us:=u.cells.toList) (by simpa using hl) (by simp;omega) hle (fun j p hp=>by
       have:=hc j p hp
       simpa [Array.getD_eq_getD_getElem?,List.getD_eq_getElem?_getD] using this) (fun j p hp=>by
       have:=h3 j p hp
       simpa [Array.getD_eq_getD_getElem?,List.getD_eq_getElem?_getD] using this) j q hq
     simpa [Array.getD_eq_getD_getElem?,List.getD_eq_getElem?_getD] using this
theorem zO (h:Sim X c a.tmps w σ g D) {ty':Nat→TypeId}: ∀ {parts:List (Nat×Operand)} {k:List (Nat×PV U)→M U} {fp:List Loc}
  (hr:(qE V ty' parts k).Rel K σ fp r τ gp),∃vs fp',vs.map (·.1)=parts.map (·.1)∧(∀ (j:Nat) i p u,vs[j]? =some (i,p)→(parts.map fun (i,x)=>(i,a.eval x))[j]? =some (i,u)→Rep X w (c.N g D) g u p)∧(k vs).Rel K σ fp' r τ gp:=by
 intro parts
 induction parts with
 |nil=>intro k fp hr;exact ⟨[],fp,rfl,by simp,hr⟩
 |cons ix parts ih=>
  intro k fp hr
  obtain ⟨i,x⟩:=ix
  obtain ⟨v,fp',hv,hr'⟩:=bD h hr
  obtain ⟨vs,fp'',hl,hvs,hk⟩:=ih hr'
  refine ⟨(i,v)::vs,fp'',by simp [hl],fun j i' p u hp hu=> ?_,hk⟩
  cases j with
  |zero=>simp at hp hu;obtain ⟨rfl,rfl⟩:=hp;obtain ⟨_,rfl⟩:=hu;exact hv
  |succ j=>exact hvs j i' p u (by simpa using hp) (by simpa using hu)
theorem OR {α β:Type} {f:α→Option β}: ∀ {l:List α} {ps:List β},l.mapM f=some ps→ ∀ (i:Nat) x,l[i]? =some x→ ∃y,f x=some y∧ps[i]? =some y:=by
 intro l
 induction l with
 |nil=>intro ps h i x hx;simp at hx
 |cons b l ih=>
  intro ps h i x hx
  simp only [List.mapM_cons,Option.bind_eq_bind,Option.pure_def] at h
  cases hb:f b with
  |none=>simp [hb] at h
  |some y=>
   cases hr:l.mapM f with
   |none=>simp [hb,hr] at h
   |some rest=>
    simp [hb,hr] at h
    subst h
    cases i with
    |zero=>simp at hx;subst hx;exact ⟨y,hb,rfl⟩
    |succ i=>exact ih hr i x (by simpa using hx)
theorem Pm {t:TypeId} {parts:Array (Nat×Operand)} (hd:aU c.nt ⟨dst,.build t parts,ty,pos,after,gd⟩=true) (h:Sim X c a.tmps w σ g D) (hr:(a_ V S ⟨dst,.build t parts,ty,pos,after,gd⟩).Rel K σ fp r τ gp)
  (ht:Then X c a r τ next Q):(⟨dst,.build t parts,ty,pos,after,gd⟩:Oper).wp P a w next Q:=by
 simp only [a_] at hr
 split at hr
 case h_2=>exact hr.elim
 rename_i z of0 hz hf0
 obtain ⟨vs,fp1,hl,hvs,hr1⟩:=zO h hr
 split at hr1
 case h_2=>exact hr1.elim
 rename_i cs hcs
 unfold Env.zero at hz
 split at hz
 case h_2=>cases hz
 rename_i row hrow
 injection hz with hz
 subst hz
 have hT:=X.ty t row hrow
 obtain ⟨i,zv,hi,hs,hzero,hzs⟩:=hT.info
 obtain ⟨hzl,hrep⟩:=GT X (w:=w) (N:=c.N g D) (g:=g) hzs
 have go: ∀a7,(∀i off ft row,V.foff t i=some (off,ft)→V.ty ft=some row→a7 i=some (off,row.size))→(∀cells,Instr.fill a7 zv.cells (parts.toList.map fun (i,x)=>(i,a.eval x))=some cells→P.built t (parts.map fun (i,x)=>(i,a.eval x)).toList=some cells)→
   (⟨dst,.build t parts,ty,pos,after,gd⟩:Oper).wp P a w next Q:=by
  intro a7 hpl hb
  obtain ⟨cells,hf,hsz,hrp⟩:=L7 (X:=X) (w:=w) (N:=c.N g D) (g:=g) hpl vs (parts.toList.map fun (i,x)=>(i,a.eval x)) row.zero cs zv.cells (by rw [hl];simp [Function.comp_def]) hvs (by simpa using hzl) (fun j p hp=>by
   have:=hrep j p hp
   simpa [Array.getD_eq_getD_getElem?,List.getD_eq_getElem?_getD] using this) hcs
  exact bg hd ht h (v:= .agg cells) (by simp only [execOp,Sem.run_bind,run_build w t _ cells (hb cells hf),Result.andThen_ok,Sem.run_pure]) (.agg cells cs hsz hrp) hr1
 have hfo: ∀i off ft,V.foff t i=some (off,ft)→row.fields[i]? =some (off,ft):=by
  intro i off ft hh
  simpa [Env.foff,hrow] using hh
 cases harr:row.arr with
 |none=>
  obtain ⟨off0,ft0⟩:=of0
  obtain ⟨fs,_,_,hu,_⟩:=hT.fields harr 0 off0 ft0 (hfo _ _ _ hf0)
  obtain ⟨ps,hps⟩:=hT.places fs hu
  refine go (ps.toArray[·]?) (fun i off ft row' ho hrow'=> ?_) (fun cells hf=> ?_)
  ·obtain ⟨fs',f,q,hu',hf,h1,h2,h3,_⟩:=hT.fields harr i off ft (hfo _ _ _ ho)
   rw [hu] at hu'
   injection hu' with hu'
   injection hu' with hu'
   subst hu'
   obtain ⟨y,hy,hy2⟩:=OR hps i f (by simpa using hf)
   obtain ⟨i2,z2,hi2,hs2,_⟩:=(X.ty ft row' hrow').info
   rw [h2,h3] at hy
   rw [h3] at hi2
   injection hi2 with hi2
   subst hi2
   simp at hy
   subst hy
   simp [hy2,h1,hs2]
  ·simp only [Program.built,hi,hu,hzero,hps]
   simpa using hf
 |some n=>
  obtain ⟨e,q,hu,hq,hq1,hn,hfl⟩:=hT.arr n harr
  refine go (fun i=>some (i*q.size,q.size)) (fun i off ft row' ho hrow'=> ?_) (fun cells hf=> ?_)
  ·obtain ⟨_,h2,h3⟩:=hfl i off ft (hfo _ _ _ ho)
   obtain ⟨i2,z2,hi2,hs2,_⟩:=(X.ty ft row' hrow').info
   rw [h2,hq] at hi2
   injection hi2 with hi2
   subst hi2
   simp [hs2.symm,hq1,h3]
  ·simp only [Program.built,hi,hu,hzero,hq]
   simpa using hf
end
end Go.Proofs.YtapmagaejigpnaaGreatDoor.PI
namespace Go.Proofs.YtapmagaejigpnaaGreatDoor.PI
open Go
set_option linter.unusedVariables false
set_option linter.unusedSimpArgs false
section
variable {U:Uni} {V:Env U} {P:Program} {X:Link V P} {K:bJ U} {S:Side U} {c:Ctx} {a:Act} {w:World} {σ:St U} {g:Gh U} {D:Nat→Option Nat}
variable {next:Act→World→Prop} {Q:Exit→Act→World→Prop} {r:MR U} {τ:St U} {fp gp:List Loc} {N:au}
variable {dst:Option Tmp} {ty:TypeId} {pos:String} {after:Array Edge} {gd:Option (Nat×Bool)}
theorem LS {tm:Array Value} {e:U.E}: ∀ (vs:List (Nat×PV U)) {n0:Nat} {σ:St U} {D:Nat→Option Nat} {k:List (U.El e)→M U} {fp:List Loc} (us:Nat→Value),Sim X c tm w σ g D→
  (∀ (j:Nat) i p,vs[j]? =some (i,p)→Rep X w (c.N g D) g (us j) p)→(qA V e n0 vs k).Rel K σ fp r τ gp→
  ∃l σ' D' fp',(k l).Rel K σ' fp' r τ gp∧Frozen X c tm w g σ D σ' D'∧l.length=vs.length∧(∀ (j:Nat) i p,vs[j]? =some (i,p)→i=n0+j)∧
   ∀ (j:Nat) x,l[j]? =some x→(us j).cells.size=X.esize e∧ ∀ (k:Nat) p,(V.cells e x)[k]? =some p→Rep X w (c.N g D') g ((us j).cells.getD k undef) p:=by
 intro vs
 induction vs with
 |nil=>intro n0 σ D k fp us h _ hr;exact ⟨[],_,_,_,hr,.refl h,rfl,by simp,by simp⟩
 |cons ip vs ih=>
  intro n0 σ D k fp us h hv hr
  obtain ⟨i,p⟩:=ip
  unfold qA at hr
  cases hi:Nat.beq i n0 with
  |false=>rw [hi] at hr;exact hr.elim
  |true=>
   rw [hi] at hr
   simp only [cond_true] at hr
   obtain ⟨q,σ1,D1,fp1,hr1,hF,hq,_⟩:=jK p h (hv 0 i p rfl) hr
   split at hr1
   case h_2=>exact hr1.elim
   rename_i x hx
   obtain ⟨l,σ2,D2,fp2,hr2,hF2,hl,hidx,hcells⟩:=ih (fun j=>us (j+1)) hF.sim (fun j i p hp=>hF.rep (hv (j+1) i p (by simpa using hp))) hr1
   obtain ⟨t1,t2,t3⟩:=X.toEl _ _ _ hx
   obtain ⟨s1,s2⟩:=Dz hq t2
   refine ⟨x::l,σ2,D2,fp2,hr2,hF.trans hF2,by simp [hl],fun j i' p' hp=> ?_,fun j y hy=> ?_⟩
   ·cases j with
    |zero=>simp at hp;obtain ⟨rfl,_⟩:=hp;simpa using hi
    |succ j=>have:=hidx j i' p' (by simpa using hp);omega
   ·cases j with
    |zero=>
     simp at hy;subst hy
     refine ⟨by omega,fun k p hp=>hF2.rep ?_⟩
     have hk:k<q.cs.length:=by
      have:=(List.getElem?_eq_some_iff.1 hp).1;rw [X.len] at this;omega
     obtain ⟨q',hq',hless⟩:=t3 k _ (List.getElem?_eq_getElem hk)
     rw [hp] at hq'
     injection hq' with hq'
     subst hq'
     exact (s2 k _ (List.getElem?_eq_getElem hk)).less hless
    |succ j=>exact hcells j y (by simpa using hy)
theorem L8 (size:Nat): ∀ (us:List (Nat×Value)) (n0:Nat) (cells:Array Value),(n0+us.length)*size≤cells.size→(∀ (j:Nat) i u,us[j]? =some (i,u)→i=n0+j∧u.cells.size=size)→
  ∃cells',Instr.fill (fun i=>some (i*size,size)) cells us=some cells'∧cells'.size=cells.size∧(∀q,q<n0*size→cells'[q]? =cells[q]?)∧
   ∀ (j:Nat) i u,us[j]? =some (i,u)→ ∀k,k<size→cells'[(n0+j)*size+k]? =u.cells[k]? :=by
 intro us
 induction us with
 |nil=>intro n0 cells _ _;exact ⟨cells,rfl,rfl,fun _ _=>rfl,by simp⟩
 |cons iu us ih=>
  intro n0 cells hle hu
  obtain ⟨i,u⟩:=iu
  obtain ⟨hi,hs⟩:=hu 0 i u rfl
  have hi':i=n0:=by simpa using hi
  subst hi'
  have hb:(i+1)*size≤cells.size:=Nat.le_trans (Nat.mul_le_mul_right _ (by simp)) hle
  have hb':i*size+size≤cells.size:=by rw [Nat.add_mul,Nat.one_mul] at hb;exact hb
  simp only [Instr.fill]
  rw [if_neg (by simp;omega),zQ _ _ _ (by omega)]
  have hlen:(cells.toList.take (i*size)++(u.cells.toList++cells.toList.drop (i*size+u.cells.toList.length))).length=cells.size:=by
   rw [sr _ _ _ (by simp;omega)];simp
  obtain ⟨cells',hf,hsz,hold,hnew⟩:=ih (i+1) (cells.toList.take (i*size)++(u.cells.toList++cells.toList.drop (i*size+u.cells.toList.length))).toArray (by
    rw [List.size_toArray,hlen];refine Nat.le_trans (Nat.mul_le_mul_right _ ?_) hle;simp;omega) (fun j i' u' hj=>by
    have:=hu (j+1) i' u' (by simpa using hj);omega)
  refine ⟨cells',hf,by rw [hsz,List.size_toArray,hlen],fun q hq=> ?_,fun j i' u' hj k hk=> ?_⟩
  ·rw [hold q (by rw [Nat.add_mul,Nat.one_mul];omega),List.getElem?_toArray,lR _ _ _ _ (by simp;omega),if_pos hq];simp
  ·cases j with
   |zero=>
    simp at hj
    obtain ⟨rfl,rfl⟩:=hj
    rw [Nat.add_zero,hold _ (by rw [Nat.add_mul,Nat.one_mul];omega),List.getElem?_toArray,lR _ _ _ _ (by simp;omega),if_neg (by omega),if_pos (by simp;omega),
     show i*size+k-i*size=k by omega]
    simp
   |succ j=>
    have:=hnew j i' u' (by simpa using hj) k hk
    rw [show i+(j+1)=i+1+j by omega];exact this
theorem Pn {t:TypeId} {n:Nat} {parts:Array (Nat×Operand)} (hd:aU c.nt ⟨dst,.buildSlice t n parts,ty,pos,after,gd⟩=true) (h:Sim X c a.tmps w σ g D) (hr:(a_ V S ⟨dst,.buildSlice t n parts,ty,pos,after,gd⟩).Rel K σ fp r τ gp)
  (ht:Then X c a r τ next Q):(⟨dst,.buildSlice t n parts,ty,pos,after,gd⟩:Oper).wp P a w next Q:=by
 simp only [a_] at hr
 split at hr
 case h_2=>exact hr.elim
 rename_i e he
 obtain ⟨vs,fp1,hl,hvs,hr1⟩:=zO h hr
 have hlen:vs.length=parts.toList.length:=by simpa using congrArg List.length hl
 obtain ⟨l,σ1,D1,fp2,hr2,hF,hll,hidx,hcells⟩:=LS (X:=X) (w:=w) (g:=g) vs (fun j=>((parts.toList.map fun (i,x)=>(i,a.eval x)).getD j (0,undef)).2) h (fun j i p hp=>by
  have hj:j<parts.toList.length:=by rw [←hlen];exact (List.getElem?_eq_some_iff.1 hp).1
  have hpi:(parts.toList.map fun (i,x)=>(i,a.eval x))[j]? =some (i,a.eval (parts.toList[j]).2):=by
   have h1:(vs.map (·.1))[j]? =some i:=by simp [hp]
   rw [hl] at h1
   simp only [List.getElem?_map,List.getElem?_eq_getElem hj,Option.map_some,Option.some.injEq] at h1 ⊢
   exact Prod.ext h1 rfl
  have:=hvs j i p _ hp hpi
  simp only [List.getD_eq_getElem?_getD,hpi]
  exact this) hr1
 cases hb:Nat.beq l.length n&&Nat.ble n 1000 with
 |false=>rw [hb] at hr2;exact hr2.elim
 |true=>
  rw [hb] at hr2
  simp only [Bool.and_eq_true,Nat.ble_eq] at hb
  obtain ⟨hln,hn⟩:=hb
  have hln':l.length=n:=by simpa using hln
  have hu:P.underlying t=some (.slice (X.etid e)):=by
   unfold Env.ety at he
   split at he
   ·rename_i row hrow;exact (X.ty t row hrow).elem _ he
   ·cases he
  obtain ⟨i,hi,hz,hsi,_⟩:=X.einfo e
  have hbig: ¬n*X.esize e>2^24:=by
   have h1:=X.small e
   have:n*X.esize e≤1000*1000:=Nat.mul_le_mul hn h1
   omega
  obtain ⟨z,hz1,hz2⟩: ∃z:Array Value,(n*X.esize e=0→z= #[])∧(n*X.esize e≠0→z=(X.ezero e).cells):=by
   by_cases h0:n*X.esize e=0
   ·exact ⟨#[],fun _=>rfl,fun h=>absurd h0 h⟩
   ·exact ⟨_,fun h=>absurd h h0,fun _=>rfl⟩
  obtain ⟨cells,hf,hsz,_,hnew⟩:=L8 (X.esize e) (parts.toList.map fun (i,x)=>(i,a.eval x)) 0 ((Array.range (n*X.esize e)).map (z[· %z.size]!)) (by simp at hlen ⊢;rw [←hln',hll,hlen];exact Nat.le_refl _) (fun j i u hj=>by
   have hjl:j<vs.length:=by rw [hlen];have:=(List.getElem?_eq_some_iff.1 hj).1;simpa using this
   have h1:=hidx j _ _ (List.getElem?_eq_getElem hjl)
   have h2:(vs.map (·.1))[j]? =some (vs[j]).1:=by simp [hjl]
   rw [hl] at h2
   have h3:(parts.toList.map (·.1))[j]? =some i:=by
    have:=congrArg (Option.map (·.1)) hj
    simpa [Function.comp_def] using this
   rw [h3] at h2
   injection h2 with h2
   refine ⟨h2.trans h1, ?_⟩
   have hjl':j<l.length:=by omega
   have:=(hcells j _ (List.getElem?_eq_getElem hjl')).1
   simp only [List.getD_eq_getElem?_getD,hj] at this
   exact this)
  have hsz':cells.size=n*X.esize e:=by rw [hsz];simp
  have hs:=hF.sim.alloc (.cells cells (X.etid e))
  refine bg hd ht hs (v:= .slice (some ⟨w.heap.size,0,none⟩) n n) ?_ (.sl _ n n e l .full (fun j k=>cells.getD (j*X.esize e+k) undef) hln' (Nat.le_refl _) rfl (fun j x hx k p hp=> ?_) fun j x hx k p hp=> ?_) hr2
  ·by_cases h0:n*X.esize e=0
   ·have hz':=hz1 h0
    subst hz'
    simp only [execOp,Instr.buildSlice,Sem.run_bind,run_underlying hu,Result.andThen_ok,n5 X e,if_neg hbig,if_pos h0,Sem.run_pure,Array.toList_map,hf,newRow,run_newObj,World.alloc_eq,Sem.run_ite]
   ·have hz':=hz2 h0
    subst hz'
    have hzv:(zeroValue (X.etid e)).run P w= .ok (X.ezero e) w:=by simp [zeroValue,typeInfo,hi,hz]
    simp only [execOp,Instr.buildSlice,Sem.run_bind,run_underlying hu,Result.andThen_ok,n5 X e,if_neg hbig,if_neg h0,hzv,Sem.run_pure,Array.toList_map,hf,newRow,run_newObj,World.alloc_eq,Sem.run_ite]
  ·have hk:k<X.esize e:=by have:=(List.getElem?_eq_some_iff.1 hp).1;rw [X.len] at this;exact this
   have hj:j<n:=by rw [←hln'];exact (List.getElem?_eq_some_iff.1 hx).1
   have hb:j*X.esize e+k<cells.size:=by
    rw [hsz']
    have:(j+1)*X.esize e≤n*X.esize e:=Nat.mul_le_mul_right _ hj
    rw [Nat.add_mul,Nat.one_mul] at this;omega
   refine ⟨_,rfl, ?_, ?_⟩
   ·rw [Addr.add_lit',Nat.zero_add,World.cell?_alloc_new]
    simp [Array.getD_eq_getD_getElem?,hb]
   ·rintro (hn'|⟨id,hid⟩|⟨q,hq⟩)
    ·have h1:=(c.n0 _ _ hn').1
     have h2:=hF.sim.ext.size
     simp at h1;omega
    ·have:=(hF.sim.new id _ hid).1;simp at this
    ·have:=(hF.sim.dnew q _ hq).1;simp at this
  ·have hk:k<X.esize e:=by have:=(List.getElem?_eq_some_iff.1 hp).1;rw [X.len] at this;exact this
   have hjv:j<parts.toList.length:=by rw [←hlen,←hll];exact (List.getElem?_eq_some_iff.1 hx).1
   have hjp:(parts.toList.map fun (i,x)=>(i,a.eval x))[j]? =some ((parts.toList[j]).1,a.eval (parts.toList[j]).2):=by
    rw [List.getElem?_map,List.getElem?_eq_getElem hjv];rfl
   have h1:=hnew j _ _ hjp k hk
   obtain ⟨h2,h3⟩:=hcells j x hx
   have h4:=h3 k p hp
   simp only [List.getD_eq_getElem?_getD,hjp,Option.getD_some] at h2 h4
   have h5:cells.getD (j*X.esize e+k) undef=(a.eval (parts.toList[j]).2).cells.getD k undef:=by
    rw [Nat.zero_add] at h1
    simp only [Array.getD_eq_getD_getElem?,h1]
   rw [h5]
   exact h4.mono X (fun b o hlt _=>tI w _ b o hlt) (fun _ _ _ h=>h) (Gh.le.refl g)
end
end Go.Proofs.YtapmagaejigpnaaGreatDoor.PI
namespace Go.Proofs.YtapmagaejigpnaaGreatDoor.PI
open Go
set_option linter.unusedVariables false
set_option linter.unusedSimpArgs false
section
variable {U:Uni} {V:Env U} {P:Program} {X:Link V P} {K:bJ U} {S:Side U} {c:Ctx} {a:Act} {w:World} {σ:St U} {g:Gh U} {D:Nat→Option Nat}
variable {next:Act→World→Prop} {Q:Exit→Act→World→Prop} {r:MR U} {τ:St U} {fp gp:List Loc} {N:au}
variable {dst:Option Tmp} {ty:TypeId} {pos:String} {after:Array Edge} {gd:Option (Nat×Bool)}
theorem sm {A:Option Addr} {n cp:Nat} {e:U.E} {l:List (U.El e)} {o o':Own} {lo hi m:Nat} (h:Rep X w N g (.slice A n cp) (.sl e l o)) (h1:lo≤hi) (h2:hi≤l.length) (h3:hi≤m)
  (ho':o'= .none∨(o'= .full∧hi=m)):Rep X w N g (sliced A lo hi m (X.esize e)) (.sl e ((l.take hi).drop lo) o'):=by
 cases h with
 |sl _ _ _ _ _ _ val hl hc ho r1 r2=>
  unfold sliced
  have hget: ∀ (j:Nat) x,((l.take hi).drop lo)[j]? =some x→l[lo+j]? =some x∧lo+j<hi:=by
   intro j x hx
   rw [List.getElem?_drop] at hx
   have hlt:lo+j<hi:=by
    have:=(List.getElem?_eq_some_iff.1 hx).1
    simp at this;omega
   rw [List.getElem?_take_of_lt hlt] at hx
   exact ⟨hx,hlt⟩
  refine .sl _ _ _ e _ o' (fun j k=>val (lo+j) k) (by simp;omega) (by omega) (by rcases ho' with rfl|⟨rfl,rfl⟩<;>simp) (fun j x hx k p hp=> ?_) fun j x hx k p hp=> ?_
  ·obtain ⟨hx',hlt⟩:=hget j x hx
   obtain ⟨b,rfl,hcell,hn⟩:=r1 _ x hx' k p hp
   rw [if_neg (by omega)]
   refine ⟨b.add (lo*X.esize e),rfl, ?_, ?_⟩
   ·rw [Addr.add_add,←Nat.add_assoc,←Nat.add_mul];exact hcell
   ·rw [Addr.add_block,Addr.add_off,Nat.add_assoc,←Nat.add_assoc (lo*_),←Nat.add_mul];exact hn
  ·exact r2 _ x (hget j x hx).1 k p hp
theorem Q4 (X:Link V P) {t:TypeId} {e:U.E} (h:V.isEl t e=true) (x:Value) (lo hi mx:Option Value) (w:World):
  (Instr.sliceAt t x lo hi mx).run P w=(Instr.slice t x lo hi mx).run P w:=by
 simp [Instr.sliceAt,run_underlying (ng X h).1]
theorem zL (X:Link V P) {t:TypeId} {e:U.E} (h:V.isEl t e=true):P.elem t=X.etid e∧P.underlying t=some (.slice (P.elem t)):=by
 have hu:=(ng X h).1
 have:P.elem t=X.etid e:=by simp [Program.elem,hu]
 exact ⟨this,by rw [this];exact hu⟩
theorem uz (h:Sim X c a.tmps w σ g D) {x:Option Operand} {t:TypeId} {k:Option (PV U)→M U} {fp:List Loc} (hr:(qD V x t k).Rel K σ fp r τ gp):
  ∃v fp',(k v).Rel K σ fp' r τ gp∧(v=none→x.map a.eval=none)∧(∀p,v=some p→ ∃u,x.map a.eval=some u∧Rep X w (c.N g D) g u p):=by
 cases x with
 |none=>exact ⟨none,fp,hr,fun _=>rfl,by simp⟩
 |some x=>
  obtain ⟨v,fp',hv,hr'⟩:=bD h hr
  exact ⟨some v,fp',hr',by simp,fun p hp=>by injection hp with hp;subst hp;exact ⟨_,rfl,hv⟩⟩
theorem PG {t:TypeId} {x:Operand} {lo hi mx:Option Operand} (hd:aU c.nt ⟨dst,.slice t x lo hi mx,ty,pos,after,gd⟩=true) (h:Sim X c a.tmps w σ g D) (hr:(a_ V S ⟨dst,.slice t x lo hi mx,ty,pos,after,gd⟩).Rel K σ fp r τ gp)
  (ht:Then X c a r τ next Q):(⟨dst,.slice t x lo hi mx,ty,pos,after,gd⟩:Oper).wp P a w next Q:=by
 obtain ⟨p,fp1,hp,hr1⟩:=bD h hr
 obtain ⟨l1,fp2,hr2,hl1,hl1'⟩:=uz h hr1
 obtain ⟨l2,fp3,hr3,hl2,hl2'⟩:=uz h hr2
 obtain ⟨l3,fp4,hr4,hl3,hl3'⟩:=uz h hr3
 unfold EG at hr4
 obtain ⟨q,σ1,D1,fp5,hr5,hF,hq,_⟩:=jK p h hp hr4
 split at hr5
 case h_2=>exact hr5.elim
 rename_i e l o _hx
 cases hE:V.isEl t e with
 |false=>rw [hE] at hr5;exact hr5.elim
 |true=>
  rw [hE] at hr5
  simp only [cond_true] at hr5
  have hq':=hq
  generalize he:a.eval x=ev at hq
  cases hq with
  |sl A n cp _ _ _ val hl hc ho r1 r2=>
   rw [he] at hq'
   have hel:=(zL X hE).1
   have hu:=(zL X hE).2
   have hint: ∀ {y:Option Operand} {l:Option (PV U)} {k:IntKind} {i:Int},(∀p,l=some p→ ∃u,y.map a.eval=some u∧Rep X w (c.N g D) g u p)→l=some (.int k i)→y.map a.eval=some (.int k i):=by
    intro y l k i h1 h2
    obtain ⟨u,hu,hr⟩:=h1 _ h2
    rw [hu,b8 hr]
   have run: ∀ {lo' hi' m':Nat},(Instr.slice t (.slice A n cp) (lo.map a.eval) (hi.map a.eval) (mx.map a.eval)).run P w=((sizeOf (P.elem t)).run P w).andThen (fun s w=> .ok (sliced A lo' hi' m' s) w)→
     (execOp a.eval ⟨dst,.slice t x lo hi mx,ty,pos,after,gd⟩).run P w= .ok (.value (sliced A lo' hi' m' (X.esize e))) w:=by
    intro lo' hi' m' hh
    rw [hel,n5 X e] at hh
    simp only [execOp,Sem.run_bind,he,Q4 X hE,hh,Result.andThen_ok,Sem.run_pure]
   split at hr5
   ·obtain ⟨hm,hr6⟩:=fR hr5
    obtain ⟨hb,hr7⟩:=fR hr6
    have e1:=hl1 rfl
    have e2:=hint hl2' rfl
    have e3:=hint hl3' rfl
    refine bg hd ht hF.sim (run (by rw [e1,e2,e3];exact run_slice_hm w t A n cp hu _ _ _ _ hb.1 (by omega) (by omega))) ?_ hr7
    refine sm (X:=X) (lo:=0) (o':= .full) hq' (Nat.zero_le _) ?_ ?_ (.inr ⟨rfl, ?_⟩)<;>omega
   ·obtain ⟨hb,hr7⟩:=fR hr5
    have e1:=hl1 rfl
    have e2:=hint hl2' rfl
    have e3:=hl3 rfl
    refine bg hd ht hF.sim (run (by rw [e1,e2,e3];exact run_slice_h w t A n cp hu _ _ hb.1 (by omega))) ?_ hr7
    refine sm (X:=X) (lo:=0) (o':= .none) hq' (Nat.zero_le _) ?_ ?_ (.inl rfl)<;>omega
   ·obtain ⟨hb,hr7⟩:=fR hr5
    have e1:=hint hl1' rfl
    have e2:=hl2 rfl
    have e3:=hl3 rfl
    refine bg hd ht hF.sim (run (by rw [e1,e2,e3];exact run_slice_l w t A n cp hu _ _ hb.1 (by omega))) ?_ hr7
    rw [show l.drop _=(l.take n).drop _ by rw [←hl,List.take_length]]
    refine sm (X:=X) (o':= .none) hq' ?_ ?_ ?_ (.inl rfl)<;>omega
   ·obtain ⟨hb,hr7⟩:=fR hr5
    have e1:=hint hl1' rfl
    have e2:=hint hl2' rfl
    have e3:=hl3 rfl
    refine bg hd ht hF.sim (run (by rw [e1,e2,e3];exact run_slice_lh w t A n cp hu _ _ _ _ hb.1 hb.2.1 (by omega))) ?_ hr7
    refine sm (X:=X) (o':= .none) hq' ?_ ?_ ?_ (.inl rfl)<;>omega
   ·exact hr5.elim
def SlAt (X:Link V P) (w:World) (N:au) (g:Gh U) (val:Value) (e:U.E) (l:List (U.El e)):Prop:=
 ∃A n cp,val= .slice A n cp∧l.length=n∧n≤cp∧ ∀ (j:Nat) x,l[j]? =some x→ ∀ (k:Nat) p,(V.cells e x)[k]? =some p→ ∃b v,A=some b∧w.cell? (b.add (j*X.esize e+k))=some v∧Rep X w N g v p
theorem Gz {tm:Array Value} (h:Sim X c tm w σ g D) {v:Value} {y:PV U} {k:(e:U.E)→List (U.El e)→M U} (hv:Rep X w (c.N g D) g v y) (hr:(sK y k).Rel K σ fp r τ gp):
  ∃e l fp',(k e l).Rel K σ fp' r τ gp∧SlAt X w (c.N g D) g v e l:=by
 unfold sK at hr
 split at hr
 ·rename_i e l o
  cases hv with
  |sl A n cp _ _ _ val hl hc ho r1 r2=>
   exact ⟨e,l,_,hr,A,n,cp,rfl,hl,hc,fun j x hx k p hp=>by
    obtain ⟨b,hA,hcell,_⟩:=r1 j x hx k p hp
    exact ⟨b,_,hA,hcell,r2 j x hx k p hp⟩⟩
 ·rename_i i ver
  obtain ⟨ob,fp',hob,hver,hr2⟩:=jf hr
  obtain ⟨val,hkap,hO⟩:=h.objs i ob hob
  refine ⟨_,_,_,hr2, ?_⟩
  cases hv with
  |own _ _ _ ver' e val' hk hle he hs=>
   rw [hkap] at hk
   injection hk with hk
   injection hk with e1 hk
   injection hk with e2 e3
   subst e1;subst e2;subst e3
   have:=he hver.symm
   subst this
   obtain ⟨A,n,cp,hval,hl,hc,hh,_⟩:=hO.val
   exact ⟨A,n,cp,hval,hl,hc,fun j x hx k p hp=>by
    obtain ⟨b,v,h1,h2,h3,_⟩:=hh j x hx k p hp
    exact ⟨b,v,h1,h2,h3⟩⟩
 ·exact hr.elim
theorem LW {xs:List Operand} {vs:List (PV U)} (hl:vs.length=xs.length): ∀ {p q:PV U},vs=[p,q]→ ∃x y,xs=[x,y]:=by
 intro p q h
 subst h
 match xs,hl with
 |[x,y],_=>exact ⟨x,y,rfl⟩
theorem LV {xs:List Operand} {vs:List (PV U)} (hl:vs.length=xs.length): ∀ {p:PV U},vs=[p]→ ∃x,xs=[x]:=by
 intro p h
 subst h
 match xs,hl with
 |[x],_=>exact ⟨x,rfl⟩
end
end Go.Proofs.YtapmagaejigpnaaGreatDoor.PI
namespace Go.Proofs.YtapmagaejigpnaaGreatDoor.PI
open Go
set_option linter.unusedVariables false
set_option linter.unusedSimpArgs false
section
variable {U:Uni} {V:Env U} {P:Program} {X:Link V P} {K:bJ U} {S:Side U} {c:Ctx} {tm:Array Value} {a:Act} {w:World} {σ:St U} {g:Gh U} {D:Nat→Option Nat}
variable {next:Act→World→Prop} {Q:Exit→Act→World→Prop} {r:MR U} {τ:St U} {fp gp:List Loc} {N:au}
variable {dst:Option Tmp} {ty:TypeId} {pos:String} {after:Array Edge} {gd:Option (Nat×Bool)}
def Gh.newOb (g:Gh U) (d nv:Nat) (e:U.E) (val:Value) (src:Option Nat) (sv:Nat) (se:U.E):Gh U:=
 {g with κ:=fun j=>if j=d then some (nv,e,val) else if src=some j then some (sv,se,.slice none 0 0) else g.κ j}
def eG (D:Nat→Option Nat) (d:Nat) (src:Option Nat) (Dn:Option Nat):Nat→Option Nat:=fun j=>if j=d then Dn else if src=some j then none else D j
structure NewOb (w w':World) (σ:St U) (D:Nat→Option Nat) (d nv:Nat) (src:Option Nat) (sv:Nat) (Dn:Option Nat):Prop where
 os:w'.os=w.os
 tape:w'.tape=w.tape
 output:w'.output=w.output
 size:w.heap.size≤w'.heap.size
 block: ∀b,b<w.heap.size→(∀i,src=some i→D i≠some b)→w'.heap[b]? =w.heap[b]?
 nver: ∀ob,σ.o d=some ob→ob.ver<nv
 sver: ∀i,src=some i→(∀ob,σ.o i=some ob→ob.ver<sv)∧ ∃ob,σ.o i=some ob
 Dn: ∀b,Dn=some b→(∃i,src=some i∧D i=some b)∨(w.heap.size≤b∧b<w'.heap.size)
section
variable {w':World} {d nv:Nat} {e se:U.E} {val:Value} {src:Option Nat} {sv:Nat} {Dn:Option Nat}
theorem NewOb.le (hn:NewOb w w' σ D d nv src sv Dn) (h:Sim X c tm w σ g D):g.le (g.newOb d nv e val src sv se):=by
 refine ⟨fun _ _ h=>h,fun i ver e0 v0 hk=> ?_⟩
 have hold: ∃ob,σ.o i=some ob∧ob.ver=ver:=by
  cases ho:σ.o i with
  |none=>have:=(h.nobj i ho).1;rw [hk] at this;cases this
  |some ob=>
   obtain ⟨v1,h1,_⟩:=h.objs i ob ho
   rw [hk] at h1
   injection h1 with h1
   injection h1 with h1 _
   exact ⟨ob,rfl,h1.symm⟩
 obtain ⟨ob,ho,hv⟩:=hold
 simp only [Gh.newOb]
 by_cases hid:i=d
 ·subst hid
  have:=hn.nver ob ho
  exact ⟨_,_,_,if_pos rfl,by omega,fun e=>by omega⟩
 ·rw [if_neg hid]
  by_cases his:src=some i
  ·have:=(hn.sver i his).1 ob ho
   exact ⟨_,_,_,if_pos his,by omega,fun e=>by omega⟩
  ·exact ⟨_,_,_,(if_neg his).trans hk,Nat.le_refl _,fun _=>⟨rfl,rfl⟩⟩
theorem NewOb.forb (hn:NewOb w w' σ D d nv src sv Dn): ∀b o,b<w.heap.size→(c.N (g.newOb d nv e val src sv se) (eG D d src Dn)) b o→(c.N g D) b o:=by
 rintro b o hlt (h|⟨id,hid⟩|⟨j,hj⟩)
 ·exact .inl h
 ·exact .inr (.inl ⟨id,hid⟩)
 ·simp only [eG] at hj
  split at hj
  ·rcases hn.Dn b hj with ⟨i,_,hi⟩|hk
   ·exact .inr (.inr ⟨i,hi⟩)
   ·omega
  ·split at hj
   ·cases hj
   ·exact .inr (.inr ⟨j,hj⟩)
theorem NewOb.cell (hn:NewOb w w' σ D d nv src sv Dn): ∀b o,b<w.heap.size→ ¬ (c.N g D) b o→w'.cell? ⟨b,o,none⟩=w.cell? ⟨b,o,none⟩:=fun b o hlt h=>by
 unfold World.cell?
 rw [hn.block b hlt fun i _ hi=>h (.inr (.inr ⟨i,hi⟩))]
theorem NewOb.rep (hn:NewOb w w' σ D d nv src sv Dn) (h:Sim X c tm w σ g D) {v:Value} {p:PV U} (hr:Rep X w (c.N g D) g v p):
  Rep X w' (c.N (g.newOb d nv e val src sv se) (eG D d src Dn)) (g.newOb d nv e val src sv se) v p:=
 hr.mono X hn.cell hn.forb (hn.le h)
structure NewSt (σ σ':St U) (d nv:Nat) (e:U.E) (l:List (U.El e)) (u:Use) (src:Option Nat) (sv:Nat) (se:U.E):Prop where
 r: ∀n,σ'.r n=σ.r n
 b: ∀n,σ'.b n=σ.b n
 od:σ'.o d=some ⟨nv,e,l⟩
 ud:σ'.u d=u
 os: ∀i,i≠d→src=some i→σ'.o i=some ⟨sv,se,[]⟩∧σ'.u i= .read
 oo: ∀i,i≠d→src≠some i→σ'.o i=σ.o i∧σ'.u i=σ.u i
theorem Sim.newOb (h:Sim X c tm w σ g D) (hn:NewOb w w' σ D d nv src sv Dn) {σ':St U} {l:List (U.El e)} {u:Use} (hs:NewSt σ σ' d nv e l u src sv se)
  (hob:ObOK X w' (c.N (g.newOb d nv e val src sv se) (eG D d src Dn)) (g.newOb d nv e val src sv se) e l val u Dn):
  Sim X c tm w' σ' (g.newOb d nv e val src sv se) (eG D d src Dn):=by
 refine h.objsTurn (fun j=>j=d∨src=some j) hn.os hn.tape hn.output hn.size (fun b hb hne=>hn.block b hb fun i hi=>hne i (.inr hi)) hs.r hs.b rfl (hn.le h)
  (fun j b hj=> ?_) (fun j j' b hch hj hj'=> ?_) (fun j hj=> ?_) (fun j ob hj ho=> ?_) (fun j hj ho=> ?_)
 ·simp only [eG] at hj
  split at hj
  ·rcases hn.Dn b hj with ⟨i,h1,h2⟩|h1
   ·exact .inr (.inl ⟨i,.inr h1,h2⟩)
   ·exact .inr (.inr h1)
  ·split at hj
   ·cases hj
   ·rename_i h1 h2;exact .inl ⟨by rintro (h|h)<;>contradiction,hj⟩
 ·simp only [eG] at hj hj'
  split at hj
  ·rename_i hjd
   subst hjd
   by_cases h1:j'=j
   ·exact h1.symm
   ·rw [if_neg h1] at hj'
    split at hj'
    ·cases hj'
    ·rename_i h2
     rcases hn.Dn b hj with ⟨i,h3,h4⟩|h3
     ·have:=h.dinj _ _ _ h4 hj';subst this;exact absurd h3 h2
     ·have:=(h.dnew _ _ hj').1;omega
  ·split at hj
   ·cases hj
   ·rename_i h1 h2;rcases hch with h|h<;>contradiction
 ·have h1:j≠d:=fun e=>hj (.inl e)
  have h2:src≠some j:=fun e=>hj (.inr e)
  obtain ⟨h3,h4⟩:=hs.oo j h1 h2
  exact ⟨h3,h4,by simp [eG,h1,h2],by simp [Gh.newOb,h1,h2]⟩
 ·by_cases hjd:j=d
  ·subst hjd
   rw [hs.od] at ho
   injection ho with ho
   subst ho
   refine ⟨val,by simp [Gh.newOb], ?_⟩
   rw [hs.ud,show eG D j src Dn j=Dn by simp [eG]]
   exact hob
  ·have hsrc:src=some j:=hj.resolve_left hjd
   obtain ⟨h1,h2⟩:=hs.os j hjd hsrc
   rw [h1] at ho
   injection ho with ho
   subst ho
   refine ⟨.slice none 0 0,by simp [Gh.newOb,hjd,hsrc], ?_⟩
   rw [h2,show eG D d src Dn j=none by simp [eG,hjd,hsrc]]
   exact ⟨none,0,0,rfl,rfl,Nat.le_refl _,by simp,by simp⟩
 ·by_cases hjd:j=d
  ·subst hjd;rw [hs.od] at ho;cases ho
  ·have hsrc:src=some j:=hj.resolve_left hjd
   rw [(hs.os j hjd hsrc).1] at ho;cases ho
theorem nJ (hst: ∃A n cp,val= .slice A n cp):Rep X w N (g.newOb d nv e val src sv se) val (.own d nv):=
 .own d nv val nv e val (by simp [Gh.newOb]) (Nat.le_refl _) (fun _=>rfl) hst
end
def bk (w:World) (A:Option Addr) (n:Nat):List Value:=match A with|some b=>(List.range n).map fun q=>(w.cell? (b.add q)).getD undef|none=>[]
theorem Mv {size q n:Nat} (hs:0<size) (h:q<n*size):q/size<n:=(Nat.div_lt_iff_lt_mul hs).2 h
theorem SlAt.cell {e:U.E} {l:List (U.El e)} {b:Addr} {n cp:Nat} (h:SlAt X w N g (.slice (some b) n cp) e l) {q:Nat} (hq:q<n*X.esize e):
  ∃x p v,l[q/X.esize e]? =some x∧(V.cells e x)[q%X.esize e]? =some p∧w.cell? (b.add q)=some v∧Rep X w N g v p:=by
 obtain ⟨A,n',cp',hv,hl,hc,hh⟩:=h
 injection hv with h1 h2 h3
 subst h1;subst h2;subst h3
 have hp:=X.epos e
 have hlt:q/X.esize e<l.length:=by rw [hl];exact Mv hp hq
 have hk:q%X.esize e<(V.cells e l[q/X.esize e]).length:=by rw [X.len];exact Nat.mod_lt _ hp
 obtain ⟨b',v,hb,hcell,hr⟩:=hh _ _ (List.getElem?_eq_getElem hlt) _ _ (List.getElem?_eq_getElem hk)
 cases hb
 rw [Nat.mul_comm,Nat.div_add_mod] at hcell
 exact ⟨_,_,v,List.getElem?_eq_getElem hlt,List.getElem?_eq_getElem hk,hcell,hr⟩
theorem SlAt.row {e:U.E} {l:List (U.El e)} {A:Option Addr} {n cp:Nat} (h:SlAt X w N g (.slice A n cp) e l):(bk w A (n*X.esize e)).length=n*X.esize e∧l.length=n∧n≤cp∧(A=none→n=0)∧
  (∀ (q:Nat) v,(bk w A (n*X.esize e))[q]? =some v→ ∀b,A=some b→w.cell? (b.add q)=some v)∧
  (∀ (j:Nat) x,l[j]? =some x→ ∀ (k:Nat) p,(V.cells e x)[k]? =some p→ ∃v,(bk w A (n*X.esize e))[j*X.esize e+k]? =some v∧Rep X w N g v p)∧(∀v∈bk w A (n*X.esize e),v.oneCell'=true):=by
 have h0:=h
 obtain ⟨A',n',cp',hv,hl,hc,hh⟩:=h
 injection hv with h1 h2 h3
 subst h1;subst h2;subst h3
 have hnone:A=none→n=0:=by
  intro hA
  cases l with
  |nil=>exact hl.symm
  |cons x r=>
   cases hcs:V.cells e x with
   |nil=>exact absurd hcs (py X x)
   |cons p0 rest=>obtain ⟨b,_,hb,_⟩:=hh 0 x rfl 0 p0 (by rw [hcs];rfl);rw [hA] at hb;cases hb
 refine ⟨?_,hl,hc,hnone,fun q v hq b hb=> ?_,fun j x hx k p hp=> ?_,fun v hv=> ?_⟩
 ·cases A with
  |none=>rw [hnone rfl];simp [bk]
  |some b=>simp [bk]
 ·subst hb
  have hq2:q<n*X.esize e:=by have:=(List.getElem?_eq_some_iff.1 hq).1;simpa [bk] using this
  obtain ⟨x,p,v',_,_,hcell,_⟩:=h0.cell hq2
  simp only [bk,List.getElem?_map,List.getElem?_range hq2,Option.map_some,hcell,Option.getD_some,Option.some.injEq] at hq
  rw [←hq];exact hcell
 ·obtain ⟨b,v,hA,hcell,hr⟩:=hh j x hx k p hp
  subst hA
  have hj:j<n:=by rw [←hl];exact (List.getElem?_eq_some_iff.1 hx).1
  have hk:k<X.esize e:=by have:=(List.getElem?_eq_some_iff.1 hp).1;rw [X.len] at this;exact this
  have hb:j*X.esize e+k<n*X.esize e:=by
   have:(j+1)*X.esize e≤n*X.esize e:=Nat.mul_le_mul_right _ hj
   rw [Nat.add_mul,Nat.one_mul] at this;omega
  exact ⟨v,by simp [bk,hb,hcell],hr⟩
 ·cases A with
  |none=>simp [bk] at hv
  |some b=>
   simp only [bk,List.mem_map,List.mem_range] at hv
   obtain ⟨q,hq,rfl⟩:=hv
   obtain ⟨x,p,v',_,hp,hcell,hr⟩:=h0.cell hq
   rw [hcell]
   exact DA hr (List.all_eq_true.1 (X.ecell e x) p (List.mem_of_getElem? hp))
end
end Go.Proofs.YtapmagaejigpnaaGreatDoor.PI
namespace Go.Proofs.YtapmagaejigpnaaGreatDoor.PI
open Go
set_option linter.unusedVariables false
set_option linter.unusedSimpArgs false
section
variable {U:Uni} {V:Env U} {P:Program} {X:Link V P} {K:bJ U} {S:Side U} {c:Ctx} {tm:Array Value} {a:Act} {w:World} {σ:St U} {g:Gh U} {D:Nat→Option Nat}
variable {next:Act→World→Prop} {Q:Exit→Act→World→Prop} {r:MR U} {τ:St U} {fp gp:List Loc} {N:au}
variable {dst:Option Tmp} {ty:TypeId} {pos:String} {after:Array Edge} {gd:Option (Nat×Bool)}
theorem DP {t t':TypeId} {e:U.E} (hu:P.underlying t=some (.slice (X.etid e))) (A B:Option Addr) (n cp c2:Nat) (hc:n≤cp) (w:World):
  (Builtin.append_ #[t,t] t' #[.slice A n cp,.slice B 0 c2]).run P w= .ok (.slice A n cp) w:=by
 have hf:(Builtin.firstCells (X.esize e) 0 (.slice B 0 c2)).run P w= .ok #[] w:=by
  cases B<;>simp [Builtin.firstCells,loadCells,loadCellsFrom]
 cases A<;>simp [Builtin.append_,run_underlying hu,n5 X e,Builtin.lenOf,hc,hf,storeCells]
theorem DO {t t':TypeId} {e:U.E} (hu:P.underlying t=some (.slice (X.etid e))) {A B:Option Addr} {n cp m c2:Nat} {l l':List (U.El e)} {N N2:au} {g g2:Gh U} (h1:SlAt X w N g (.slice A n cp) e l) (h2:SlAt X w N2 g2 (.slice B m c2) e l')
  (hcp:A=none→cp=0) (hm:cp<n+m) (hroom:n+m≤V.bound e):
  ∃cells cap,(Builtin.append_ #[t,t] t' #[.slice A n cp,.slice B m c2]).run P w= .ok (.slice (some ⟨w.heap.size,0,none⟩) (n+m) cap) (w.drew.alloc (.cells cells (X.etid e)))∧n+m≤cap∧cap≤maxLen∧
   cells.size=cap*X.esize e∧cells.toList.take ((n+m)*X.esize e)=bk w A (n*X.esize e)++bk w B (m*X.esize e):=by
 obtain ⟨r1,r2,r3,r4,r5,_,r7⟩:=h1.row
 obtain ⟨s1,s2,s3,s4,s5,_,s7⟩:=h2.row
 obtain ⟨hby,hmax⟩:=X.broom e _ hroom
 obtain ⟨i,hi,hz,hsi,hbi⟩:=X.einfo e
 have hB: ∃b,B=some b:=by
  cases B with
  |none=>have:=s4 rfl;omega
  |some b=>exact ⟨b,rfl⟩
 obtain ⟨b,rfl⟩:=hB
 have h63:n+m≤9223372036854775807:=by simp only [maxLen] at hmax;omega
 have hcells: ∀ (cap:Nat),n+m≤cap→((bk w A (n*X.esize e)).toArray++(bk w (some b) (m*X.esize e)).toArray++Builtin.zeroCells (X.ezero e).cells (cap-(n+m))).size=cap*X.esize e∧
   ((bk w A (n*X.esize e)).toArray++(bk w (some b) (m*X.esize e)).toArray++Builtin.zeroCells (X.ezero e).cells (cap-(n+m))).toList.take ((n+m)*X.esize e)=bk w A (n*X.esize e)++bk w (some b) (m*X.esize e):=by
  intro cap hcap
  constructor
  ·simp only [Array.size_append,List.size_toArray,size_zeroCells,X.zsize,r1,s1,←Nat.add_mul];congr 1;omega
  ·simp only [Array.toList_append,List.append_assoc]
   rw [←List.append_assoc,show (n+m)*X.esize e=(bk w A (n*X.esize e)++bk w (some b) (m*X.esize e)).length by rw [List.length_append,r1,s1,Nat.add_mul]]
   exact List.take_left
 cases A with
 |none=>
  have hn:=r4 rfl
  have hc0:=hcp rfl
  subst hn;subst hc0
  have hr:=run_append_nil (P:=P) w t t' (X.etid e) i (X.ezero e) hu hi hz b m c2 (bk w (some b) (m*X.esize e)) (by rw [s1,hsi]) (fun j v hj=>s5 j v hj b rfl) (by omega) (by omega) (by rw [hbi];simp only [Nat.zero_add] at hby;omega)
  have hge:=grownCap_ge w m 0 (X.etid e)
  have:=hcells (grownCap w m 0 (X.etid e)) (by omega)
  refine ⟨_,_, ?_,by omega,grownCap_le_maxLen w _ _ _ (by omega),this.1,this.2⟩
  rw [Nat.zero_add,hr]
  simp [bk]
 |some a0=>
  have hr:=run_append_grow (P:=P) w t t' (X.etid e) i (X.ezero e) hu hi hz a0 n cp (bk w (some a0) (n*X.esize e)) (by rw [r1,hsi]) (fun j v hj=>r5 j v hj a0 rfl) b m c2 (bk w (some b) (m*X.esize e)) (by rw [s1,hsi]) (fun j v hj=>s5 j v hj b rfl)
   hm (by omega) (growslice_fits hm (by rw [hbi];exact hby))
  have hge:=grownCap_ge w (n+m) cp (X.etid e)
  have:=hcells (grownCap w (n+m) cp (X.etid e)) hge
  exact ⟨_,_,hr,hge,grownCap_le_maxLen w _ _ _ hmax,this.1,this.2⟩
theorem vv {w':World} {N':au} {g':Gh U} {e:U.E} {l l':List (U.El e)} {A B:Option Addr} {n cp m c2:Nat} (h1:SlAt X w N g (.slice A n cp) e l) (h2:SlAt X w N g (.slice B m c2) e l')
  (hmono: ∀ {v:Value} {p:PV U},Rep X w N g v p→Rep X w' N' g' v p) {nb cap:Nat} {cur:Array Value} (hb:w'.heap[nb]? =some (.cells cur (X.etid e) (0,0))) (hs:cur.size=cap*X.esize e) (hmax:cap≤maxLen) (hbd:n+m≤V.bound e) (hle:n+m≤cap)
  (htake:cur.toList.take ((n+m)*X.esize e)=bk w A (n*X.esize e)++bk w B (m*X.esize e)) {u:Use} (hu:u≠ .read):
  ObOK X w' N' g' e (l++l') (.slice (some ⟨nb,0,none⟩) (n+m) cap) u (some nb):=by
 obtain ⟨r1,r2,r3,r4,r5,r6,r7⟩:=h1.row
 obtain ⟨s1,s2,s3,s4,s5,s6,s7⟩:=h2.row
 refine ⟨_,_,_,rfl,by simp [r2,s2],hle,fun j x hx k p hp=> ?_,hu,cur,rfl,hb,hs,hmax,hbd⟩
 have hk:k<X.esize e:=by have:=(List.getElem?_eq_some_iff.1 hp).1;rw [X.len] at this;exact this
 have hj:j<n+m:=by have:=(List.getElem?_eq_some_iff.1 hx).1;simp [r2,s2] at this;exact this
 have hjk:j*X.esize e+k<(n+m)*X.esize e:=by
  have:(j+1)*X.esize e≤(n+m)*X.esize e:=Nat.mul_le_mul_right _ hj
  rw [Nat.add_mul,Nat.one_mul] at this;omega
 have hcur:cur.toList[j*X.esize e+k]? =(bk w A (n*X.esize e)++bk w B (m*X.esize e))[j*X.esize e+k]? :=by
  rw [←htake,List.getElem?_take_of_lt hjk]
 obtain ⟨v,hv,hr⟩: ∃v,(bk w A (n*X.esize e)++bk w B (m*X.esize e))[j*X.esize e+k]? =some v∧Rep X w N g v p:=by
  by_cases hjn:j<n
  ·rw [List.getElem?_append_left (by rw [r2];exact hjn)] at hx
   obtain ⟨v,hv,hr⟩:=r6 j x hx k p hp
   have:j*X.esize e+k<n*X.esize e:=by
    have:(j+1)*X.esize e≤n*X.esize e:=Nat.mul_le_mul_right _ hjn
    rw [Nat.add_mul,Nat.one_mul] at this;omega
   exact ⟨v,by rw [List.getElem?_append_left (by rw [r1];exact this)];exact hv,hr⟩
  ·rw [List.getElem?_append_right (by omega),r2] at hx
   obtain ⟨v,hv,hr⟩:=s6 (j-n) x hx k p hp
   have e1:j*X.esize e=(j-n)*X.esize e+n*X.esize e:=by rw [←Nat.add_mul];congr 1;omega
   refine ⟨v, ?_,hr⟩
   rw [List.getElem?_append_right (by rw [r1];omega),r1,show j*X.esize e+k-n*X.esize e=(j-n)*X.esize e+k by omega]
   exact hv
 refine ⟨⟨nb,0,none⟩,v,rfl, ?_,hmono hr,by simp⟩
 rw [Addr.add_lit',Nat.zero_add]
 unfold World.cell?
 rw [hb]
 rw [hv] at hcur
 simpa using hcur
theorem wy {most n m:Nat} {k:Unit→M U} (hr:(M.ask (aR most n m) k).Rel K σ fp r τ gp):n+m≤most∧(k ()).Rel K σ fp r τ gp:=by
 obtain ⟨x,hx,hr⟩:=hr
 unfold aR at hx
 split at hx
 ·exact ⟨‹_›,hr⟩
 ·cases hx
theorem BJ {d:Nat} {u:Use} {e:U.E} {l:List (U.El e)} (hr:(j1 d u e l).Rel K σ fp r τ gp):
  ∃nv,(∀ob,σ.o d=some ob→ob.ver<nv)∧r= .done∧τ=((σ.setO d ⟨nv,e,l⟩).setU d u).setR d (.own d nv):=by
 unfold j1 at hr
 simp only [M.Rel] at hr
 split at hr
 ·rename_i ob hob
  obtain ⟨h1,h2,_⟩:=hr
  exact ⟨ob.ver+1,fun ob' h=>by rw [hob] at h;injection h with h;subst h;omega,h1,h2⟩
 ·rename_i hob
  obtain ⟨h1,h2,_⟩:=hr
  exact ⟨0,(fun ob' h=>by rw [hob] at h;cases h),h1,h2⟩
theorem JG (h:Sim X c tm w σ g D) {d t t' u':TypeId} {x y:PV U} {vx vy:Value} (hx:Rep X w (c.N g D) g vx x) (hy:Rep X w (c.N g D) g vy y) (hd:d<c.nt)
  (hr:(tt V (some d) t u' x y).Rel K σ fp r τ gp):
  t=u'∧r= .done∧ ∃v' w' g' D',(Builtin.append_ #[t,t] t' #[vx,vy]).run P w= .ok v' w'∧Sim X c (tm.setIfInBounds d v') w' τ g' D':=by
 unfold tt at hr
 cases htu:Nat.beq t u' with
 |false=>simp only [htu] at hr;exact hr.elim
 |true=>
 simp only [htu,cond_true] at hr
 refine ⟨by simpa using htu, ?_⟩
 obtain ⟨e',l',fp1,hr1,hsy⟩:=Gz h hy hr
 cases hE:V.isEl t e' with
 |false=>rw [hE] at hr1;exact hr1.elim
 |true=>
 rw [hE] at hr1
 simp only [cond_true] at hr1
 have hu:=(ng X hE).1
 have hsy0:=hsy
 obtain ⟨B,m,c2,hvy,hlm,hc2,_⟩:=hsy
 rw [hvy] at hsy0
 split at hr1
 ·rename_i e l o
  split at hr1
  case isFalse=>exact hr1.elim
  rename_i heq
  subst heq
  have hx0:=hx
  cases hx with
  |sl A n cp _ _ _ val hl hc ho q1 q2=>
  have hsx:SlAt X w (c.N g D) g (.slice A n cp) e' l:=⟨A,n,cp,rfl,hl,hc,fun j x hx k p hp=>by
   obtain ⟨b,hA,hcell,_⟩:=q1 j x hx k p hp
   exact ⟨b,_,hA,hcell,q2 j x hx k p hp⟩⟩
  have go: ∀ {us:Use} {fp2:List Loc},us≠ .read→(A=none→cp=0)→(n=cp)→(us= .wr→A=none)→n+m≤V.bound e'→(j1 d us e' (l++l')).Rel K σ fp2 r τ gp→
    r= .done∧ ∃v' w' g' D',(Builtin.append_ #[t,t] t' #[.slice A n cp,vy]).run P w= .ok v' w'∧Sim X c (tm.setIfInBounds d v') w' τ g' D':=by
   intro us fp2 hus hA hcap hwr hroom hr2
   obtain ⟨nv,hnv,h1,h2⟩:=BJ hr2
   refine ⟨h1, ?_⟩
   rw [hvy]
   have hst:NewSt σ ((σ.setO d ⟨nv,e',l++l'⟩).setU d us) d nv e' (l++l') us none 0 e':=
    ⟨fun _=>rfl,fun _=>rfl,by simp,by simp,by simp,fun i hi _=>by simp [Ne.symm hi]⟩
   by_cases hm:m=0
   ·subst hm
    have hl0:l'=[]:=List.eq_nil_of_length_eq_zero hlm
    subst hl0
    have hN:NewOb w w σ D d nv none 0 none:=⟨rfl,rfl,rfl,Nat.le_refl _,fun _ _ _=>rfl,hnv,by simp,by simp⟩
    have hs:=h.newOb (e:=e') (se:=e') (val:= .slice A n cp) hN hst ⟨A,n,cp,rfl,by simpa using hl,hc,fun j x hx k p hp=>by
     rw [List.append_nil] at hx
     obtain ⟨b,hA,hcell,hn⟩:=q1 j x hx k p hp
     refine ⟨b,_,hA,hcell,hN.rep h (q2 j x hx k p hp),fun _ hn'=>hn ?_⟩
     have hlt:=World.block_lt_of_cell? w _ hcell
     rw [Addr.add_block] at hlt
     exact hN.forb _ _ hlt hn',by
     refine ⟨fun hw=> ?_,fun _=>hcap⟩
     have:=hwr hw
     exact ⟨this,by have:=hA this;omega,hA this⟩⟩
    exact ⟨_,w,_,_,DP (X:=X) hu A B n cp c2 hc w,h2▸hs.put hd (nJ ⟨A,n,cp,rfl⟩)⟩
   ·obtain ⟨cells,cap,hrun,k1,k2,k3,k4⟩:=DO (X:=X) (t':=t') hu hsx hsy0 hA (by omega) hroom
    have hN:NewOb w (w.drew.alloc (.cells cells (X.etid e'))) σ D d nv none 0 (some w.heap.size):=⟨rfl,rfl,rfl,by simp,fun b hb _=>heap_alloc_old w.drew _ b hb,hnv,by simp,fun b hb=>by injection hb with hb;subst hb;exact .inr ⟨Nat.le_refl _,by simp⟩⟩
    have hs:=h.newOb (e:=e') (se:=e') hN hst (vv (X:=X) hsx hsy0 (fun hr=>hN.rep h hr) (heap_alloc_new w.drew _) k3 k2 hroom k1 k4 hus)
    exact ⟨_,_,_,_,hrun,h2▸hs.put hd (nJ ⟨_,_,_,rfl⟩)⟩
  split at hr1
  ·exact hr1.elim
  ·exact hr1.elim
  ·exact hr1.elim
  ·obtain ⟨hroom,hr2⟩:=wy hr1
   have hn:n=cp:=ho
   have hA0:A=none→cp=0:=fun hA=>by rw [←hn];exact (hsx.row).2.2.2.1 hA
   rw [hl,hlm] at hroom
   exact go (by simp) hA0 hn (by simp) hroom hr2
  ·obtain ⟨hroom,hr2⟩:=wy hr1
   obtain ⟨hA,hn,hcp⟩:=ho
   have hl0:l=[]:=List.eq_nil_of_length_eq_zero (hl.trans hn)
   subst hl0
   rw [hlm] at hroom
   exact go (us:= .wr) (by simp) (fun _=>hcp) (by omega) (fun _=>hA) (by omega) hr2
 ·rename_i i ver
  obtain ⟨ob,fp2,hob,hver,hr2⟩:=jf hr1
  split at hr2
  case isFalse=>exact hr2.elim
  rename_i heq
  subst heq
  obtain ⟨val,hkap,hO⟩:=h.objs i ob hob
  cases hx with
  |own _ _ _ ver' e val' hk hle he hs=>
  rw [hkap] at hk
  injection hk with hk
  injection hk with e1 hk
  injection hk with e2 e3
  subst e1;subst e2;subst e3
  have:=he hver.symm
  subst this
  obtain ⟨A,n,cp,hval,hl,hc,hh,hD⟩:=hO.val
  have hsx:SlAt X w (c.N g D) g (.slice A n cp) ob.e ob.l:=⟨A,n,cp,rfl,hl,hc,fun j x hx k p hp=>by
   obtain ⟨b,v,h1,h2,h3,_⟩:=hh j x hx k p hp;exact ⟨b,v,h1,h2,h3⟩⟩
  simp only [M.Rel] at hr2
  have hne:σ.u i≠ .read:=by
   intro hre;rw [hre] at hr2;exact hr2.elim
  have hr3: ∃fp3,(M.ask (aR (V.bound ob.e) ob.l.length l'.length) fun _=> .setO i ⟨ob.ver+1,ob.e,[]⟩ (.setU i .read (j1 d (σ.u i) ob.e (ob.l++l')))).Rel K σ fp3 r τ gp:=by
   cases hui:σ.u i with
   |read=>exact absurd hui hne
   |app=>rw [hui] at hr2;exact ⟨_,hr2⟩
   |wr=>rw [hui] at hr2;exact ⟨_,hr2⟩
  obtain ⟨fp3,hr3⟩:=hr3
  obtain ⟨hroom,hr4⟩:=wy hr3
  obtain ⟨nv,hnv,h1,h2⟩:=BJ hr4
  refine ⟨h1, ?_⟩
  rw [hval,hvy]
  rw [hl,hlm] at hroom
  have hnvo: ∀ob',σ.o d=some ob'→ob'.ver<nv:=by
   intro ob' ho'
   by_cases hdi:i=d
   ·subst hdi
    rw [hob] at ho';injection ho' with ho';subst ho'
    have:=hnv ⟨ob.ver+1,ob.e,[]⟩ (by simp)
    simp at this;omega
   ·exact hnv ob' (by simp [hdi,ho'])
  have hst:NewSt σ (((((σ.setO i ⟨ob.ver+1,ob.e,[]⟩).setU i .read).setO d ⟨nv,ob.e,ob.l++l'⟩).setU d (σ.u i))) d nv ob.e (ob.l++l') (σ.u i) (some i) (ob.ver+1) ob.e:=
   ⟨fun _=>rfl,fun _=>rfl,by simp,by simp,fun j hj hs=>by injection hs with hs;subst hs;simp [Ne.symm hj],fun j hj hs=>by
    have:i≠j:=fun e=>hs (by rw [e])
    simp [Ne.symm hj,this]⟩
  have hsv: ∀j,(some i:Option Nat)=some j→(∀ob',σ.o j=some ob'→ob'.ver<ob.ver+1)∧ ∃ob',σ.o j=some ob':=by
   intro j hj
   injection hj with hj
   subst hj
   exact ⟨fun ob' h=>by rw [hob] at h;injection h with h;subst h;omega,ob,hob⟩
  by_cases hm:m=0
  ·subst hm
   have hl0:l'=[]:=List.eq_nil_of_length_eq_zero hlm
   subst hl0
   have hN:NewOb w w σ D d nv (some i) (ob.ver+1) (D i):=⟨rfl,rfl,rfl,Nat.le_refl _,fun _ _ _=>rfl,hnvo,hsv,fun b hb=> .inl ⟨i,rfl,hb⟩⟩
   have hOb:ObOK X w (c.N (g.newOb d nv ob.e (.slice A n cp) (some i) (ob.ver+1) ob.e) (eG D d (some i) (D i))) (g.newOb d nv ob.e (.slice A n cp) (some i) (ob.ver+1) ob.e) ob.e (ob.l++[]) (.slice A n cp) (σ.u i) (D i):=by
    rw [List.append_nil]
    rw [hval] at hO
    exact hO.mono (fun _ _=>rfl) hN.cell hN.forb (hN.le h)
   exact ⟨_,w,_,_,DP (X:=X) hu A B n cp c2 hc w,h2▸(h.newOb hN hst hOb).put hd (nJ ⟨A,n,cp,rfl⟩)⟩
  ·by_cases hfit:n+m≤cp
   ·
    cases hDi:D i with
    |none=>
     rw [hDi] at hD
     cases hui:σ.u i with
     |read=>exact absurd hui hne
     |app=>have:=hD.2 hui;omega
     |wr=>have:=hD.1 hui;omega
    |some b=>
     rw [hDi] at hD
     obtain ⟨_,cur,hA,hblk,hsz,hmax⟩:=hD
     subst hA
     obtain ⟨i0,hi0,hz0,hsi,hbi⟩:=X.einfo ob.e
     obtain ⟨r1,_,_,_,r5,_,_⟩:=hsx.row
     obtain ⟨s1,_,_,s4,s5,_,s7⟩:=hsy0.row
     obtain ⟨b2,rfl⟩: ∃b2,B=some b2:=by
      cases B with
      |none=>exact absurd (s4 rfl) hm
      |some b2=>exact ⟨b2,rfl⟩
     have hfit':n*X.esize ob.e+(bk w (some b2) (m*X.esize ob.e)).length≤cur.size:=by
      rw [s1,hsz,←Nat.add_mul];exact Nat.mul_le_mul_right _ hfit
     have hrun:=run_append_room (P:=P) w t t' (X.etid ob.e) i0 hu hi0 b n cp cur hblk b2 m c2 (bk w (some b2) (m*X.esize ob.e)) (by rw [s1,hsi]) (fun j v hj=>s5 j v hj b2 rfl) s7 hfit (by rw [hsi];exact hfit')
     rw [hsi] at hrun
     have hN:NewOb w (w.setRow b (cur.toList.take (n*X.esize ob.e)++bk w (some b2) (m*X.esize ob.e)++cur.toList.drop (n*X.esize ob.e+(bk w (some b2) (m*X.esize ob.e)).length)).toArray) σ D d nv (some i) (ob.ver+1) (some b):=
      ⟨rfl,rfl,rfl,by simp,fun b' _ hne=>setRow_other w b b' _ (fun e=>hne i rfl (e▸hDi)),hnvo,hsv,fun b' hb'=>by injection hb' with hb';subst hb';exact .inl ⟨i,rfl,hDi⟩⟩
     have hOb:=vv (X:=X) hsx hsy0 (fun hr=>hN.rep (e:=ob.e) (se:=ob.e) (val:= .slice (some ⟨b,0,none⟩) (n+m) cp) h hr) (setRow_heap w b cur _ (X.etid ob.e) (0,0) hblk) (cap:=cp) (by
      rw [List.append_assoc,List.size_toArray,sr _ _ _ hfit'];simpa using hsz) hmax.1 hroom hfit (by
      have hcl:(cur.toList.take (n*X.esize ob.e)).length=n*X.esize ob.e:=by simp;omega
      have hx2:(cur.toList.take (n*X.esize ob.e))=bk w (some ⟨b,0,none⟩) (n*X.esize ob.e):=by
       apply List.ext_getElem?
       intro q
       by_cases hq:q<n*X.esize ob.e
       ·obtain ⟨v,hv⟩: ∃v,(bk w (some ⟨b,0,none⟩) (n*X.esize ob.e))[q]? =some v:=⟨_,List.getElem?_eq_getElem (by rw [r1];exact hq)⟩
        have:=r5 q v hv _ rfl
        rw [Addr.add_lit',Nat.zero_add] at this
        unfold World.cell? at this
        rw [hblk] at this
        rw [hv,List.getElem?_take_of_lt hq]
        simpa using this
       ·rw [List.getElem?_eq_none (by omega),List.getElem?_eq_none (by rw [r1];omega)]
      simp only [List.append_assoc]
      rw [←List.append_assoc,show (n+m)*X.esize ob.e=(cur.toList.take (n*X.esize ob.e)++bk w (some b2) (m*X.esize ob.e)).length by rw [List.length_append,hcl,s1,Nat.add_mul],List.take_left,hx2]) hne
     exact ⟨_,_,_,_,hrun,h2▸(h.newOb hN hst hOb).put hd (nJ ⟨_,_,_,rfl⟩)⟩
   ·have hA0:A=none→cp=0:=by
     intro hA
     cases hDi:D i with
     |none=>
      rw [hDi] at hD
      cases hui:σ.u i with
      |read=>exact absurd hui hne
      |app=>rw [←hD.2 hui];exact (hsx.row).2.2.2.1 hA
      |wr=>exact (hD.1 hui).2.2
     |some b=>
      rw [hDi] at hD
      obtain ⟨_,cur,hA',_⟩:=hD
      rw [hA] at hA';cases hA'
    obtain ⟨cells,cap,hrun,k1,k2,k3,k4⟩:=DO (X:=X) (t':=t') hu hsx hsy0 hA0 (by omega) hroom
    have hN:NewOb w (w.drew.alloc (.cells cells (X.etid ob.e))) σ D d nv (some i) (ob.ver+1) (some w.heap.size):=⟨rfl,rfl,rfl,by simp,fun b hb _=>heap_alloc_old w.drew _ b hb,hnvo,hsv,fun b hb=>by injection hb with hb;subst hb;exact .inr ⟨Nat.le_refl _,by simp⟩⟩
    have hOb:=vv (X:=X) hsx hsy0 (fun hr=>hN.rep (e:=ob.e) (se:=ob.e) (val:= .slice (some ⟨w.heap.size,0,none⟩) (n+m) cap) h hr) (heap_alloc_new w.drew _) k3 k2 hroom k1 k4 hne
    exact ⟨_,_,_,_,hrun,h2▸(h.newOb hN hst hOb).put hd (nJ ⟨_,_,_,rfl⟩)⟩
 ·exact hr1.elim
end
end Go.Proofs.YtapmagaejigpnaaGreatDoor.PI
namespace Go.Proofs.YtapmagaejigpnaaGreatDoor.PI
open Go
set_option linter.unusedVariables false
set_option linter.unusedSimpArgs false
section
variable {U:Uni} {V:Env U} {P:Program} {X:Link V P} {K:bJ U} {S:Side U} {c:Ctx} {tm:Array Value} {a:Act} {w:World} {σ:St U} {g:Gh U} {D:Nat→Option Nat}
variable {next:Act→World→Prop} {Q:Exit→Act→World→Prop} {r:MR U} {τ:St U} {fp gp:List Loc} {N:au}
variable {dst:Option Tmp} {ty:TypeId} {pos:String} {after:Array Edge} {gd:Option (Nat×Bool)}
theorem DQ {b:Builtin} {cl:Call} (hb:cl.callee= .builtin b) (w:World):(execOp a.eval ⟨dst,.call cl,ty,pos,after,gd⟩).run P w=
  (builtin b cl.argTypes ty (cl.args.map fun| .const _=>true|_=>false) (cl.args.map a.eval)).run P w:=by
 simp only [execOp,resolve,hb,Sem.run_bind,Sem.run_pure,Result.andThen_ok,invoke]
 rfl
theorem Sy {t:TypeId} (X:Link V P) (h:Nat.beq (V.eqk t) 4=true):P.underlying t=some .string:=by
 simp [Env.eqk] at h
 split at h
 ·rename_i row hrow;exact (X.ty t row hrow).isStr h
 ·cases h
theorem BC {t:TypeId} {e:U.E} (X:Link V P) (h:V.mty t=some e): ∃b i,P.underlying t=some (.map (X.etid e) b)∧P.info? b=some i∧i.zero=some (.bool false):=by
 unfold Env.mty at h
 split at h
 ·rename_i row hrow;exact (X.ty t row hrow).keys e h
 ·cases h
theorem wF {k:Nat} {es:Array MapEntry} {clock:Nat} (hb:w.heap[k]? =some (.map es clock)):(getObj k).run P w= .ok (.map es clock) w:=by
 simp [getObj,Sem.run,hb]
theorem D0 {k:Nat} {es:Array MapEntry} {clock:Nat} (o:Obj) (hb:w.heap[k]? =some (.map es clock)):(setObj k o).run P w= .ok () {w with heap:=w.heap.setIfInBounds k o}:=by
 simp [setObj,Sem.run,hb]
theorem Po {b:Builtin} {cl:Call} (hb:cl.callee= .builtin b) (hb':b≠ .recover) (hd:aU c.nt ⟨dst,.call cl,ty,pos,after,gd⟩=true) (h:Sim X c a.tmps w σ g D) (hr:(a_ V S ⟨dst,.call cl,ty,pos,after,gd⟩).Rel K σ fp r τ gp)
  (ht:Then X c a r τ next Q):(⟨dst,.call cl,ty,pos,after,gd⟩:Oper).wp P a w next Q:=by
 have hr0:(gK V cl.args.toList cl.argTypes.toList fun vs=>tD V dst b cl.argTypes.toList vs).Rel K σ fp r τ gp:=by
  obtain ⟨callee,args,ats⟩:=cl
  simp only at hb
  subst hb
  cases b<;>first|exact hr|exact absurd rfl hb'
 obtain ⟨vs,fp1,hl,hvs,hr1⟩:=qF h hr0
 have hrun:=DQ (a:=a) (dst:=dst) (ty:=ty) (pos:=pos) (after:=after) (gd:=gd) (P:=P) hb w
 have iW: ∀ {p:PV U},vs=[p]→ ∃x,cl.args.map a.eval= #[x]∧Rep X w (c.N g D) g x p:=by
  intro p hp
  obtain ⟨x,hx⟩:=LV hl hp
  subst hp
  refine ⟨a.eval x, ?_, ?_⟩
  ·apply Array.ext';simp [hx]
  ·have:=hvs 0 p rfl;simpa [hx] using this
 have two: ∀ {p q:PV U},vs=[p,q]→ ∃x y,cl.args.map a.eval= #[x,y]∧Rep X w (c.N g D) g x p∧Rep X w (c.N g D) g y q:=by
  intro p q hp
  obtain ⟨x,y,hx⟩:=LW hl hp
  subst hp
  refine ⟨a.eval x,a.eval y, ?_, ?_, ?_⟩
  ·apply Array.ext';simp [hx]
  ·have:=hvs 0 p rfl;simpa [hx] using this
  ·have:=hvs 1 q rfl;simpa [hx] using this
 have ty1: ∀ {t:TypeId},cl.argTypes.toList=[t]→cl.argTypes= #[t]:=fun h=>Array.ext' (by simpa using h)
 generalize hts:cl.argTypes.toList=ts at hr1
 unfold tD at hr1
 split at hr1
 ·rename_i t s
  obtain ⟨x,hx,hrep⟩:=iW rfl
  cases hE:Nat.beq (V.eqk t) 4 with
  |false=>rw [hE] at hr1;exact hr1.elim
  |true=>
   rw [hE] at hr1
   refine bg hd ht h (v:= .int .i64 s.size) ?_ (.int _ _) hr1
   rw [hrun,hx,ty1 hts,rZ hrep]
   simp [builtin,Builtin.len_,run_underlying (Sy X hE),goInt]
 ·rename_i t id
  obtain ⟨x,hx,hrep⟩:=iW rfl
  simp only [M.Rel] at hr1
  split at hr1
  case h_2=>exact hr1.elim
  rename_i e l hbx
  split at hr1
  case h_2=>exact hr1.elim
  rename_i e' hm
  obtain ⟨vb,i,hu,_⟩:=BC X hm
  obtain ⟨k,hk,en,cl',hblk,hsz,_⟩:=h.boxes _ _ hbx
  cases hrep with
  |mp _ b hb2=>
   rw [hb2] at hk
   injection hk with hk
   subst hk
   refine bg hd ht h (v:= .int .i64 l.length) ?_ (.int _ _) hr1
   rw [hrun,hx,ty1 hts]
   simp [builtin,Builtin.len_,run_underlying hu,goInt,wF hblk,hsz]
 ·rename_i t x0 _ _
  obtain ⟨x,hx,hrep⟩:=iW rfl
  obtain ⟨e,l,fp2,hr2,A,n,cp,hv,hln,_⟩:=Gz h hrep hr1
  cases hE:V.isEl t e with
  |false=>rw [hE] at hr2;exact hr2.elim
  |true=>
   rw [hE] at hr2
   refine bg hd ht h (v:= .int .i64 l.length) ?_ (.int _ _) hr2
   rw [hrun,hx,ty1 hts,hv]
   simp [builtin,Builtin.len_,run_underlying (ng X hE).1,goInt,hln]
 ·rename_i t u x0 y0
  obtain ⟨x,y,hx,hrx,hry⟩:=two rfl
  cases dst with
  |none=>exact hr1.elim
  |some d=>
   obtain ⟨htu,hrr,v',w',g',D',hrun',hs⟩:=JG (t':=ty) h hrx hry (qr hd) hr1
   subst htu
   have hat:cl.argTypes= #[t,t]:=Array.ext' (by simpa using hts)
   unfold Oper.wp
   rw [hrun,hx,hat]
   simp only [builtin,Sem.run_bind,hrun',Result.andThen_ok,Sem.run_pure]
   exact ht.done hrr _ _ _ _ rfl hs
 ·rename_i k x0 k' y0
  obtain ⟨x,y,hx,hrx,hry⟩:=two rfl
  refine bg hd ht h (v:= .int k _) ?_ (.int _ _) hr1
  rw [hrun,hx,b8 hrx,b8 hry]
  simp [builtin,run_min_int2]
 ·rename_i k x0 k' y0
  obtain ⟨x,y,hx,hrx,hry⟩:=two rfl
  refine bg hd ht h (v:= .int k _) ?_ (.int _ _) hr1
  rw [hrun,hx,b8 hrx,b8 hry]
  simp [builtin,run_max_int2]
 ·exact hr1.elim
end
end Go.Proofs.YtapmagaejigpnaaGreatDoor.PI
