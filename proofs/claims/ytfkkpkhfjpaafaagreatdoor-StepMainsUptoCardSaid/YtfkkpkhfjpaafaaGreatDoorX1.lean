/- Part 1 of a proof: the sources, with their names and remarks, lie in wip/. -/
import Derived.Test.YtfkkpkhfjpaafaaGreatDoorX0
import Derived.Laws.Tables
import Derived.Laws.AppendOwn
import Derived.Laws.Small
import Derived.Calls
namespace Go.Proofs.YtfkkpkhfjpaafaaGreatDoor.PI
open Go
set_option linter.unusedVariables false
set_option linter.unusedSimpArgs false
section
variable {U:Uni} {V:Env U} {P:Program} {X:Link V P} {K:cj U} {S:Side U} {c:Ctx} {a:Act} {w:World} {σ:St U} {g:Gh U} {D:Nat→Option Nat}
variable {next:Act→World→Prop} {Q:Exit→Act→World→Prop} {r:MR U} {τ:St U} {fp gp:List Loc} {N:aN}
variable {dst:Option Tmp} {ty:TypeId} {pos:String} {after:Array Edge} {gd:Option (Nat×Bool)}
theorem z6 {t:TypeId} {v:Value} {p:PV U} (hf:jj V t p=true) (h:Rep X w N g v p): ∃row,V.ty t=some row∧p.cs.length=row.size∧v.cells.size=row.size∧
  (∀ (j:Nat) q,p.cs[j]? =some q→Rep X w N g (v.cells.getD j undef) q)∧(∀x∈v.cells.toList,x.oneCell'=true):=by
 unfold jj at hf
 split at hf
 case h_2=>cases hf
 rename_i row hrow
 simp only [Bool.and_eq_true] at hf
 obtain ⟨h1,h2⟩:=hf
 obtain ⟨h3,h4⟩:=Qu h h2
 have h1':p.cs.length=row.size:=by simpa using h1
 refine ⟨row,hrow,h1',by omega,h4,fun x hx=> ?_⟩
 obtain ⟨j,hj,rfl⟩:=List.getElem_of_mem hx
 have hj':j<p.cs.length:=by simp at hj;omega
 have:=h4 j _ (List.getElem?_eq_getElem hj')
 have hx:v.cells.getD j undef=v.cells.toList[j]:=by simp at hj;simp [Array.getD_eq_getD_getElem?,hj]
 rw [hx] at this
 exact Qv this (List.all_eq_true.1 h2 _ (List.getElem_mem hj'))
theorem rQ {α:Type} (l m:List α) (off j:Nat) (h:off+m.length≤l.length):
  (l.take off++(m++l.drop (off+m.length)))[j]? =if j<off then l[j]? else if j<off+m.length then m[j-off]? else l[j]? :=by
 have hl:(l.take off).length=off:=by simp;omega
 by_cases h1:j<off
 ·rw [List.getElem?_append_left (by omega),if_pos h1,List.getElem?_take_of_lt h1]
 ·rw [List.getElem?_append_right (by omega),hl,if_neg h1]
  by_cases h2:j<off+m.length
  ·rw [if_pos h2,List.getElem?_append_left (by omega)]
  ·rw [if_neg h2,List.getElem?_append_right (by omega),List.getElem?_drop]
   congr 1;omega
theorem BN {α:Type} (l m:List α) (off:Nat) (h:off+m.length≤l.length):(l.take off++(m++l.drop (off+m.length))).length=l.length:=by
 simp;omega
theorem R7 {cur us:List Value} {cs ps:List (PV U)} {off:Nat} (hl:cur.length=cs.length) (hl':us.length=ps.length) (hle:off+ps.length≤cs.length)
  (h1: ∀ (j:Nat) p,cs[j]? =some p→Rep X w N g (cur.getD j undef) p) (h2: ∀ (j:Nat) p,ps[j]? =some p→Rep X w N g (us.getD j undef) p):
  ∀ (j:Nat) p,(gj cs off ps)[j]? =some p→Rep X w N g ((cur.take off++(us++cur.drop (off+us.length))).getD j undef) p:=by
 intro j p hp
 unfold gj at hp
 rw [rQ _ _ _ _ hle] at hp
 rw [List.getD_eq_getElem?_getD,rQ _ _ _ _ (by omega)]
 split at hp
 ·rw [if_pos ‹_›,←List.getD_eq_getElem?_getD];exact h1 j p hp
 ·rw [if_neg ‹_›]
  split at hp
  ·rw [if_pos (by omega),←List.getD_eq_getElem?_getD];exact h2 _ p hp
  ·rw [if_neg (by omega),←List.getD_eq_getElem?_getD];exact h1 j p hp
theorem Q0 (X:Link V P) {t:TypeId} {row:Ty U} (hrow:V.ty t=some row) {k off:Nat} {cur:Array Value} {e:TypeId} {u:Value} (hk:w.heap[k]? =some (.cells cur e (0,0)))
  (hs:u.cells.size=row.size) (hle:off+u.cells.size≤cur.size) (h1: ∀x∈u.cells.toList,x.oneCell'=true):
  (Instr.storeAt t (.pointer (some ⟨k,off,none⟩)) u).run P w= .ok () (w.setRow k (cur.toList.take off++(u.cells.toList++cur.toList.drop (off+u.cells.toList.length))).toArray):=by
 have hst:=run_storeCells_at P k off e u.cells.toList 0 cur w hk (by simpa using hle) h1
 simp only [Nat.add_zero,List.append_assoc] at hst
 simp only [Instr.storeAt,Instr.sureAddr,Sem.run_bind,Sem.run_pure,Result.andThen_ok,storeVar,G8 (X:=X) (X.ty t row hrow),hs,ne_eq,not_true,if_false,hst]
theorem akv (h:Sim X c a.tmps w σ g D) {t:TypeId} {p v:PV U} {u x:Value} {m:M U} (hp:Rep X w (c.N g D) g u p) (hv:Rep X w (c.N g D) g x v) (hr:(Hp V t p v m).Rel K σ fp r τ gp):
  ∃σ' D' fp' w',m.Rel K σ' fp' r τ gp∧(Instr.storeAt t u x).run P w= .ok () w'∧Sim X c a.tmps w' σ' g D':=by
 unfold Hp at hr
 split at hr
 ·rename_i id off
  simp only [M.Rel] at hr
  split at hr
  ·rename_i cs hcs
   cases hb:jj V t v&&Nat.ble (off+v.cs.length) cs.length with
   |false=>rw [hb] at hr;exact hr.elim
   |true=>
    rw [hb] at hr
    simp only [Bool.and_eq_true,Nat.ble_eq] at hb
    obtain ⟨hf,hle⟩:=hb
    obtain ⟨row,hrow,hl1,hl2,hcells,hone⟩:=z6 hf hv
    obtain ⟨k,hk,cur,e,hblk,hsz,hcur⟩:=h.boxes _ _ hcs
    cases hp with
    |ptr _ _ b hb=>
     rw [hb] at hk
     injection hk with hk
     subst hk
     have hrun:=Q0 X hrow hblk hl2 (off:=off) (by omega) hone
     refine ⟨_,D,_,_,hr,hrun, ?_⟩
     have hw: ∀b' o,b'<w.heap.size→ ¬ (c.N g D) b' o→(w.setRow b (cur.toList.take off++(x.cells.toList++cur.toList.drop (off+x.cells.toList.length))).toArray).cell? ⟨b',o,none⟩=w.cell? ⟨b',o,none⟩:=fun b' o _ hn=>
      cell_setRow_other w b _ _ (fun e=>hn (.inr (.inl ⟨id,by simp at e;rw [e];exact hb⟩)))
     refine h.setBox hb rfl rfl rfl (by simp) (fun b' hne=>setRow_other w b b' _ hne) ⟨_,e,setRow_heap w b cur _ e _ hblk, ?_,fun j q hq=> ?_⟩
     ·simp only [gj,List.size_toArray,List.length_append,List.length_take,List.length_drop,Array.length_toList];omega
     ·have:=R7 (X:=X) (w:=w) (N:=c.N g D) (g:=g) (cur:=cur.toList) (us:=x.cells.toList) (by simpa using hsz) (by simp;omega) hle (fun j p hp=>by
        have:=hcur j p hp
        simpa [Array.getD_eq_getD_getElem?,List.getD_eq_getElem?_getD] using this) (fun j p hp=>by
        have:=hcells j p hp
        simpa [Array.getD_eq_getD_getElem?,List.getD_eq_getElem?_getD] using this) j q hq
      have:=this.mono X hw (fun _ _ _ h=>h) (Gh.le.refl g)
      simpa [Array.getD_eq_getD_getElem?,List.getD_eq_getElem?_getD] using this
  ·exact hr.elim
 ·rename_i i ver j off
  obtain ⟨v',σ1,D1,fp1,hr1,hF,hv1,_⟩:=nu v h hv hr
  have hp1:=hF.rep hp
  have h1:=hF.sim
  obtain ⟨ob,fp2,hob,hver,hr2⟩:=mF hr1
  simp only [M.Rel] at hr2
  cases hu:σ1.u i with
  |read=>rw [hu] at hr2;exact hr2.elim
  |app=>rw [hu] at hr2;exact hr2.elim
  |wr=>
   rw [hu] at hr2
   obtain ⟨y,hy,hr3⟩:=hr2
   obtain ⟨h0,hy'⟩:=pV hy
   dsimp only at hr3
   cases hb:jj V t v'&&Nat.ble (off+v'.cs.length) (V.cells ob.e y).length with
   |false=>rw [hb] at hr3;exact hr3.elim
   |true=>
    rw [hb] at hr3
    simp only [Bool.and_eq_true,Nat.ble_eq] at hb
    obtain ⟨hf,hle⟩:=hb
    simp only [cond_true] at hr3
    split at hr3
    case h_2=>exact hr3.elim
    rename_i z hz
    obtain ⟨row,hrow,hl1,hl2,hcells,hone⟩:=z6 hf hv1
    obtain ⟨val,hkap,hOb⟩:=h1.objs i ob hob
    rw [hu] at hOb
    obtain ⟨A,n,cp,hval,hlen,hcp,hcl,hD⟩:=hOb.val
    have hlen':=X.len ob.e y
    cases hDi:D1 i with
    |none=>
     rw [hDi] at hD
     have:=(hD.1 rfl)
     have hlt:=(List.getElem?_eq_some_iff.1 hy').1
     omega
    |some b=>
     rw [hDi] at hD
     obtain ⟨_,cur,hA,hblk,hsz,hmax⟩:=hD
     cases hp1 with
     |optr _ _ _ _ _ ver' e' val' hk' hle' he hs=>
      rw [hkap] at hk'
      injection hk' with hk'
      injection hk' with e1 hk'
      injection hk' with e2 e3
      subst e1;subst e2;subst e3
      obtain ⟨b',n',cp',hval',hu'⟩:=he hver.symm
      subst hA
      rw [hval] at hval'
      injection hval' with q1 q2 q3
      injection q1 with q1
      subst q1;subst q2;subst q3
      rw [Addr.add_lit',Nat.zero_add] at hu'
      subst hu'
      have hjlt:j.toNat<n:=by have:=(List.getElem?_eq_some_iff.1 hy').1;omega
      have hbound:j.toNat*X.esize ob.e+X.esize ob.e≤cp*X.esize ob.e:=by
       have:(j.toNat+1)*X.esize ob.e≤cp*X.esize ob.e:=Nat.mul_le_mul_right _ (by omega)
       rw [Nat.add_mul,Nat.one_mul] at this;exact this
      have hrun:=Q0 X hrow hblk hl2 (off:=j.toNat*X.esize ob.e+off) (by omega) hone
      refine ⟨_,D1,_,_,hr3,hrun, ?_⟩
      obtain ⟨t1,t2,t3⟩:=X.toEl _ _ _ hz
      have hN:(c.N g D1)=(c.N g D1):=rfl
      have hw: ∀b' o,b'<w.heap.size→ ¬ (c.N g D1) b' o→(w.setRow b (cur.toList.take (j.toNat*X.esize ob.e+off)++(x.cells.toList++cur.toList.drop (j.toNat*X.esize ob.e+off+x.cells.toList.length))).toArray).cell? ⟨b',o,none⟩=w.cell? ⟨b',o,none⟩:=fun b' o _ hn=>
       cell_setRow_other w b _ _ (fun e=>hn (.inr (.inr ⟨i,by simp at e;rw [e];exact hDi⟩)))
      have hmono: ∀ {v:Value} {p:PV U},Rep X w (c.N g D1) g v p→Rep X (w.setRow b (cur.toList.take (j.toNat*X.esize ob.e+off)++(x.cells.toList++cur.toList.drop (j.toNat*X.esize ob.e+off+x.cells.toList.length))).toArray) (c.N g D1) g v p:=
       fun h=>h.mono X hw (fun _ _ _ h=>h) (Gh.le.refl g)
      have hcurlen:(cur.toList.take (j.toNat*X.esize ob.e+off)++(x.cells.toList++cur.toList.drop (j.toNat*X.esize ob.e+off+x.cells.toList.length))).length=cur.size:=by
       rw [BN _ _ _ (by simp;omega)];simp
      refine h1.objsTurn (fun q=>q=i) rfl rfl rfl (by simp) (fun b' _ hne=>setRow_other w b b' _ (fun e=>hne i rfl (e▸hDi))) (fun _=>rfl) (fun _=>rfl) rfl (Gh.le.refl g)
       (fun q b' hq=>by
        by_cases hqi:q=i
        ·exact .inr (.inl ⟨i,rfl,by rw [←hqi];exact hq⟩)
        ·exact .inl ⟨hqi,hq⟩)
       (fun q q' b' _ hq hq'=>h1.dinj _ _ _ hq hq')
       (fun q hq=>⟨by rw [St.setO_o,if_neg (Ne.symm hq)],rfl,rfl,rfl⟩)
       (fun q ob' hq hob'=> ?_) (fun q hq ho=>by subst hq;rw [St.setO_o,if_pos rfl] at ho;cases ho)
      subst hq
      rw [St.setO_o,if_pos rfl] at hob'
      injection hob' with hob'
      subst hob'
      refine ⟨val,hkap, ?_⟩
      simp only [St.setO_u,hu,hDi]
      refine ⟨some ⟨b,0,none⟩,n,cp,hval,by simpa using hlen,hcp,fun j' x' hx' k' p' hp'=> ?_,by simp,_,rfl,setRow_heap w b cur _ _ _ hblk,by rw [List.size_toArray,hcurlen,hsz],hmax⟩
      have hkl:k'<X.esize ob.e:=by have:=(List.getElem?_eq_some_iff.1 hp').1;rw [X.len] at this;exact this
      refine ⟨⟨b,0,none⟩,(cur.toList.take (j.toNat*X.esize ob.e+off)++(x.cells.toList++cur.toList.drop (j.toNat*X.esize ob.e+off+x.cells.toList.length))).getD (j'*X.esize ob.e+k') undef,rfl, ?_, ?_,by simp⟩
      ·rw [Addr.add_lit',Nat.zero_add,cell_setRow_same w b _ cur _ _ (0,0) hblk]
       have hj'lt:j'<n:=by
        have:=(List.getElem?_eq_some_iff.1 hx').1
        simp at this;omega
       have hb2:j'*X.esize ob.e+X.esize ob.e≤cp*X.esize ob.e:=by
        have:(j'+1)*X.esize ob.e≤cp*X.esize ob.e:=Nat.mul_le_mul_right _ (by omega)
        rw [Nat.add_mul,Nat.one_mul] at this;exact this
       have hlt:j'*X.esize ob.e+k'<(cur.toList.take (j.toNat*X.esize ob.e+off)++(x.cells.toList++cur.toList.drop (j.toNat*X.esize ob.e+off+x.cells.toList.length))).length:=by
        rw [hcurlen];omega
       rw [List.getElem?_toArray,List.getD_eq_getElem?_getD,List.getElem?_eq_getElem hlt];rfl
      ·apply hmono
       rw [List.getElem?_set] at hx'
       rw [List.getD_eq_getElem?_getD,rQ _ _ _ _ (by simp;omega)]
       have hold: ∀ (j2 k2:Nat) x2 p2,ob.l[j2]? =some x2→(V.cells ob.e x2)[k2]? =some p2→Rep X w (c.N g D1) g (cur.toList[j2*X.esize ob.e+k2]?.getD undef) p2:=by
        intro j2 k2 x2 p2 hx2 hp2
        obtain ⟨a2,v2,ha2,hc2,hr2,_⟩:=hcl j2 x2 hx2 k2 p2 hp2
        cases ha2
        rw [Addr.add_lit',Nat.zero_add] at hc2
        unfold World.cell? at hc2
        rw [hblk] at hc2
        simp at hc2
        simp [hc2];exact hr2
       by_cases hjj:j.toNat=j'
       ·subst hjj
        rw [if_pos rfl] at hx'
        split at hx'
        case isFalse=>cases hx'
        injection hx' with hx'
        subst hx'
        have hsl:=BN (V.cells ob.e y) v'.cs off hle
        have hk2:k'<(gj (V.cells ob.e y) off v'.cs).length:=by unfold gj;rw [hsl,X.len];exact hkl
        obtain ⟨q,hq,hless⟩:=t3 k' _ (List.getElem?_eq_getElem hk2)
        rw [hp'] at hq
        injection hq with hq
        subst hq
        refine Rep.less ?_ hless
        have hsp:(gj (V.cells ob.e y) off v'.cs)[k']? =some (gj (V.cells ob.e y) off v'.cs)[k']:=List.getElem?_eq_getElem hk2
        generalize (gj (V.cells ob.e y) off v'.cs)[k']=sp at hsp
        unfold gj at hsp
        rw [rQ _ _ _ _ hle] at hsp
        by_cases hA:k'<off
        ·rw [if_pos hA] at hsp
         rw [if_pos (by omega)]
         exact hold _ _ _ _ hy' hsp
        ·rw [if_neg hA] at hsp
         rw [if_neg (by omega)]
         by_cases hB:k'<off+v'.cs.length
         ·rw [if_pos hB] at hsp
          rw [if_pos (by simp;omega),show j.toNat*X.esize ob.e+k'-(j.toNat*X.esize ob.e+off)=k'-off by omega]
          have:=hcells _ _ hsp
          simpa [Array.getD_eq_getD_getElem?] using this
         ·rw [if_neg hB] at hsp
          rw [if_neg (by simp;omega)]
          exact hold _ _ _ _ hy' hsp
       ·rw [if_neg hjj] at hx'
        have hne: ¬ (j.toNat*X.esize ob.e+off≤j'*X.esize ob.e+k'∧j'*X.esize ob.e+k'<j.toNat*X.esize ob.e+off+x.cells.toList.length):=by
         rintro ⟨q1,q2⟩
         have hsz':off+x.cells.toList.length≤X.esize ob.e:=by simp;omega
         rcases Nat.lt_or_gt_of_ne hjj with h3|h3
         ·have:(j.toNat+1)*X.esize ob.e≤j'*X.esize ob.e:=Nat.mul_le_mul_right _ h3
          rw [Nat.add_mul,Nat.one_mul] at this;omega
         ·have:(j'+1)*X.esize ob.e≤j.toNat*X.esize ob.e:=Nat.mul_le_mul_right _ h3
          rw [Nat.add_mul,Nat.one_mul] at this;omega
        have:=hold _ _ _ _ hx' hp'
        split
        ·exact this
        ·split
         ·omega
         ·exact this
 ·exact hr.elim
theorem ahr {t:TypeId} {x y:Operand} (h:Sim X c a.tmps w σ g D) (hr:(bL V S ⟨dst,.store t x y,ty,pos,after,gd⟩).Rel K σ fp r τ gp)
  (ht:Then X c a r τ next Q):(⟨dst,.store t x y,ty,pos,after,gd⟩:Oper).wp P a w next Q:=by
 cases hdst:dst with
 |some d=>subst hdst;exact hr.elim
 |none=>
 subst hdst
 obtain ⟨p,fp1,hp,hr1⟩:=b9 h hr
 obtain ⟨v,fp2,hv,hr2⟩:=b9 h hr1
 have hdst:(none:Option Tmp)=none:=rfl
 obtain ⟨σ',D',fp',w',hr3,hrun,hs⟩:=akv h hp hv hr2
 obtain ⟨h1,h2,_⟩:=hr3
 subst h2
 exact wp_skip ht hdst hs (by simp [execOp,hrun]) h1
end
end Go.Proofs.YtfkkpkhfjpaafaaGreatDoor.PI
namespace Go.Proofs.YtfkkpkhfjpaafaaGreatDoor.PI
open Go
set_option linter.unusedVariables false
set_option linter.unusedSimpArgs false
section
variable {U:Uni} {V:Env U} {P:Program} {X:Link V P} {K:cj U} {S:Side U} {c:Ctx} {a:Act} {w:World} {σ:St U} {g:Gh U} {D:Nat→Option Nat}
variable {next:Act→World→Prop} {Q:Exit→Act→World→Prop} {r:MR U} {τ:St U} {fp gp:List Loc} {N:aN}
variable {dst:Option Tmp} {ty:TypeId} {pos:String} {after:Array Edge} {gd:Option (Nat×Bool)}
theorem zH {op:Op} {d:Nat} {nt:Nat} (h:bq nt ⟨some d,op,ty,pos,after,gd⟩=true):d<nt:=by simpa [bq] using h
theorem Us {op:Op} {d:Nat} (hd:bq c.nt ⟨some d,op,ty,pos,after,gd⟩=true) (h:Sim X c a.tmps w σ g D) {b:Nat} (hfree:σ.b b=none) (hfix:c.fix b=none) {cells:Array Value} {et:TypeId} {cs:List (PV U)}
  (hsz:cells.size=cs.length) (hc: ∀ (j:Nat) p,cs[j]? =some p→Rep X w (c.N g D) g (cells.getD j undef) p)
  (hrun:(execOp a.eval ⟨some d,op,ty,pos,after,gd⟩).run P w= .ok (.value (.pointer (some ⟨w.heap.size,0,none⟩))) (w.alloc (.cells cells et)))
  (hr:r= .done) (hτ:τ=(σ.setB b (.cells cs)).setR d (.ptr b 0)) (ht:Then X c a r τ next Q):(⟨some d,op,ty,pos,after,gd⟩:Oper).wp P a w next Q:=by
 subst hτ
 have hs:=h.newBox hfree hfix (o:= .cells cells et) (b:= .cells cs) ⟨cells,et,heap_alloc_new w _,hsz,fun j p hp=>h.newRep hfree _ (hc j p hp)⟩
 obtain ⟨h1,h2⟩:=hs.putAct (o:=⟨some d,op,ty,pos,after,gd⟩) hd (p:= .ptr b 0) (.ptr b 0 w.heap.size (by simp [Gh.put]))
 unfold Oper.wp
 rw [hrun]
 exact ht.done hr _ _ _ _ h2 h1
def PinOK (S:Side U) (c:Ctx):Prop:= ∀d,S.pin d=true→c.fix (5000000+d)=none
theorem PinOK.free (hP:PinOK S c) {d:Nat} (hd:d<c.nt):c.fix (S.boxId d)=none:=by
 unfold Side.boxId
 cases hp:S.pin d with
 |true=>exact hP d hp
 |false=>exact c.free hd
theorem ag3 (hP:PinOK S c) {t:TypeId} (hd:bq c.nt ⟨dst,.alloc t,ty,pos,after,gd⟩=true) (h:Sim X c a.tmps w σ g D) (hr:(bL V S ⟨dst,.alloc t,ty,pos,after,gd⟩).Rel K σ fp r τ gp)
  (ht:Then X c a r τ next Q):(⟨dst,.alloc t,ty,pos,after,gd⟩:Oper).wp P a w next Q:=by
 simp only [bL] at hr
 split at hr
 case h_2=>exact hr.elim
 rename_i d z hz
 simp only [M.Rel] at hr
 split at hr
 case h_2=>exact hr.elim
 rename_i hfree
 obtain ⟨h1,h2,_⟩:=hr
 unfold Env.zero at hz
 split at hz
 case h_2=>cases hz
 rename_i row hrow
 injection hz with hz
 subst hz
 obtain ⟨i,zv,hi,hs,hzero,hzs⟩:=(X.ty t row hrow).info
 obtain ⟨hl,hrep⟩:=Uz X (w:=w) (N:=c.N g D) (g:=g) hzs
 refine Us hd h hfree (hP.free (zH hd)) (cells:=zv.cells) (et:=t) (by simpa using hl) (fun j p hp=> ?_) ?_ h1 h2 ht
 ·have:=hrep j p hp
  simpa [Array.getD_eq_getD_getElem?,List.getD_eq_getElem?_getD] using this
 ·simp [execOp,Instr.alloc,zeroValue,typeInfo,hi,hzero,newVar,newRow]
theorem ag6 (hP:PinOK S c) {t:TypeId} {x:Operand} (hd:bq c.nt ⟨dst,.box t x,ty,pos,after,gd⟩=true) (h:Sim X c a.tmps w σ g D) (hr:(bL V S ⟨dst,.box t x,ty,pos,after,gd⟩).Rel K σ fp r τ gp)
  (ht:Then X c a r τ next Q):(⟨dst,.box t x,ty,pos,after,gd⟩:Oper).wp P a w next Q:=by
 obtain ⟨p,fp1,hp,hr1⟩:=b9 h hr
 split at hr1
 case h_2=>exact hr1.elim
 rename_i d hdd
 cases hdd
 simp only [M.Rel] at hr1
 split at hr1
 case h_2=>exact hr1.elim
 rename_i hfree
 cases hf:jj V t p with
 |false=>rw [hf] at hr1;exact hr1.elim
 |true=>
  rw [hf] at hr1
  obtain ⟨h1,h2,_⟩:=hr1
  obtain ⟨row,hrow,hl1,hl2,hcells,_⟩:=z6 hf hp
  exact Us hd h hfree (hP.free (zH hd)) (cells:=(a.eval x).cells) (et:=t) (by omega) hcells (by simp [execOp,Instr.box,newVar,newRow]) h1 h2 ht
theorem aiD {f:Field} {q:TypeInfo} (hi:P.info? f.type=some q) (hq:0<q.size) (b:Addr) (w:World):(fieldPlace b f).run P w= .ok (b.add f.offset) w:=by
 have:q.size≠0:=by omega
 simp [fieldPlace,sizeOf,typeInfo,hi,this]
theorem R4 {t:TypeId} {i off:Nat} {ft:TypeId} (X:Link V P) (h:V.soff t i=some (off,ft)): ∃ (fs:Array Field) (f:Field) (q:TypeInfo),P.underlying t=some (.struct fs)∧fs[i]? =some f∧f.offset=off∧f.type=ft∧P.info? ft=some q∧0<q.size:=by
 unfold Env.soff at h
 split at h
 ·rename_i row hrow
  split at h
  ·rename_i harr;exact (X.ty t row hrow).fields harr i off ft h
  ·cases h
 ·cases h
theorem ahd {s:TypeId} {x:Operand} {f:Nat} (hd:bq c.nt ⟨dst,.fieldAddr s x f,ty,pos,after,gd⟩=true) (h:Sim X c a.tmps w σ g D) (hr:(bL V S ⟨dst,.fieldAddr s x f,ty,pos,after,gd⟩).Rel K σ fp r τ gp)
  (ht:Then X c a r τ next Q):(⟨dst,.fieldAddr s x f,ty,pos,after,gd⟩:Oper).wp P a w next Q:=by
 obtain ⟨p,fp1,hp,hr1⟩:=b9 h hr
 have run: ∀ {off:Nat} {ft:TypeId} {b:Addr},V.soff s f=some (off,ft)→a.eval x= .pointer (some b)→(execOp a.eval ⟨dst,.fieldAddr s x f,ty,pos,after,gd⟩).run P w= .ok (.value (.pointer (some (b.add off)))) w:=by
  intro off ft b ho he
  obtain ⟨fs,fd,q,hu,hf,h1,h2,h3,h4⟩:=R4 X ho
  subst h1;subst h2
  simp [execOp,Instr.fieldAt,run_underlying hu,hf,he,Instr.sureAddr,aiD h3 h4]
 split at hr1
 ·rename_i off ft id n ho
  have hp':=hp
  generalize he:a.eval x=ev at hp
  cases hp with
  |ptr _ _ b hb=>exact bN hd ht h (run ho he) (by rw [Addr.add_lit'];exact .ptr id (n+off) b hb) hr1
 ·rename_i off ft e y n ho
  generalize he:a.eval x=ev at hp
  cases hp with
  |eptr _ _ _ b val h1 h2=>exact bN hd ht h (run ho he) (by rw [Addr.add_add];exact .eptr e y (n+off) b val h1 h2) hr1
 ·rename_i off ft i v j n ho
  generalize he:a.eval x=ev at hp
  cases hp with
  |optr _ _ _ _ val ver e val' hk hv he' hs=>
   obtain ⟨b,rfl⟩:=hs
   refine bN hd ht h (run ho he) (.optr i v j (n+off) _ ver e val' hk hv (fun hver=> ?_) ⟨_,rfl⟩) hr1
   obtain ⟨b',n',cp,h1,h2⟩:=he' hver
   injection h2 with h2
   injection h2 with h2
   subst h2
   exact ⟨b',n',cp,h1,by rw [Addr.add_add,Nat.add_assoc]⟩
 ·exact hr1.elim
theorem ahc {s:TypeId} {x:Operand} {f:Nat} (hd:bq c.nt ⟨dst,.field s x f,ty,pos,after,gd⟩=true) (h:Sim X c a.tmps w σ g D) (hr:(bL V S ⟨dst,.field s x f,ty,pos,after,gd⟩).Rel K σ fp r τ gp)
  (ht:Then X c a r τ next Q):(⟨dst,.field s x f,ty,pos,after,gd⟩:Oper).wp P a w next Q:=by
 obtain ⟨p,fp1,hp,hr1⟩:=b9 h hr
 split at hr1
 case h_2=>exact hr1.elim
 rename_i off ft cs ho
 unfold m8 at hr1
 split at hr1
 case h_2=>exact hr1.elim
 rename_i y hy
 obtain ⟨fs,fd,q,hu,hf,h1,h2,h3,h4⟩:=R4 X ho
 subst h1;subst h2
 generalize he:a.eval x=ev at hp
 cases hp with
 |agg vs _ hl hh=>
  unfold yv at hy
  split at hy
  case h_2=>cases hy
  rename_i row hrow
  have hT:=X.ty fd.type row hrow
  cases hag:row.agg with
  |true=>
   rw [hag] at hy
   simp only [cond_true] at hy
   cases hle:Nat.ble (fd.offset+row.size) cs.length with
   |false=>rw [hle] at hy;cases hy
   |true=>
    rw [hle] at hy
    simp only [cond_true,Option.some.injEq] at hy
    subst hy
    have hle':fd.offset+row.size≤cs.length:=by simpa using hle
    refine bN hd ht h (v:= .agg (vs.extract fd.offset (fd.offset+row.size))) ?_ (.agg _ _ ?_ fun j p hp=> ?_) hr1
    ·simp [execOp,Instr.field,run_underlying hu,hf,he,asAgg,part,vT hT,hag,G8 hT]
    ·simp;omega
    ·have hj:j<row.size:=by have:=(List.getElem?_eq_some_iff.1 hp).1;simp at this;omega
     rw [List.getElem?_take_of_lt hj,List.getElem?_drop] at hp
     have:=hh _ _ hp
     have hlt:fd.offset+j<vs.size:=by rw [hl];exact (List.getElem?_eq_some_iff.1 hp).1
     have e:(vs.extract fd.offset (fd.offset+row.size)).getD j undef=vs.getD (fd.offset+j) undef:=by
      have h5:j<min (fd.offset+row.size) vs.size-fd.offset:=by omega
      simp [Array.getD_eq_getD_getElem?,Array.getElem?_extract,h5,hlt]
     rw [e];exact this
  |false=>
   rw [hag] at hy
   simp only [cond_false] at hy
   have:=hh _ _ hy
   have hlt:fd.offset<vs.size:=by rw [hl];exact (List.getElem?_eq_some_iff.1 hy).1
   refine bN hd ht h (v:=vs.getD fd.offset undef) ?_ this hr1
   simp [execOp,Instr.field,run_underlying hu,hf,he,asAgg,part,vT hT,hag,hlt,Array.getD_eq_getD_getElem?]
theorem uE {t:TypeId} {e:U.E} (X:Link V P) (h:V.isEl t e=true):P.underlying t=some (.slice (X.etid e))∧V.ety t=some e:=by
 unfold Env.isEl at h
 split at h
 ·rename_i e' he
  split at h
  ·rename_i hh
   subst hh
   refine ⟨?_,he⟩
   unfold Env.ety at he
   split at he
   ·rename_i row hrow;exact (X.ty t row hrow).elem _ he
   ·cases he
  ·cases h
 ·cases h
theorem vS (X:Link V P) (e:U.E) (w:World):(sizeOf (X.etid e)).run P w= .ok (X.esize e) w:=by
 obtain ⟨i,hi,_,hs,_⟩:=X.einfo e
 simp [sizeOf,typeInfo,hi,hs]
theorem QY {t:TypeId} {e:U.E} (X:Link V P) (h:V.isEl t e=true) {b:Addr} {n cp:Nat} {k:IntKind} {i:Int} (h0:0≤i) (h1:i.toNat<n) (w:World):
  (Instr.indexAt t (.slice (some b) n cp) (.int k i)).run P w= .ok (.pointer (some (b.add (i.toNat*X.esize e)))) w:=by
 have hi:i<(n:Int):=by omega
 simp [Instr.indexAt,asIntOf,run_underlying (uE X h).1,h0,hi,vS X e]
theorem ahf {t:TypeId} {x i:Operand} (hd:bq c.nt ⟨dst,.indexAddr t x i,ty,pos,after,gd⟩=true) (h:Sim X c a.tmps w σ g D) (hr:(bL V S ⟨dst,.indexAddr t x i,ty,pos,after,gd⟩).Rel K σ fp r τ gp)
  (ht:Then X c a r τ next Q):(⟨dst,.indexAddr t x i,ty,pos,after,gd⟩:Oper).wp P a w next Q:=by
 obtain ⟨p,fp1,hp,hr1⟩:=b9 h hr
 obtain ⟨q,fp2,hq,hr2⟩:=b9 h hr1
 split at hr2
 ·rename_i e l o k n
  cases hE:V.isEl t e with
  |false=>rw [hE] at hr2;exact hr2.elim
  |true=>
   rw [hE] at hr2
   obtain ⟨y,hy,hr3⟩:=hr2
   obtain ⟨h0,hy'⟩:=pV hy
   have hq':=c6 hq
   generalize he:a.eval x=ev at hp
   cases hp with
   |sl A m cp _ _ _ val hl hcp ho h1 h2=>
    obtain ⟨b,hA⟩: ∃b,A=some b:=by
     cases hcs:V.cells e y with
     |nil=>exact absurd hcs (yp X y)
     |cons p0 rest=>obtain ⟨b,hb,_⟩:=h1 _ y hy' 0 p0 (by rw [hcs];rfl);exact ⟨b,hb⟩
    subst hA
    have hlt:n.toNat<m:=by rw [←hl];exact (List.getElem?_eq_some_iff.1 hy').1
    refine bN hd ht h (v:= .pointer (some (b.add (n.toNat*X.esize e)))) ?_ ?_ hr3
    ·simp [execOp,he,hq',QY X hE h0 hlt]
    ·have:=Rep.eptr (X:=X) (w:=w) (N:=c.N g D) (g:=g) e y 0 (b.add (n.toNat*X.esize e)) (val n.toNat) (fun k p hp=>by
      obtain ⟨b',hb',hc,hn⟩:=h1 _ y hy' k p hp
      cases hb'
      rw [Addr.add_add,Addr.add_block,Addr.add_off,Nat.add_assoc]
      exact ⟨hc,hn⟩) (fun k p hp=>h2 _ y hy' k p hp)
     rwa [Addr.add_zero] at this
 ·rename_i ii v k n
  obtain ⟨ob,fp3,hob,hver,hr3⟩:=mF hr2
  cases hE:V.isEl t ob.e with
  |false=>rw [hE] at hr3;exact hr3.elim
  |true=>
   rw [hE] at hr3
   obtain ⟨y,hy,hr4⟩:=hr3
   obtain ⟨h0,hy'⟩:=pV hy
   have hq':=c6 hq
   obtain ⟨val,hkap,hOb⟩:=h.objs ii ob hob
   obtain ⟨b,m,cp,hval,_⟩:=NP hOb hy' (yp X y)
   obtain ⟨_,m',cp',hval',hlen,_⟩:=hOb.val
   rw [hval] at hval';cases hval'
   generalize he:a.eval x=ev at hp
   cases hp with
   |own _ _ _ ver e val' hk hle hev hs=>
    have hkk:=hk
    rw [hkap] at hk
    injection hk with hk
    injection hk with e1 hk
    injection hk with e2 e3
    subst e1;subst e2;subst e3
    have hev':=hev hver.symm
    subst hev'
    have hlt:n.toNat<m:=by rw [←hlen];exact (List.getElem?_eq_some_iff.1 hy').1
    refine bN hd ht h (v:= .pointer (some (b.add (n.toNat*X.esize ob.e)))) ?_ ?_ hr4
    ·simp [execOp,he,hq',hval,QY X hE h0 hlt]
    ·exact .optr ii v n 0 _ ob.ver ob.e _ hkk hle (fun _=>⟨b,m,cp,hval,by rw [Nat.add_zero]⟩) ⟨_,rfl⟩
 ·rename_i id k n
  simp only [M.Rel] at hr2
  split at hr2
  case h_2=>exact hr2.elim
  rename_i cs hcs
  split at hr2
  case h_2=>exact hr2.elim
  rename_i m hm
  cases hml:Nat.beq m cs.length with
  |false=>rw [hml] at hr2;exact hr2.elim
  |true=>
   rw [hml] at hr2
   obtain ⟨hn,hr3⟩:=iX hr2
   have hq':=c6 hq
   obtain ⟨e,qq,hu,hi,hs,hmr,_⟩: ∃ (e:TypeId) (q:TypeInfo),P.underlying t=some (.array m e)∧P.info? e=some q∧q.size=1∧True∧True:=by
    unfold Env.arr at hm
    split at hm
    ·rename_i row hrow
     obtain ⟨e,q,h1,h2,h3,_⟩:=(X.ty t row hrow).arr m hm
     exact ⟨e,q,h1,h2,h3,trivial,trivial⟩
    ·cases hm
   have hml':m=cs.length:=by simpa using hml
   generalize he:a.eval x=ev at hp
   cases hp with
   |ptr _ _ b hb=>
    refine bN hd ht h (v:= .pointer (some ⟨b,n.toNat,none⟩)) ?_ (.aptr id n b hb hn.1) hr3
    have hlt:n<(m:Int):=by omega
    simp [execOp,he,hq',Instr.indexAt,asIntOf,run_underlying hu,hn.1,hlt,sizeOf,typeInfo,hi,hs,Instr.sureAddr,Addr.add_lit']
 ·exact hr2.elim
theorem ahe {t:TypeId} {x i:Operand} (hd:bq c.nt ⟨dst,.index t x i,ty,pos,after,gd⟩=true) (h:Sim X c a.tmps w σ g D) (hr:(bL V S ⟨dst,.index t x i,ty,pos,after,gd⟩).Rel K σ fp r τ gp)
  (ht:Then X c a r τ next Q):(⟨dst,.index t x i,ty,pos,after,gd⟩:Oper).wp P a w next Q:=by
 obtain ⟨p,fp1,hp,hr1⟩:=b9 h hr
 obtain ⟨q,fp2,hq,hr2⟩:=b9 h hr1
 split at hr2
 case h_2=>exact hr2.elim
 rename_i s k n
 cases hE:Nat.beq (V.eqk t) 4 with
 |false=>rw [hE] at hr2;exact hr2.elim
 |true=>
  rw [hE] at hr2
  obtain ⟨y,hy,hr3⟩:=hr2
  obtain ⟨h0,hy'⟩:=pV hy
  have hq':=c6 hq
  have hp':=Bm hp
  have hu:P.underlying t=some .string:=by
   simp [Env.eqk] at hE
   split at hE
   ·rename_i row hrow;exact (X.ty t row hrow).isStr hE
   ·cases hE
  refine bN hd ht h (v:= .int .u8 y.toNat) ?_ (.int _ _) hr3
  have hy2:s[n.toNat]? =some y:=by
   have:n.toNat<s.data.size:=by have:=(List.getElem?_eq_some_iff.1 hy').1;simpa using this
   have hb:n.toNat<s.size:=this
   rw [getElem?_pos s n.toNat hb]
   have:=(List.getElem?_eq_some_iff.1 hy').2
   simp at this
   exact congrArg some this
  simp [execOp,hq',hp',Instr.index,asIntOf,run_underlying hu,h0,hy2]
end
end Go.Proofs.YtfkkpkhfjpaafaaGreatDoor.PI
namespace Go.Proofs.YtfkkpkhfjpaafaaGreatDoor.PI
open Go
set_option linter.unusedVariables false
set_option linter.unusedSimpArgs false
section
variable {U:Uni} {V:Env U} {P:Program} {X:Link V P} {K:cj U} {S:Side U} {c:Ctx} {a:Act} {w:World} {σ:St U} {g:Gh U} {D:Nat→Option Nat}
variable {next:Act→World→Prop} {Q:Exit→Act→World→Prop} {r:MR U} {τ:St U} {fp gp:List Loc} {N:aN}
variable {dst:Option Tmp} {ty:TypeId} {pos:String} {after:Array Edge} {gd:Option (Nat×Bool)}
theorem ac0 (off:Nat): ∀ (l:List Value) (s:Nat) (cells:Array Value),off+s+l.length≤cells.size→
  (l.zipIdx s).foldl (fun cs (x:Value×Nat)=>cs.setIfInBounds (off+x.2) x.1) cells=(cells.toList.take (off+s)++(l++cells.toList.drop (off+s+l.length))).toArray:=by
 intro l
 induction l with
 |nil=>intro s cells h;simp
 |cons v l ih=>
  intro s cells h
  simp only [List.zipIdx_cons,List.foldl_cons]
  rw [ih (s+1) _ (by simp at h ⊢;omega)]
  congr 1
  have e:=list_seg_step cells.toList (off+s) v l (by simp at h ⊢;omega)
  simp only [Array.toList_setIfInBounds,List.length_cons,List.append_assoc,Nat.add_assoc] at e ⊢
  exact e
theorem KF (off:Nat) (vs cells:Array Value) (h:off+vs.size≤cells.size):
  vs.zipIdx.foldl (fun cs (x:Value×Nat)=>cs.setIfInBounds (off+x.2) x.1) cells=(cells.toList.take off++(vs.toList++cells.toList.drop (off+vs.toList.length))).toArray:=by
 rw [←Array.foldl_toList,Array.toList_zipIdx]
 have:=ac0 off vs.toList 0 cells (by simpa using h)
 simpa using this
theorem acS {t:TypeId} {bt:Nat→Option (Nat×Nat)} (hpl: ∀i off ft row,V.foff t i=some (off,ft)→V.ty ft=some row→bt i=some (off,row.size)):
  ∀ (parts:List (Nat×PV U)) (us:List (Nat×Value)) (cs cs':List (PV U)) (cells:Array Value),parts.map (·.1)=us.map (·.1)→
   (∀ (j:Nat) i p u,parts[j]? =some (i,p)→us[j]? =some (i,u)→Rep X w N g u p)→cells.size=cs.length→(∀ (j:Nat) p,cs[j]? =some p→Rep X w N g (cells.getD j undef) p)→
   fill V t cs parts=some cs'→ ∃cells',Instr.fill bt cells us=some cells'∧cells'.size=cs'.length∧(∀ (j:Nat) p,cs'[j]? =some p→Rep X w N g (cells'.getD j undef) p):=by
 intro parts
 induction parts with
 |nil=>
  intro us cs cs' cells hm _ hl hc hf
  cases us with
  |nil=>simp [fill] at hf;subst hf;exact ⟨cells,rfl,hl,hc⟩
  |cons=>simp at hm
 |cons ip parts ih=>
  intro us cs cs' cells hm hp hl hc hf
  obtain ⟨i,p⟩:=ip
  cases us with
  |nil=>simp at hm
  |cons iu us=>
   obtain ⟨i',u⟩:=iu
   simp only [List.map_cons,List.cons.injEq] at hm
   obtain ⟨rfl,hm⟩:=hm
   simp only [fill] at hf
   split at hf
   case h_2=>cases hf
   rename_i off ft ho
   cases hb:jj V ft p&&Nat.ble (off+p.cs.length) cs.length with
   |false=>rw [hb] at hf;cases hf
   |true=>
    rw [hb] at hf
    simp only [Bool.and_eq_true,Nat.ble_eq] at hb
    obtain ⟨hft,hle⟩:=hb
    simp only [cond_true] at hf
    obtain ⟨row,hrow,h1,h2,h3,_⟩:=z6 hft (hp 0 i p u rfl rfl)
    have hplace:=hpl i off ft row ho hrow
    simp only [Instr.fill,hplace]
    rw [if_neg (by simp;omega),KF off u.cells cells (by omega)]
    refine ih us _ cs' _ hm (fun j i p u h1 h2=>hp (j+1) i p u (by simpa using h1) (by simpa using h2)) ?_ (fun j q hq=> ?_) hf
    ·simp only [gj,List.size_toArray,List.length_append,List.length_take,List.length_drop,Array.length_toList];omega
    ·have:=R7 (X:=X) (w:=w) (N:=N) (g:=g) (cur:=cells.toList) (us:=u.cells.toList) (by simpa using hl) (by simp;omega) hle (fun j p hp=>by
       have:=hc j p hp
       simpa [Array.getD_eq_getD_getElem?,List.getD_eq_getElem?_getD] using this) (fun j p hp=>by
       have:=h3 j p hp
       simpa [Array.getD_eq_getD_getElem?,List.getD_eq_getElem?_getD] using this) j q hq
     simpa [Array.getD_eq_getD_getElem?,List.getD_eq_getElem?_getD] using this
theorem KE (h:Sim X c a.tmps w σ g D) {ty':Nat→TypeId}: ∀ {parts:List (Nat×Operand)} {k:List (Nat×PV U)→M U} {fp:List Loc}
  (hr:(zW V ty' parts k).Rel K σ fp r τ gp),∃vs fp',vs.map (·.1)=parts.map (·.1)∧(∀ (j:Nat) i p u,vs[j]? =some (i,p)→(parts.map fun (i,x)=>(i,a.eval x))[j]? =some (i,u)→Rep X w (c.N g D) g u p)∧(k vs).Rel K σ fp' r τ gp:=by
 intro parts
 induction parts with
 |nil=>intro k fp hr;exact ⟨[],fp,rfl,by simp,hr⟩
 |cons ix parts ih=>
  intro k fp hr
  obtain ⟨i,x⟩:=ix
  obtain ⟨v,fp',hv,hr'⟩:=b9 h hr
  obtain ⟨vs,fp'',hl,hvs,hk⟩:=ih hr'
  refine ⟨(i,v)::vs,fp'',by simp [hl],fun j i' p u hp hu=> ?_,hk⟩
  cases j with
  |zero=>simp at hp hu;obtain ⟨rfl,rfl⟩:=hp;obtain ⟨_,rfl⟩:=hu;exact hv
  |succ j=>exact hvs j i' p u (by simpa using hp) (by simpa using hu)
theorem agD {α β:Type} {f:α→Option β}: ∀ {l:List α} {ps:List β},l.mapM f=some ps→ ∀ (i:Nat) x,l[i]? =some x→ ∃y,f x=some y∧ps[i]? =some y:=by
 intro l
 induction l with
 |nil=>intro ps h i x hx;simp at hx
 |cons b l ih=>
  intro ps h i x hx
  simp only [List.mapM_cons,Option.bind_eq_bind,Option.pure_def] at h
  cases hb:f b with
  |none=>simp [hb] at h
  |some y=>
   cases hr:l.mapM f with
   |none=>simp [hb,hr] at h
   |some rest=>
    simp [hb,hr] at h
    subst h
    cases i with
    |zero=>simp at hx;subst hx;exact ⟨y,hb,rfl⟩
    |succ i=>exact ih hr i x (by simpa using hx)
theorem ag7 {t:TypeId} {parts:Array (Nat×Operand)} (hd:bq c.nt ⟨dst,.build t parts,ty,pos,after,gd⟩=true) (h:Sim X c a.tmps w σ g D) (hr:(bL V S ⟨dst,.build t parts,ty,pos,after,gd⟩).Rel K σ fp r τ gp)
  (ht:Then X c a r τ next Q):(⟨dst,.build t parts,ty,pos,after,gd⟩:Oper).wp P a w next Q:=by
 simp only [bL] at hr
 split at hr
 case h_2=>exact hr.elim
 rename_i z of0 hz hf0
 obtain ⟨vs,fp1,hl,hvs,hr1⟩:=KE h hr
 split at hr1
 case h_2=>exact hr1.elim
 rename_i cs hcs
 unfold Env.zero at hz
 split at hz
 case h_2=>cases hz
 rename_i row hrow
 injection hz with hz
 subst hz
 have hT:=X.ty t row hrow
 obtain ⟨i,zv,hi,hs,hzero,hzs⟩:=hT.info
 obtain ⟨hzl,hrep⟩:=Uz X (w:=w) (N:=c.N g D) (g:=g) hzs
 have go: ∀bt,(∀i off ft row,V.foff t i=some (off,ft)→V.ty ft=some row→bt i=some (off,row.size))→(∀cells,Instr.fill bt zv.cells (parts.toList.map fun (i,x)=>(i,a.eval x))=some cells→P.built t (parts.map fun (i,x)=>(i,a.eval x)).toList=some cells)→
   (⟨dst,.build t parts,ty,pos,after,gd⟩:Oper).wp P a w next Q:=by
  intro bt hpl hb
  obtain ⟨cells,hf,hsz,hrp⟩:=acS (X:=X) (w:=w) (N:=c.N g D) (g:=g) hpl vs (parts.toList.map fun (i,x)=>(i,a.eval x)) row.zero cs zv.cells (by rw [hl];simp [Function.comp_def]) hvs (by simpa using hzl) (fun j p hp=>by
   have:=hrep j p hp
   simpa [Array.getD_eq_getD_getElem?,List.getD_eq_getElem?_getD] using this) hcs
  exact bN hd ht h (v:= .agg cells) (by simp only [execOp,Sem.run_bind,run_build w t _ cells (hb cells hf),Result.andThen_ok,Sem.run_pure]) (.agg cells cs hsz hrp) hr1
 have hfo: ∀i off ft,V.foff t i=some (off,ft)→row.fields[i]? =some (off,ft):=by
  intro i off ft hh
  simpa [Env.foff,hrow] using hh
 cases harr:row.arr with
 |none=>
  obtain ⟨off0,ft0⟩:=of0
  obtain ⟨fs,_,_,hu,_⟩:=hT.fields harr 0 off0 ft0 (hfo _ _ _ hf0)
  obtain ⟨ps,hps⟩:=hT.places fs hu
  refine go (ps.toArray[·]?) (fun i off ft row' ho hrow'=> ?_) (fun cells hf=> ?_)
  ·obtain ⟨fs',f,q,hu',hf,h1,h2,h3,_⟩:=hT.fields harr i off ft (hfo _ _ _ ho)
   rw [hu] at hu'
   injection hu' with hu'
   injection hu' with hu'
   subst hu'
   obtain ⟨y,hy,hy2⟩:=agD hps i f (by simpa using hf)
   obtain ⟨i2,z2,hi2,hs2,_⟩:=(X.ty ft row' hrow').info
   rw [h2,h3] at hy
   rw [h3] at hi2
   injection hi2 with hi2
   subst hi2
   simp at hy
   subst hy
   simp [hy2,h1,hs2]
  ·simp only [Program.built,hi,hu,hzero,hps]
   simpa using hf
 |some n=>
  obtain ⟨e,q,hu,hq,hq1,hn,hfl⟩:=hT.arr n harr
  refine go (fun i=>some (i*q.size,q.size)) (fun i off ft row' ho hrow'=> ?_) (fun cells hf=> ?_)
  ·obtain ⟨_,h2,h3⟩:=hfl i off ft (hfo _ _ _ ho)
   obtain ⟨i2,z2,hi2,hs2,_⟩:=(X.ty ft row' hrow').info
   rw [h2,hq] at hi2
   injection hi2 with hi2
   subst hi2
   simp [hs2.symm,hq1,h3]
  ·simp only [Program.built,hi,hu,hzero,hq]
   simpa using hf
end
end Go.Proofs.YtfkkpkhfjpaafaaGreatDoor.PI
namespace Go.Proofs.YtfkkpkhfjpaafaaGreatDoor.PI
open Go
set_option linter.unusedVariables false
set_option linter.unusedSimpArgs false
section
variable {U:Uni} {V:Env U} {P:Program} {X:Link V P} {K:cj U} {S:Side U} {c:Ctx} {a:Act} {w:World} {σ:St U} {g:Gh U} {D:Nat→Option Nat}
variable {next:Act→World→Prop} {Q:Exit→Act→World→Prop} {r:MR U} {τ:St U} {fp gp:List Loc} {N:aN}
variable {dst:Option Tmp} {ty:TypeId} {pos:String} {after:Array Edge} {gd:Option (Nat×Bool)}
theorem acD {tm:Array Value} {e:U.E}: ∀ (vs:List (Nat×PV U)) {n0:Nat} {σ:St U} {D:Nat→Option Nat} {k:List (U.El e)→M U} {fp:List Loc} (us:Nat→Value),Sim X c tm w σ g D→
  (∀ (j:Nat) i p,vs[j]? =some (i,p)→Rep X w (c.N g D) g (us j) p)→(zS V e n0 vs k).Rel K σ fp r τ gp→
  ∃l σ' D' fp',(k l).Rel K σ' fp' r τ gp∧Frozen X c tm w g σ D σ' D'∧l.length=vs.length∧(∀ (j:Nat) i p,vs[j]? =some (i,p)→i=n0+j)∧
   ∀ (j:Nat) x,l[j]? =some x→(us j).cells.size=X.esize e∧ ∀ (k:Nat) p,(V.cells e x)[k]? =some p→Rep X w (c.N g D') g ((us j).cells.getD k undef) p:=by
 intro vs
 induction vs with
 |nil=>intro n0 σ D k fp us h _ hr;exact ⟨[],_,_,_,hr,.refl h,rfl,by simp,by simp⟩
 |cons ip vs ih=>
  intro n0 σ D k fp us h hv hr
  obtain ⟨i,p⟩:=ip
  unfold zS at hr
  cases hi:Nat.beq i n0 with
  |false=>rw [hi] at hr;exact hr.elim
  |true=>
   rw [hi] at hr
   simp only [cond_true] at hr
   obtain ⟨q,σ1,D1,fp1,hr1,hF,hq,_⟩:=nu p h (hv 0 i p rfl) hr
   split at hr1
   case h_2=>exact hr1.elim
   rename_i x hx
   obtain ⟨l,σ2,D2,fp2,hr2,hF2,hl,hidx,hcells⟩:=ih (fun j=>us (j+1)) hF.sim (fun j i p hp=>hF.rep (hv (j+1) i p (by simpa using hp))) hr1
   obtain ⟨t1,t2,t3⟩:=X.toEl _ _ _ hx
   obtain ⟨s1,s2⟩:=Qu hq t2
   refine ⟨x::l,σ2,D2,fp2,hr2,hF.trans hF2,by simp [hl],fun j i' p' hp=> ?_,fun j y hy=> ?_⟩
   ·cases j with
    |zero=>simp at hp;obtain ⟨rfl,_⟩:=hp;simpa using hi
    |succ j=>have:=hidx j i' p' (by simpa using hp);omega
   ·cases j with
    |zero=>
     simp at hy;subst hy
     refine ⟨by omega,fun k p hp=>hF2.rep ?_⟩
     have hk:k<q.cs.length:=by
      have:=(List.getElem?_eq_some_iff.1 hp).1;rw [X.len] at this;omega
     obtain ⟨q',hq',hless⟩:=t3 k _ (List.getElem?_eq_getElem hk)
     rw [hp] at hq'
     injection hq' with hq'
     subst hq'
     exact (s2 k _ (List.getElem?_eq_getElem hk)).less hless
    |succ j=>exact hcells j y (by simpa using hy)
theorem acT (size:Nat): ∀ (us:List (Nat×Value)) (n0:Nat) (cells:Array Value),(n0+us.length)*size≤cells.size→(∀ (j:Nat) i u,us[j]? =some (i,u)→i=n0+j∧u.cells.size=size)→
  ∃cells',Instr.fill (fun i=>some (i*size,size)) cells us=some cells'∧cells'.size=cells.size∧(∀q,q<n0*size→cells'[q]? =cells[q]?)∧
   ∀ (j:Nat) i u,us[j]? =some (i,u)→ ∀k,k<size→cells'[(n0+j)*size+k]? =u.cells[k]? :=by
 intro us
 induction us with
 |nil=>intro n0 cells _ _;exact ⟨cells,rfl,rfl,fun _ _=>rfl,by simp⟩
 |cons iu us ih=>
  intro n0 cells hle hu
  obtain ⟨i,u⟩:=iu
  obtain ⟨hi,hs⟩:=hu 0 i u rfl
  have hi':i=n0:=by simpa using hi
  subst hi'
  have hb:(i+1)*size≤cells.size:=Nat.le_trans (Nat.mul_le_mul_right _ (by simp)) hle
  have hb':i*size+size≤cells.size:=by rw [Nat.add_mul,Nat.one_mul] at hb;exact hb
  simp only [Instr.fill]
  rw [if_neg (by simp;omega),KF _ _ _ (by omega)]
  have hlen:(cells.toList.take (i*size)++(u.cells.toList++cells.toList.drop (i*size+u.cells.toList.length))).length=cells.size:=by
   rw [BN _ _ _ (by simp;omega)];simp
  obtain ⟨cells',hf,hsz,hold,hnew⟩:=ih (i+1) (cells.toList.take (i*size)++(u.cells.toList++cells.toList.drop (i*size+u.cells.toList.length))).toArray (by
    rw [List.size_toArray,hlen];refine Nat.le_trans (Nat.mul_le_mul_right _ ?_) hle;simp;omega) (fun j i' u' hj=>by
    have:=hu (j+1) i' u' (by simpa using hj);omega)
  refine ⟨cells',hf,by rw [hsz,List.size_toArray,hlen],fun q hq=> ?_,fun j i' u' hj k hk=> ?_⟩
  ·rw [hold q (by rw [Nat.add_mul,Nat.one_mul];omega),List.getElem?_toArray,rQ _ _ _ _ (by simp;omega),if_pos hq];simp
  ·cases j with
   |zero=>
    simp at hj
    obtain ⟨rfl,rfl⟩:=hj
    rw [Nat.add_zero,hold _ (by rw [Nat.add_mul,Nat.one_mul];omega),List.getElem?_toArray,rQ _ _ _ _ (by simp;omega),if_neg (by omega),if_pos (by simp;omega),
     show i*size+k-i*size=k by omega]
    simp
   |succ j=>
    have:=hnew j i' u' (by simpa using hj) k hk
    rw [show i+(j+1)=i+1+j by omega];exact this
theorem ag8 {t:TypeId} {n:Nat} {parts:Array (Nat×Operand)} (hd:bq c.nt ⟨dst,.buildSlice t n parts,ty,pos,after,gd⟩=true) (h:Sim X c a.tmps w σ g D) (hr:(bL V S ⟨dst,.buildSlice t n parts,ty,pos,after,gd⟩).Rel K σ fp r τ gp)
  (ht:Then X c a r τ next Q):(⟨dst,.buildSlice t n parts,ty,pos,after,gd⟩:Oper).wp P a w next Q:=by
 simp only [bL] at hr
 split at hr
 case h_2=>exact hr.elim
 rename_i e he
 obtain ⟨vs,fp1,hl,hvs,hr1⟩:=KE h hr
 have hlen:vs.length=parts.toList.length:=by simpa using congrArg List.length hl
 obtain ⟨l,σ1,D1,fp2,hr2,hF,hll,hidx,hcells⟩:=acD (X:=X) (w:=w) (g:=g) vs (fun j=>((parts.toList.map fun (i,x)=>(i,a.eval x)).getD j (0,undef)).2) h (fun j i p hp=>by
  have hj:j<parts.toList.length:=by rw [←hlen];exact (List.getElem?_eq_some_iff.1 hp).1
  have hpi:(parts.toList.map fun (i,x)=>(i,a.eval x))[j]? =some (i,a.eval (parts.toList[j]).2):=by
   have h1:(vs.map (·.1))[j]? =some i:=by simp [hp]
   rw [hl] at h1
   simp only [List.getElem?_map,List.getElem?_eq_getElem hj,Option.map_some,Option.some.injEq] at h1 ⊢
   exact Prod.ext h1 rfl
  have:=hvs j i p _ hp hpi
  simp only [List.getD_eq_getElem?_getD,hpi]
  exact this) hr1
 cases hb:Nat.beq l.length n&&Nat.ble n 1000 with
 |false=>rw [hb] at hr2;exact hr2.elim
 |true=>
  rw [hb] at hr2
  simp only [Bool.and_eq_true,Nat.ble_eq] at hb
  obtain ⟨hln,hn⟩:=hb
  have hln':l.length=n:=by simpa using hln
  have hu:P.underlying t=some (.slice (X.etid e)):=by
   unfold Env.ety at he
   split at he
   ·rename_i row hrow;exact (X.ty t row hrow).elem _ he
   ·cases he
  obtain ⟨i,hi,hz,hsi,_⟩:=X.einfo e
  have hbig: ¬n*X.esize e>2^24:=by
   have h1:=X.small e
   have:n*X.esize e≤1000*1000:=Nat.mul_le_mul hn h1
   omega
  obtain ⟨z,hz1,hz2⟩: ∃z:Array Value,(n*X.esize e=0→z= #[])∧(n*X.esize e≠0→z=(X.ezero e).cells):=by
   by_cases h0:n*X.esize e=0
   ·exact ⟨#[],fun _=>rfl,fun h=>absurd h0 h⟩
   ·exact ⟨_,fun h=>absurd h h0,fun _=>rfl⟩
  obtain ⟨cells,hf,hsz,_,hnew⟩:=acT (X.esize e) (parts.toList.map fun (i,x)=>(i,a.eval x)) 0 ((Array.range (n*X.esize e)).map (z[· %z.size]!)) (by simp at hlen ⊢;rw [←hln',hll,hlen];exact Nat.le_refl _) (fun j i u hj=>by
   have hjl:j<vs.length:=by rw [hlen];have:=(List.getElem?_eq_some_iff.1 hj).1;simpa using this
   have h1:=hidx j _ _ (List.getElem?_eq_getElem hjl)
   have h2:(vs.map (·.1))[j]? =some (vs[j]).1:=by simp [hjl]
   rw [hl] at h2
   have h3:(parts.toList.map (·.1))[j]? =some i:=by
    have:=congrArg (Option.map (·.1)) hj
    simpa [Function.comp_def] using this
   rw [h3] at h2
   injection h2 with h2
   refine ⟨h2.trans h1, ?_⟩
   have hjl':j<l.length:=by omega
   have:=(hcells j _ (List.getElem?_eq_getElem hjl')).1
   simp only [List.getD_eq_getElem?_getD,hj] at this
   exact this)
  have hsz':cells.size=n*X.esize e:=by rw [hsz];simp
  have hs:=hF.sim.alloc (.cells cells (X.etid e))
  refine bN hd ht hs (v:= .slice (some ⟨w.heap.size,0,none⟩) n n) ?_ (.sl _ n n e l .full (fun j k=>cells.getD (j*X.esize e+k) undef) hln' (Nat.le_refl _) rfl (fun j x hx k p hp=> ?_) fun j x hx k p hp=> ?_) hr2
  ·by_cases h0:n*X.esize e=0
   ·have hz':=hz1 h0
    subst hz'
    simp only [execOp,Instr.buildSlice,Sem.run_bind,run_underlying hu,Result.andThen_ok,vS X e,if_neg hbig,if_pos h0,Sem.run_pure,Array.toList_map,hf,newRow,run_newObj,World.alloc_eq,Sem.run_ite]
   ·have hz':=hz2 h0
    subst hz'
    have hzv:(zeroValue (X.etid e)).run P w= .ok (X.ezero e) w:=by simp [zeroValue,typeInfo,hi,hz]
    simp only [execOp,Instr.buildSlice,Sem.run_bind,run_underlying hu,Result.andThen_ok,vS X e,if_neg hbig,if_neg h0,hzv,Sem.run_pure,Array.toList_map,hf,newRow,run_newObj,World.alloc_eq,Sem.run_ite]
  ·have hk:k<X.esize e:=by have:=(List.getElem?_eq_some_iff.1 hp).1;rw [X.len] at this;exact this
   have hj:j<n:=by rw [←hln'];exact (List.getElem?_eq_some_iff.1 hx).1
   have hb:j*X.esize e+k<cells.size:=by
    rw [hsz']
    have:(j+1)*X.esize e≤n*X.esize e:=Nat.mul_le_mul_right _ hj
    rw [Nat.add_mul,Nat.one_mul] at this;omega
   refine ⟨_,rfl, ?_, ?_⟩
   ·rw [Addr.add_lit',Nat.zero_add,World.cell?_alloc_new]
    simp [Array.getD_eq_getD_getElem?,hb]
   ·rintro (hn'|⟨id,hid⟩|⟨q,hq⟩)
    ·have h1:=(c.n0 _ _ hn').1
     have h2:=hF.sim.ext.size
     simp at h1;omega
    ·have:=(hF.sim.new id _ hid).1;simp at this
    ·have:=(hF.sim.dnew q _ hq).1;simp at this
  ·have hk:k<X.esize e:=by have:=(List.getElem?_eq_some_iff.1 hp).1;rw [X.len] at this;exact this
   have hjv:j<parts.toList.length:=by rw [←hlen,←hll];exact (List.getElem?_eq_some_iff.1 hx).1
   have hjp:(parts.toList.map fun (i,x)=>(i,a.eval x))[j]? =some ((parts.toList[j]).1,a.eval (parts.toList[j]).2):=by
    rw [List.getElem?_map,List.getElem?_eq_getElem hjv];rfl
   have h1:=hnew j _ _ hjp k hk
   obtain ⟨h2,h3⟩:=hcells j x hx
   have h4:=h3 k p hp
   simp only [List.getD_eq_getElem?_getD,hjp,Option.getD_some] at h2 h4
   have h5:cells.getD (j*X.esize e+k) undef=(a.eval (parts.toList[j]).2).cells.getD k undef:=by
    rw [Nat.zero_add] at h1
    simp only [Array.getD_eq_getD_getElem?,h1]
   rw [h5]
   exact h4.mono X (fun b o hlt _=>Du w _ b o hlt) (fun _ _ _ h=>h) (Gh.le.refl g)
end
end Go.Proofs.YtfkkpkhfjpaafaaGreatDoor.PI
namespace Go.Proofs.YtfkkpkhfjpaafaaGreatDoor.PI
open Go
set_option linter.unusedVariables false
set_option linter.unusedSimpArgs false
section
variable {U:Uni} {V:Env U} {P:Program} {X:Link V P} {K:cj U} {S:Side U} {c:Ctx} {a:Act} {w:World} {σ:St U} {g:Gh U} {D:Nat→Option Nat}
variable {next:Act→World→Prop} {Q:Exit→Act→World→Prop} {r:MR U} {τ:St U} {fp gp:List Loc} {N:aN}
variable {dst:Option Tmp} {ty:TypeId} {pos:String} {after:Array Edge} {gd:Option (Nat×Bool)}
theorem BG {A:Option Addr} {n cp:Nat} {e:U.E} {l:List (U.El e)} {o o':Own} {lo hi m:Nat} (h:Rep X w N g (.slice A n cp) (.sl e l o)) (h1:lo≤hi) (h2:hi≤l.length) (h3:hi≤m)
  (ho':o'= .none∨(o'= .full∧hi=m)):Rep X w N g (sliced A lo hi m (X.esize e)) (.sl e ((l.take hi).drop lo) o'):=by
 cases h with
 |sl _ _ _ _ _ _ val hl hc ho r1 r2=>
  unfold sliced
  have hget: ∀ (j:Nat) x,((l.take hi).drop lo)[j]? =some x→l[lo+j]? =some x∧lo+j<hi:=by
   intro j x hx
   rw [List.getElem?_drop] at hx
   have hlt:lo+j<hi:=by
    have:=(List.getElem?_eq_some_iff.1 hx).1
    simp at this;omega
   rw [List.getElem?_take_of_lt hlt] at hx
   exact ⟨hx,hlt⟩
  refine .sl _ _ _ e _ o' (fun j k=>val (lo+j) k) (by simp;omega) (by omega) (by rcases ho' with rfl|⟨rfl,rfl⟩<;>simp) (fun j x hx k p hp=> ?_) fun j x hx k p hp=> ?_
  ·obtain ⟨hx',hlt⟩:=hget j x hx
   obtain ⟨b,rfl,hcell,hn⟩:=r1 _ x hx' k p hp
   rw [if_neg (by omega)]
   refine ⟨b.add (lo*X.esize e),rfl, ?_, ?_⟩
   ·rw [Addr.add_add,←Nat.add_assoc,←Nat.add_mul];exact hcell
   ·rw [Addr.add_block,Addr.add_off,Nat.add_assoc,←Nat.add_assoc (lo*_),←Nat.add_mul];exact hn
  ·exact r2 _ x (hget j x hx).1 k p hp
theorem aiF (X:Link V P) {t:TypeId} {e:U.E} (h:V.isEl t e=true) (x:Value) (lo hi mx:Option Value) (w:World):
  (Instr.sliceAt t x lo hi mx).run P w=(Instr.slice t x lo hi mx).run P w:=by
 simp [Instr.sliceAt,run_underlying (uE X h).1]
theorem KB (X:Link V P) {t:TypeId} {e:U.E} (h:V.isEl t e=true):P.elem t=X.etid e∧P.underlying t=some (.slice (P.elem t)):=by
 have hu:=(uE X h).1
 have:P.elem t=X.etid e:=by simp [Program.elem,hu]
 exact ⟨this,by rw [this];exact hu⟩
theorem Er (h:Sim X c a.tmps w σ g D) {x:Option Operand} {t:TypeId} {k:Option (PV U)→M U} {fp:List Loc} (hr:(zV V x t k).Rel K σ fp r τ gp):
  ∃v fp',(k v).Rel K σ fp' r τ gp∧(v=none→x.map a.eval=none)∧(∀p,v=some p→ ∃u,x.map a.eval=some u∧Rep X w (c.N g D) g u p):=by
 cases x with
 |none=>exact ⟨none,fp,hr,fun _=>rfl,by simp⟩
 |some x=>
  obtain ⟨v,fp',hv,hr'⟩:=b9 h hr
  exact ⟨some v,fp',hr',by simp,fun p hp=>by injection hp with hp;subst hp;exact ⟨_,rfl,hv⟩⟩
theorem ahq {t:TypeId} {x:Operand} {lo hi mx:Option Operand} (hd:bq c.nt ⟨dst,.slice t x lo hi mx,ty,pos,after,gd⟩=true) (h:Sim X c a.tmps w σ g D) (hr:(bL V S ⟨dst,.slice t x lo hi mx,ty,pos,after,gd⟩).Rel K σ fp r τ gp)
  (ht:Then X c a r τ next Q):(⟨dst,.slice t x lo hi mx,ty,pos,after,gd⟩:Oper).wp P a w next Q:=by
 obtain ⟨p,fp1,hp,hr1⟩:=b9 h hr
 obtain ⟨l1,fp2,hr2,hl1,hl1'⟩:=Er h hr1
 obtain ⟨l2,fp3,hr3,hl2,hl2'⟩:=Er h hr2
 obtain ⟨l3,fp4,hr4,hl3,hl3'⟩:=Er h hr3
 unfold R2 at hr4
 obtain ⟨q,σ1,D1,fp5,hr5,hF,hq,_⟩:=nu p h hp hr4
 split at hr5
 case h_2=>exact hr5.elim
 rename_i e l o _hx
 cases hE:V.isEl t e with
 |false=>rw [hE] at hr5;exact hr5.elim
 |true=>
  rw [hE] at hr5
  simp only [cond_true] at hr5
  have hq':=hq
  generalize he:a.eval x=ev at hq
  cases hq with
  |sl A n cp _ _ _ val hl hc ho r1 r2=>
   rw [he] at hq'
   have hel:=(KB X hE).1
   have hu:=(KB X hE).2
   have hint: ∀ {y:Option Operand} {l:Option (PV U)} {k:IntKind} {i:Int},(∀p,l=some p→ ∃u,y.map a.eval=some u∧Rep X w (c.N g D) g u p)→l=some (.int k i)→y.map a.eval=some (.int k i):=by
    intro y l k i h1 h2
    obtain ⟨u,hu,hr⟩:=h1 _ h2
    rw [hu,c6 hr]
   have run: ∀ {lo' hi' m':Nat},(Instr.slice t (.slice A n cp) (lo.map a.eval) (hi.map a.eval) (mx.map a.eval)).run P w=((sizeOf (P.elem t)).run P w).andThen (fun s w=> .ok (sliced A lo' hi' m' s) w)→
     (execOp a.eval ⟨dst,.slice t x lo hi mx,ty,pos,after,gd⟩).run P w= .ok (.value (sliced A lo' hi' m' (X.esize e))) w:=by
    intro lo' hi' m' hh
    rw [hel,vS X e] at hh
    simp only [execOp,Sem.run_bind,he,aiF X hE,hh,Result.andThen_ok,Sem.run_pure]
   split at hr5
   ·obtain ⟨hm,hr6⟩:=iX hr5
    obtain ⟨hb,hr7⟩:=iX hr6
    have e1:=hl1 rfl
    have e2:=hint hl2' rfl
    have e3:=hint hl3' rfl
    refine bN hd ht hF.sim (run (by rw [e1,e2,e3];exact run_slice_hm w t A n cp hu _ _ _ _ hb.1 (by omega) (by omega))) ?_ hr7
    refine BG (X:=X) (lo:=0) (o':= .full) hq' (Nat.zero_le _) ?_ ?_ (.inr ⟨rfl, ?_⟩)<;>omega
   ·obtain ⟨hb,hr7⟩:=iX hr5
    have e1:=hl1 rfl
    have e2:=hint hl2' rfl
    have e3:=hl3 rfl
    refine bN hd ht hF.sim (run (by rw [e1,e2,e3];exact run_slice_h w t A n cp hu _ _ hb.1 (by omega))) ?_ hr7
    refine BG (X:=X) (lo:=0) (o':= .none) hq' (Nat.zero_le _) ?_ ?_ (.inl rfl)<;>omega
   ·obtain ⟨hb,hr7⟩:=iX hr5
    have e1:=hint hl1' rfl
    have e2:=hl2 rfl
    have e3:=hl3 rfl
    refine bN hd ht hF.sim (run (by rw [e1,e2,e3];exact run_slice_l w t A n cp hu _ _ hb.1 (by omega))) ?_ hr7
    rw [show l.drop _=(l.take n).drop _ by rw [←hl,List.take_length]]
    refine BG (X:=X) (o':= .none) hq' ?_ ?_ ?_ (.inl rfl)<;>omega
   ·obtain ⟨hb,hr7⟩:=iX hr5
    have e1:=hint hl1' rfl
    have e2:=hint hl2' rfl
    have e3:=hl3 rfl
    refine bN hd ht hF.sim (run (by rw [e1,e2,e3];exact run_slice_lh w t A n cp hu _ _ _ _ hb.1 hb.2.1 (by omega))) ?_ hr7
    refine BG (X:=X) (o':= .none) hq' ?_ ?_ ?_ (.inl rfl)<;>omega
   ·exact hr5.elim
def SlAt (X:Link V P) (w:World) (N:aN) (g:Gh U) (val:Value) (e:U.E) (l:List (U.El e)):Prop:=
 ∃A n cp,val= .slice A n cp∧l.length=n∧n≤cp∧ ∀ (j:Nat) x,l[j]? =some x→ ∀ (k:Nat) p,(V.cells e x)[k]? =some p→ ∃b v,A=some b∧w.cell? (b.add (j*X.esize e+k))=some v∧Rep X w N g v p
theorem Ul {tm:Array Value} (h:Sim X c tm w σ g D) {v:Value} {y:PV U} {k:(e:U.E)→List (U.El e)→M U} (hv:Rep X w (c.N g D) g v y) (hr:(B8 y k).Rel K σ fp r τ gp):
  ∃e l fp',(k e l).Rel K σ fp' r τ gp∧SlAt X w (c.N g D) g v e l:=by
 unfold B8 at hr
 split at hr
 ·rename_i e l o
  cases hv with
  |sl A n cp _ _ _ val hl hc ho r1 r2=>
   exact ⟨e,l,_,hr,A,n,cp,rfl,hl,hc,fun j x hx k p hp=>by
    obtain ⟨b,hA,hcell,_⟩:=r1 j x hx k p hp
    exact ⟨b,_,hA,hcell,r2 j x hx k p hp⟩⟩
 ·rename_i i ver
  obtain ⟨ob,fp',hob,hver,hr2⟩:=mF hr
  obtain ⟨val,hkap,hO⟩:=h.objs i ob hob
  refine ⟨_,_,_,hr2, ?_⟩
  cases hv with
  |own _ _ _ ver' e val' hk hle he hs=>
   rw [hkap] at hk
   injection hk with hk
   injection hk with e1 hk
   injection hk with e2 e3
   subst e1;subst e2;subst e3
   have:=he hver.symm
   subst this
   obtain ⟨A,n,cp,hval,hl,hc,hh,_⟩:=hO.val
   exact ⟨A,n,cp,hval,hl,hc,fun j x hx k p hp=>by
    obtain ⟨b,v,h1,h2,h3,_⟩:=hh j x hx k p hp
    exact ⟨b,v,h1,h2,h3⟩⟩
 ·exact hr.elim
theorem acL {xs:List Operand} {vs:List (PV U)} (hl:vs.length=xs.length): ∀ {p q:PV U},vs=[p,q]→ ∃x y,xs=[x,y]:=by
 intro p q h
 subst h
 match xs,hl with
 |[x,y],_=>exact ⟨x,y,rfl⟩
theorem acK {xs:List Operand} {vs:List (PV U)} (hl:vs.length=xs.length): ∀ {p:PV U},vs=[p]→ ∃x,xs=[x]:=by
 intro p h
 subst h
 match xs,hl with
 |[x],_=>exact ⟨x,rfl⟩
end
end Go.Proofs.YtfkkpkhfjpaafaaGreatDoor.PI
namespace Go.Proofs.YtfkkpkhfjpaafaaGreatDoor.PI
open Go
set_option linter.unusedVariables false
set_option linter.unusedSimpArgs false
section
variable {U:Uni} {V:Env U} {P:Program} {X:Link V P} {K:cj U} {S:Side U} {c:Ctx} {tm:Array Value} {a:Act} {w:World} {σ:St U} {g:Gh U} {D:Nat→Option Nat}
variable {next:Act→World→Prop} {Q:Exit→Act→World→Prop} {r:MR U} {τ:St U} {fp gp:List Loc} {N:aN}
variable {dst:Option Tmp} {ty:TypeId} {pos:String} {after:Array Edge} {gd:Option (Nat×Bool)}
def Gh.newOb (g:Gh U) (d nv:Nat) (e:U.E) (val:Value) (src:Option Nat) (sv:Nat) (se:U.E):Gh U:=
 {g with κ:=fun j=>if j=d then some (nv,e,val) else if src=some j then some (sv,se,.slice none 0 0) else g.κ j}
def fR (D:Nat→Option Nat) (d:Nat) (src:Option Nat) (Dn:Option Nat):Nat→Option Nat:=fun j=>if j=d then Dn else if src=some j then none else D j
structure NewOb (w w':World) (σ:St U) (D:Nat→Option Nat) (d nv:Nat) (src:Option Nat) (sv:Nat) (Dn:Option Nat):Prop where
 os:w'.os=w.os
 tape:w'.tape=w.tape
 output:w'.output=w.output
 size:w.heap.size≤w'.heap.size
 block: ∀b,b<w.heap.size→(∀i,src=some i→D i≠some b)→w'.heap[b]? =w.heap[b]?
 nver: ∀ob,σ.o d=some ob→ob.ver<nv
 sver: ∀i,src=some i→(∀ob,σ.o i=some ob→ob.ver<sv)∧ ∃ob,σ.o i=some ob
 Dn: ∀b,Dn=some b→(∃i,src=some i∧D i=some b)∨(w.heap.size≤b∧b<w'.heap.size)
section
variable {w':World} {d nv:Nat} {e se:U.E} {val:Value} {src:Option Nat} {sv:Nat} {Dn:Option Nat}
theorem NewOb.le (hn:NewOb w w' σ D d nv src sv Dn) (h:Sim X c tm w σ g D):g.le (g.newOb d nv e val src sv se):=by
 refine ⟨fun _ _ h=>h,fun i ver e0 v0 hk=> ?_⟩
 have hold: ∃ob,σ.o i=some ob∧ob.ver=ver:=by
  cases ho:σ.o i with
  |none=>have:=(h.nobj i ho).1;rw [hk] at this;cases this
  |some ob=>
   obtain ⟨v1,h1,_⟩:=h.objs i ob ho
   rw [hk] at h1
   injection h1 with h1
   injection h1 with h1 _
   exact ⟨ob,rfl,h1.symm⟩
 obtain ⟨ob,ho,hv⟩:=hold
 simp only [Gh.newOb]
 by_cases hid:i=d
 ·subst hid
  have:=hn.nver ob ho
  exact ⟨_,_,_,if_pos rfl,by omega,fun e=>by omega⟩
 ·rw [if_neg hid]
  by_cases his:src=some i
  ·have:=(hn.sver i his).1 ob ho
   exact ⟨_,_,_,if_pos his,by omega,fun e=>by omega⟩
  ·exact ⟨_,_,_,(if_neg his).trans hk,Nat.le_refl _,fun _=>⟨rfl,rfl⟩⟩
theorem NewOb.forb (hn:NewOb w w' σ D d nv src sv Dn): ∀b o,b<w.heap.size→(c.N (g.newOb d nv e val src sv se) (fR D d src Dn)) b o→(c.N g D) b o:=by
 rintro b o hlt (h|⟨id,hid⟩|⟨j,hj⟩)
 ·exact .inl h
 ·exact .inr (.inl ⟨id,hid⟩)
 ·simp only [fR] at hj
  split at hj
  ·rcases hn.Dn b hj with ⟨i,_,hi⟩|hk
   ·exact .inr (.inr ⟨i,hi⟩)
   ·omega
  ·split at hj
   ·cases hj
   ·exact .inr (.inr ⟨j,hj⟩)
theorem NewOb.cell (hn:NewOb w w' σ D d nv src sv Dn): ∀b o,b<w.heap.size→ ¬ (c.N g D) b o→w'.cell? ⟨b,o,none⟩=w.cell? ⟨b,o,none⟩:=fun b o hlt h=>by
 unfold World.cell?
 rw [hn.block b hlt fun i _ hi=>h (.inr (.inr ⟨i,hi⟩))]
theorem NewOb.rep (hn:NewOb w w' σ D d nv src sv Dn) (h:Sim X c tm w σ g D) {v:Value} {p:PV U} (hr:Rep X w (c.N g D) g v p):
  Rep X w' (c.N (g.newOb d nv e val src sv se) (fR D d src Dn)) (g.newOb d nv e val src sv se) v p:=
 hr.mono X hn.cell hn.forb (hn.le h)
structure NewSt (σ σ':St U) (d nv:Nat) (e:U.E) (l:List (U.El e)) (u:Use) (src:Option Nat) (sv:Nat) (se:U.E):Prop where
 r: ∀n,σ'.r n=σ.r n
 b: ∀n,σ'.b n=σ.b n
 od:σ'.o d=some ⟨nv,e,l⟩
 ud:σ'.u d=u
 os: ∀i,i≠d→src=some i→σ'.o i=some ⟨sv,se,[]⟩∧σ'.u i= .read
 oo: ∀i,i≠d→src≠some i→σ'.o i=σ.o i∧σ'.u i=σ.u i
theorem Sim.newOb (h:Sim X c tm w σ g D) (hn:NewOb w w' σ D d nv src sv Dn) {σ':St U} {l:List (U.El e)} {u:Use} (hs:NewSt σ σ' d nv e l u src sv se)
  (hob:ObOK X w' (c.N (g.newOb d nv e val src sv se) (fR D d src Dn)) (g.newOb d nv e val src sv se) e l val u Dn):
  Sim X c tm w' σ' (g.newOb d nv e val src sv se) (fR D d src Dn):=by
 refine h.objsTurn (fun j=>j=d∨src=some j) hn.os hn.tape hn.output hn.size (fun b hb hne=>hn.block b hb fun i hi=>hne i (.inr hi)) hs.r hs.b rfl (hn.le h)
  (fun j b hj=> ?_) (fun j j' b hch hj hj'=> ?_) (fun j hj=> ?_) (fun j ob hj ho=> ?_) (fun j hj ho=> ?_)
 ·simp only [fR] at hj
  split at hj
  ·rcases hn.Dn b hj with ⟨i,h1,h2⟩|h1
   ·exact .inr (.inl ⟨i,.inr h1,h2⟩)
   ·exact .inr (.inr h1)
  ·split at hj
   ·cases hj
   ·rename_i h1 h2;exact .inl ⟨by rintro (h|h)<;>contradiction,hj⟩
 ·simp only [fR] at hj hj'
  split at hj
  ·rename_i hjd
   subst hjd
   by_cases h1:j'=j
   ·exact h1.symm
   ·rw [if_neg h1] at hj'
    split at hj'
    ·cases hj'
    ·rename_i h2
     rcases hn.Dn b hj with ⟨i,h3,h4⟩|h3
     ·have:=h.dinj _ _ _ h4 hj';subst this;exact absurd h3 h2
     ·have:=(h.dnew _ _ hj').1;omega
  ·split at hj
   ·cases hj
   ·rename_i h1 h2;rcases hch with h|h<;>contradiction
 ·have h1:j≠d:=fun e=>hj (.inl e)
  have h2:src≠some j:=fun e=>hj (.inr e)
  obtain ⟨h3,h4⟩:=hs.oo j h1 h2
  exact ⟨h3,h4,by simp [fR,h1,h2],by simp [Gh.newOb,h1,h2]⟩
 ·by_cases hjd:j=d
  ·subst hjd
   rw [hs.od] at ho
   injection ho with ho
   subst ho
   refine ⟨val,by simp [Gh.newOb], ?_⟩
   rw [hs.ud,show fR D j src Dn j=Dn by simp [fR]]
   exact hob
  ·have hsrc:src=some j:=hj.resolve_left hjd
   obtain ⟨h1,h2⟩:=hs.os j hjd hsrc
   rw [h1] at ho
   injection ho with ho
   subst ho
   refine ⟨.slice none 0 0,by simp [Gh.newOb,hjd,hsrc], ?_⟩
   rw [h2,show fR D d src Dn j=none by simp [fR,hjd,hsrc]]
   exact ⟨none,0,0,rfl,rfl,Nat.le_refl _,by simp,by simp⟩
 ·by_cases hjd:j=d
  ·subst hjd;rw [hs.od] at ho;cases ho
  ·have hsrc:src=some j:=hj.resolve_left hjd
   rw [(hs.os j hjd hsrc).1] at ho;cases ho
theorem vr (hst: ∃A n cp,val= .slice A n cp):Rep X w N (g.newOb d nv e val src sv se) val (.own d nv):=
 .own d nv val nv e val (by simp [Gh.newOb]) (Nat.le_refl _) (fun _=>rfl) hst
end
def bQ (w:World) (A:Option Addr) (n:Nat):List Value:=match A with|some b=>(List.range n).map fun q=>(w.cell? (b.add q)).getD undef|none=>[]
theorem adg {size q n:Nat} (hs:0<size) (h:q<n*size):q/size<n:=(Nat.div_lt_iff_lt_mul hs).2 h
theorem SlAt.cell {e:U.E} {l:List (U.El e)} {b:Addr} {n cp:Nat} (h:SlAt X w N g (.slice (some b) n cp) e l) {q:Nat} (hq:q<n*X.esize e):
  ∃x p v,l[q/X.esize e]? =some x∧(V.cells e x)[q%X.esize e]? =some p∧w.cell? (b.add q)=some v∧Rep X w N g v p:=by
 obtain ⟨A,n',cp',hv,hl,hc,hh⟩:=h
 injection hv with h1 h2 h3
 subst h1;subst h2;subst h3
 have hp:=X.epos e
 have hlt:q/X.esize e<l.length:=by rw [hl];exact adg hp hq
 have hk:q%X.esize e<(V.cells e l[q/X.esize e]).length:=by rw [X.len];exact Nat.mod_lt _ hp
 obtain ⟨b',v,hb,hcell,hr⟩:=hh _ _ (List.getElem?_eq_getElem hlt) _ _ (List.getElem?_eq_getElem hk)
 cases hb
 rw [Nat.mul_comm,Nat.div_add_mod] at hcell
 exact ⟨_,_,v,List.getElem?_eq_getElem hlt,List.getElem?_eq_getElem hk,hcell,hr⟩
theorem SlAt.row {e:U.E} {l:List (U.El e)} {A:Option Addr} {n cp:Nat} (h:SlAt X w N g (.slice A n cp) e l):(bQ w A (n*X.esize e)).length=n*X.esize e∧l.length=n∧n≤cp∧(A=none→n=0)∧
  (∀ (q:Nat) v,(bQ w A (n*X.esize e))[q]? =some v→ ∀b,A=some b→w.cell? (b.add q)=some v)∧
  (∀ (j:Nat) x,l[j]? =some x→ ∀ (k:Nat) p,(V.cells e x)[k]? =some p→ ∃v,(bQ w A (n*X.esize e))[j*X.esize e+k]? =some v∧Rep X w N g v p)∧(∀v∈bQ w A (n*X.esize e),v.oneCell'=true):=by
 have h0:=h
 obtain ⟨A',n',cp',hv,hl,hc,hh⟩:=h
 injection hv with h1 h2 h3
 subst h1;subst h2;subst h3
 have hnone:A=none→n=0:=by
  intro hA
  cases l with
  |nil=>exact hl.symm
  |cons x r=>
   cases hcs:V.cells e x with
   |nil=>exact absurd hcs (yp X x)
   |cons p0 rest=>obtain ⟨b,_,hb,_⟩:=hh 0 x rfl 0 p0 (by rw [hcs];rfl);rw [hA] at hb;cases hb
 refine ⟨?_,hl,hc,hnone,fun q v hq b hb=> ?_,fun j x hx k p hp=> ?_,fun v hv=> ?_⟩
 ·cases A with
  |none=>rw [hnone rfl];simp [bQ]
  |some b=>simp [bQ]
 ·subst hb
  have hq2:q<n*X.esize e:=by have:=(List.getElem?_eq_some_iff.1 hq).1;simpa [bQ] using this
  obtain ⟨x,p,v',_,_,hcell,_⟩:=h0.cell hq2
  simp only [bQ,List.getElem?_map,List.getElem?_range hq2,Option.map_some,hcell,Option.getD_some,Option.some.injEq] at hq
  rw [←hq];exact hcell
 ·obtain ⟨b,v,hA,hcell,hr⟩:=hh j x hx k p hp
  subst hA
  have hj:j<n:=by rw [←hl];exact (List.getElem?_eq_some_iff.1 hx).1
  have hk:k<X.esize e:=by have:=(List.getElem?_eq_some_iff.1 hp).1;rw [X.len] at this;exact this
  have hb:j*X.esize e+k<n*X.esize e:=by
   have:(j+1)*X.esize e≤n*X.esize e:=Nat.mul_le_mul_right _ hj
   rw [Nat.add_mul,Nat.one_mul] at this;omega
  exact ⟨v,by simp [bQ,hb,hcell],hr⟩
 ·cases A with
  |none=>simp [bQ] at hv
  |some b=>
   simp only [bQ,List.mem_map,List.mem_range] at hv
   obtain ⟨q,hq,rfl⟩:=hv
   obtain ⟨x,p,v',_,hp,hcell,hr⟩:=h0.cell hq
   rw [hcell]
   exact Qv hr (List.all_eq_true.1 (X.ecell e x) p (List.mem_of_getElem? hp))
end
end Go.Proofs.YtfkkpkhfjpaafaaGreatDoor.PI
namespace Go.Proofs.YtfkkpkhfjpaafaaGreatDoor.PI
open Go
set_option linter.unusedVariables false
set_option linter.unusedSimpArgs false
section
variable {U:Uni} {V:Env U} {P:Program} {X:Link V P} {K:cj U} {S:Side U} {c:Ctx} {tm:Array Value} {a:Act} {w:World} {σ:St U} {g:Gh U} {D:Nat→Option Nat}
variable {next:Act→World→Prop} {Q:Exit→Act→World→Prop} {r:MR U} {τ:St U} {fp gp:List Loc} {N:aN}
variable {dst:Option Tmp} {ty:TypeId} {pos:String} {after:Array Edge} {gd:Option (Nat×Bool)}
theorem QN {t t':TypeId} {e:U.E} (hu:P.underlying t=some (.slice (X.etid e))) (A B:Option Addr) (n cp c2:Nat) (hc:n≤cp) (w:World):
  (Builtin.append_ #[t,t] t' #[.slice A n cp,.slice B 0 c2]).run P w= .ok (.slice A n cp) w:=by
 have hf:(Builtin.firstCells (X.esize e) 0 (.slice B 0 c2)).run P w= .ok #[] w:=by
  cases B<;>simp [Builtin.firstCells,loadCells,loadCellsFrom]
 cases A<;>simp [Builtin.append_,run_underlying hu,vS X e,Builtin.lenOf,hc,hf,storeCells]
theorem QM {t t':TypeId} {e:U.E} (hu:P.underlying t=some (.slice (X.etid e))) {A B:Option Addr} {n cp m c2:Nat} {l l':List (U.El e)} {N N2:aN} {g g2:Gh U} (h1:SlAt X w N g (.slice A n cp) e l) (h2:SlAt X w N2 g2 (.slice B m c2) e l')
  (hcp:A=none→cp=0) (hm:cp<n+m) (hroom:n+m≤V.bound e):
  ∃cells cap,(Builtin.append_ #[t,t] t' #[.slice A n cp,.slice B m c2]).run P w= .ok (.slice (some ⟨w.heap.size,0,none⟩) (n+m) cap) (w.drew.alloc (.cells cells (X.etid e)))∧n+m≤cap∧cap≤maxLen∧
   cells.size=cap*X.esize e∧cells.toList.take ((n+m)*X.esize e)=bQ w A (n*X.esize e)++bQ w B (m*X.esize e):=by
 obtain ⟨r1,r2,r3,r4,r5,_,r7⟩:=h1.row
 obtain ⟨s1,s2,s3,s4,s5,_,s7⟩:=h2.row
 obtain ⟨hby,hmax⟩:=X.broom e _ hroom
 obtain ⟨i,hi,hz,hsi,hbi⟩:=X.einfo e
 have hB: ∃b,B=some b:=by
  cases B with
  |none=>have:=s4 rfl;omega
  |some b=>exact ⟨b,rfl⟩
 obtain ⟨b,rfl⟩:=hB
 have h63:n+m≤9223372036854775807:=by simp only [maxLen] at hmax;omega
 have hcells: ∀ (cap:Nat),n+m≤cap→((bQ w A (n*X.esize e)).toArray++(bQ w (some b) (m*X.esize e)).toArray++Builtin.zeroCells (X.ezero e).cells (cap-(n+m))).size=cap*X.esize e∧
   ((bQ w A (n*X.esize e)).toArray++(bQ w (some b) (m*X.esize e)).toArray++Builtin.zeroCells (X.ezero e).cells (cap-(n+m))).toList.take ((n+m)*X.esize e)=bQ w A (n*X.esize e)++bQ w (some b) (m*X.esize e):=by
  intro cap hcap
  constructor
  ·simp only [Array.size_append,List.size_toArray,size_zeroCells,X.zsize,r1,s1,←Nat.add_mul];congr 1;omega
  ·simp only [Array.toList_append,List.append_assoc]
   rw [←List.append_assoc,show (n+m)*X.esize e=(bQ w A (n*X.esize e)++bQ w (some b) (m*X.esize e)).length by rw [List.length_append,r1,s1,Nat.add_mul]]
   exact List.take_left
 cases A with
 |none=>
  have hn:=r4 rfl
  have hc0:=hcp rfl
  subst hn;subst hc0
  have hr:=run_append_nil (P:=P) w t t' (X.etid e) i (X.ezero e) hu hi hz b m c2 (bQ w (some b) (m*X.esize e)) (by rw [s1,hsi]) (fun j v hj=>s5 j v hj b rfl) (by omega) (by omega) (by rw [hbi];simp only [Nat.zero_add] at hby;omega)
  have hge:=grownCap_ge w m 0 (X.etid e)
  have:=hcells (grownCap w m 0 (X.etid e)) (by omega)
  refine ⟨_,_, ?_,by omega,grownCap_le_maxLen w _ _ _ (by omega),this.1,this.2⟩
  rw [Nat.zero_add,hr]
  simp [bQ]
 |some a0=>
  have hr:=run_append_grow (P:=P) w t t' (X.etid e) i (X.ezero e) hu hi hz a0 n cp (bQ w (some a0) (n*X.esize e)) (by rw [r1,hsi]) (fun j v hj=>r5 j v hj a0 rfl) b m c2 (bQ w (some b) (m*X.esize e)) (by rw [s1,hsi]) (fun j v hj=>s5 j v hj b rfl)
   hm (by omega) (growslice_fits hm (by rw [hbi];exact hby))
  have hge:=grownCap_ge w (n+m) cp (X.etid e)
  have:=hcells (grownCap w (n+m) cp (X.etid e)) hge
  exact ⟨_,_,hr,hge,grownCap_le_maxLen w _ _ _ hmax,this.1,this.2⟩
theorem FM {w':World} {N':aN} {g':Gh U} {e:U.E} {l l':List (U.El e)} {A B:Option Addr} {n cp m c2:Nat} (h1:SlAt X w N g (.slice A n cp) e l) (h2:SlAt X w N g (.slice B m c2) e l')
  (hmono: ∀ {v:Value} {p:PV U},Rep X w N g v p→Rep X w' N' g' v p) {nb cap:Nat} {cur:Array Value} (hb:w'.heap[nb]? =some (.cells cur (X.etid e) (0,0))) (hs:cur.size=cap*X.esize e) (hmax:cap≤maxLen) (hbd:n+m≤V.bound e) (hle:n+m≤cap)
  (htake:cur.toList.take ((n+m)*X.esize e)=bQ w A (n*X.esize e)++bQ w B (m*X.esize e)) {u:Use} (hu:u≠ .read):
  ObOK X w' N' g' e (l++l') (.slice (some ⟨nb,0,none⟩) (n+m) cap) u (some nb):=by
 obtain ⟨r1,r2,r3,r4,r5,r6,r7⟩:=h1.row
 obtain ⟨s1,s2,s3,s4,s5,s6,s7⟩:=h2.row
 refine ⟨_,_,_,rfl,by simp [r2,s2],hle,fun j x hx k p hp=> ?_,hu,cur,rfl,hb,hs,hmax,hbd⟩
 have hk:k<X.esize e:=by have:=(List.getElem?_eq_some_iff.1 hp).1;rw [X.len] at this;exact this
 have hj:j<n+m:=by have:=(List.getElem?_eq_some_iff.1 hx).1;simp [r2,s2] at this;exact this
 have hjk:j*X.esize e+k<(n+m)*X.esize e:=by
  have:(j+1)*X.esize e≤(n+m)*X.esize e:=Nat.mul_le_mul_right _ hj
  rw [Nat.add_mul,Nat.one_mul] at this;omega
 have hcur:cur.toList[j*X.esize e+k]? =(bQ w A (n*X.esize e)++bQ w B (m*X.esize e))[j*X.esize e+k]? :=by
  rw [←htake,List.getElem?_take_of_lt hjk]
 obtain ⟨v,hv,hr⟩: ∃v,(bQ w A (n*X.esize e)++bQ w B (m*X.esize e))[j*X.esize e+k]? =some v∧Rep X w N g v p:=by
  by_cases hjn:j<n
  ·rw [List.getElem?_append_left (by rw [r2];exact hjn)] at hx
   obtain ⟨v,hv,hr⟩:=r6 j x hx k p hp
   have:j*X.esize e+k<n*X.esize e:=by
    have:(j+1)*X.esize e≤n*X.esize e:=Nat.mul_le_mul_right _ hjn
    rw [Nat.add_mul,Nat.one_mul] at this;omega
   exact ⟨v,by rw [List.getElem?_append_left (by rw [r1];exact this)];exact hv,hr⟩
  ·rw [List.getElem?_append_right (by omega),r2] at hx
   obtain ⟨v,hv,hr⟩:=s6 (j-n) x hx k p hp
   have e1:j*X.esize e=(j-n)*X.esize e+n*X.esize e:=by rw [←Nat.add_mul];congr 1;omega
   refine ⟨v, ?_,hr⟩
   rw [List.getElem?_append_right (by rw [r1];omega),r1,show j*X.esize e+k-n*X.esize e=(j-n)*X.esize e+k by omega]
   exact hv
 refine ⟨⟨nb,0,none⟩,v,rfl, ?_,hmono hr,by simp⟩
 rw [Addr.add_lit',Nat.zero_add]
 unfold World.cell?
 rw [hb]
 rw [hv] at hcur
 simpa using hcur
theorem GX {most n m:Nat} {k:Unit→M U} (hr:(M.ask (aw most n m) k).Rel K σ fp r τ gp):n+m≤most∧(k ()).Rel K σ fp r τ gp:=by
 obtain ⟨x,hx,hr⟩:=hr
 unfold aw at hx
 split at hx
 ·exact ⟨‹_›,hr⟩
 ·cases hx
theorem NL {d:Nat} {u:Use} {e:U.E} {l:List (U.El e)} (hr:(og d u e l).Rel K σ fp r τ gp):
  ∃nv,(∀ob,σ.o d=some ob→ob.ver<nv)∧r= .done∧τ=((σ.setO d ⟨nv,e,l⟩).setU d u).setR d (.own d nv):=by
 unfold og at hr
 simp only [M.Rel] at hr
 split at hr
 ·rename_i ob hob
  obtain ⟨h1,h2,_⟩:=hr
  exact ⟨ob.ver+1,fun ob' h=>by rw [hob] at h;injection h with h;subst h;omega,h1,h2⟩
 ·rename_i hob
  obtain ⟨h1,h2,_⟩:=hr
  exact ⟨0,(fun ob' h=>by rw [hob] at h;cases h),h1,h2⟩
theorem ZF (h:Sim X c tm w σ g D) {d t t' u':TypeId} {x y:PV U} {vx vy:Value} (hx:Rep X w (c.N g D) g vx x) (hy:Rep X w (c.N g D) g vy y) (hd:d<c.nt)
  (hr:(C9 V (some d) t u' x y).Rel K σ fp r τ gp):
  t=u'∧r= .done∧ ∃v' w' g' D',(Builtin.append_ #[t,t] t' #[vx,vy]).run P w= .ok v' w'∧Sim X c (tm.setIfInBounds d v') w' τ g' D':=by
 unfold C9 at hr
 cases htu:Nat.beq t u' with
 |false=>simp only [htu] at hr;exact hr.elim
 |true=>
 simp only [htu,cond_true] at hr
 refine ⟨by simpa using htu, ?_⟩
 obtain ⟨e',l',fp1,hr1,hsy⟩:=Ul h hy hr
 cases hE:V.isEl t e' with
 |false=>rw [hE] at hr1;exact hr1.elim
 |true=>
 rw [hE] at hr1
 simp only [cond_true] at hr1
 have hu:=(uE X hE).1
 have hsy0:=hsy
 obtain ⟨B,m,c2,hvy,hlm,hc2,_⟩:=hsy
 rw [hvy] at hsy0
 split at hr1
 ·rename_i e l o
  split at hr1
  case isFalse=>exact hr1.elim
  rename_i heq
  subst heq
  have hx0:=hx
  cases hx with
  |sl A n cp _ _ _ val hl hc ho q1 q2=>
  have hsx:SlAt X w (c.N g D) g (.slice A n cp) e' l:=⟨A,n,cp,rfl,hl,hc,fun j x hx k p hp=>by
   obtain ⟨b,hA,hcell,_⟩:=q1 j x hx k p hp
   exact ⟨b,_,hA,hcell,q2 j x hx k p hp⟩⟩
  have go: ∀ {us:Use} {fp2:List Loc},us≠ .read→(A=none→cp=0)→(n=cp)→(us= .wr→A=none)→n+m≤V.bound e'→(og d us e' (l++l')).Rel K σ fp2 r τ gp→
    r= .done∧ ∃v' w' g' D',(Builtin.append_ #[t,t] t' #[.slice A n cp,vy]).run P w= .ok v' w'∧Sim X c (tm.setIfInBounds d v') w' τ g' D':=by
   intro us fp2 hus hA hcap hwr hroom hr2
   obtain ⟨nv,hnv,h1,h2⟩:=NL hr2
   refine ⟨h1, ?_⟩
   rw [hvy]
   have hst:NewSt σ ((σ.setO d ⟨nv,e',l++l'⟩).setU d us) d nv e' (l++l') us none 0 e':=
    ⟨fun _=>rfl,fun _=>rfl,by simp,by simp,by simp,fun i hi _=>by simp [Ne.symm hi]⟩
   by_cases hm:m=0
   ·subst hm
    have hl0:l'=[]:=List.eq_nil_of_length_eq_zero hlm
    subst hl0
    have hN:NewOb w w σ D d nv none 0 none:=⟨rfl,rfl,rfl,Nat.le_refl _,fun _ _ _=>rfl,hnv,by simp,by simp⟩
    have hs:=h.newOb (e:=e') (se:=e') (val:= .slice A n cp) hN hst ⟨A,n,cp,rfl,by simpa using hl,hc,fun j x hx k p hp=>by
     rw [List.append_nil] at hx
     obtain ⟨b,hA,hcell,hn⟩:=q1 j x hx k p hp
     refine ⟨b,_,hA,hcell,hN.rep h (q2 j x hx k p hp),fun _ hn'=>hn ?_⟩
     have hlt:=World.block_lt_of_cell? w _ hcell
     rw [Addr.add_block] at hlt
     exact hN.forb _ _ hlt hn',by
     refine ⟨fun hw=> ?_,fun _=>hcap⟩
     have:=hwr hw
     exact ⟨this,by have:=hA this;omega,hA this⟩⟩
    exact ⟨_,w,_,_,QN (X:=X) hu A B n cp c2 hc w,h2▸hs.put hd (vr ⟨A,n,cp,rfl⟩)⟩
   ·obtain ⟨cells,cap,hrun,k1,k2,k3,k4⟩:=QM (X:=X) (t':=t') hu hsx hsy0 hA (by omega) hroom
    have hN:NewOb w (w.drew.alloc (.cells cells (X.etid e'))) σ D d nv none 0 (some w.heap.size):=⟨rfl,rfl,rfl,by simp,fun b hb _=>heap_alloc_old w.drew _ b hb,hnv,by simp,fun b hb=>by injection hb with hb;subst hb;exact .inr ⟨Nat.le_refl _,by simp⟩⟩
    have hs:=h.newOb (e:=e') (se:=e') hN hst (FM (X:=X) hsx hsy0 (fun hr=>hN.rep h hr) (heap_alloc_new w.drew _) k3 k2 hroom k1 k4 hus)
    exact ⟨_,_,_,_,hrun,h2▸hs.put hd (vr ⟨_,_,_,rfl⟩)⟩
  split at hr1
  ·exact hr1.elim
  ·exact hr1.elim
  ·exact hr1.elim
  ·obtain ⟨hroom,hr2⟩:=GX hr1
   have hn:n=cp:=ho
   have hA0:A=none→cp=0:=fun hA=>by rw [←hn];exact (hsx.row).2.2.2.1 hA
   rw [hl,hlm] at hroom
   exact go (by simp) hA0 hn (by simp) hroom hr2
  ·obtain ⟨hroom,hr2⟩:=GX hr1
   obtain ⟨hA,hn,hcp⟩:=ho
   have hl0:l=[]:=List.eq_nil_of_length_eq_zero (hl.trans hn)
   subst hl0
   rw [hlm] at hroom
   exact go (us:= .wr) (by simp) (fun _=>hcp) (by omega) (fun _=>hA) (by omega) hr2
 ·rename_i i ver
  obtain ⟨ob,fp2,hob,hver,hr2⟩:=mF hr1
  split at hr2
  case isFalse=>exact hr2.elim
  rename_i heq
  subst heq
  obtain ⟨val,hkap,hO⟩:=h.objs i ob hob
  cases hx with
  |own _ _ _ ver' e val' hk hle he hs=>
  rw [hkap] at hk
  injection hk with hk
  injection hk with e1 hk
  injection hk with e2 e3
  subst e1;subst e2;subst e3
  have:=he hver.symm
  subst this
  obtain ⟨A,n,cp,hval,hl,hc,hh,hD⟩:=hO.val
  have hsx:SlAt X w (c.N g D) g (.slice A n cp) ob.e ob.l:=⟨A,n,cp,rfl,hl,hc,fun j x hx k p hp=>by
   obtain ⟨b,v,h1,h2,h3,_⟩:=hh j x hx k p hp;exact ⟨b,v,h1,h2,h3⟩⟩
  simp only [M.Rel] at hr2
  have hne:σ.u i≠ .read:=by
   intro hre;rw [hre] at hr2;exact hr2.elim
  have hr3: ∃fp3,(M.ask (aw (V.bound ob.e) ob.l.length l'.length) fun _=> .setO i ⟨ob.ver+1,ob.e,[]⟩ (.setU i .read (og d (σ.u i) ob.e (ob.l++l')))).Rel K σ fp3 r τ gp:=by
   cases hui:σ.u i with
   |read=>exact absurd hui hne
   |app=>rw [hui] at hr2;exact ⟨_,hr2⟩
   |wr=>rw [hui] at hr2;exact ⟨_,hr2⟩
  obtain ⟨fp3,hr3⟩:=hr3
  obtain ⟨hroom,hr4⟩:=GX hr3
  obtain ⟨nv,hnv,h1,h2⟩:=NL hr4
  refine ⟨h1, ?_⟩
  rw [hval,hvy]
  rw [hl,hlm] at hroom
  have hnvo: ∀ob',σ.o d=some ob'→ob'.ver<nv:=by
   intro ob' ho'
   by_cases hdi:i=d
   ·subst hdi
    rw [hob] at ho';injection ho' with ho';subst ho'
    have:=hnv ⟨ob.ver+1,ob.e,[]⟩ (by simp)
    simp at this;omega
   ·exact hnv ob' (by simp [hdi,ho'])
  have hst:NewSt σ (((((σ.setO i ⟨ob.ver+1,ob.e,[]⟩).setU i .read).setO d ⟨nv,ob.e,ob.l++l'⟩).setU d (σ.u i))) d nv ob.e (ob.l++l') (σ.u i) (some i) (ob.ver+1) ob.e:=
   ⟨fun _=>rfl,fun _=>rfl,by simp,by simp,fun j hj hs=>by injection hs with hs;subst hs;simp [Ne.symm hj],fun j hj hs=>by
    have:i≠j:=fun e=>hs (by rw [e])
    simp [Ne.symm hj,this]⟩
  have hsv: ∀j,(some i:Option Nat)=some j→(∀ob',σ.o j=some ob'→ob'.ver<ob.ver+1)∧ ∃ob',σ.o j=some ob':=by
   intro j hj
   injection hj with hj
   subst hj
   exact ⟨fun ob' h=>by rw [hob] at h;injection h with h;subst h;omega,ob,hob⟩
  by_cases hm:m=0
  ·subst hm
   have hl0:l'=[]:=List.eq_nil_of_length_eq_zero hlm
   subst hl0
   have hN:NewOb w w σ D d nv (some i) (ob.ver+1) (D i):=⟨rfl,rfl,rfl,Nat.le_refl _,fun _ _ _=>rfl,hnvo,hsv,fun b hb=> .inl ⟨i,rfl,hb⟩⟩
   have hOb:ObOK X w (c.N (g.newOb d nv ob.e (.slice A n cp) (some i) (ob.ver+1) ob.e) (fR D d (some i) (D i))) (g.newOb d nv ob.e (.slice A n cp) (some i) (ob.ver+1) ob.e) ob.e (ob.l++[]) (.slice A n cp) (σ.u i) (D i):=by
    rw [List.append_nil]
    rw [hval] at hO
    exact hO.mono (fun _ _=>rfl) hN.cell hN.forb (hN.le h)
   exact ⟨_,w,_,_,QN (X:=X) hu A B n cp c2 hc w,h2▸(h.newOb hN hst hOb).put hd (vr ⟨A,n,cp,rfl⟩)⟩
  ·by_cases hfit:n+m≤cp
   ·
    cases hDi:D i with
    |none=>
     rw [hDi] at hD
     cases hui:σ.u i with
     |read=>exact absurd hui hne
     |app=>have:=hD.2 hui;omega
     |wr=>have:=hD.1 hui;omega
    |some b=>
     rw [hDi] at hD
     obtain ⟨_,cur,hA,hblk,hsz,hmax⟩:=hD
     subst hA
     obtain ⟨i0,hi0,hz0,hsi,hbi⟩:=X.einfo ob.e
     obtain ⟨r1,_,_,_,r5,_,_⟩:=hsx.row
     obtain ⟨s1,_,_,s4,s5,_,s7⟩:=hsy0.row
     obtain ⟨b2,rfl⟩: ∃b2,B=some b2:=by
      cases B with
      |none=>exact absurd (s4 rfl) hm
      |some b2=>exact ⟨b2,rfl⟩
     have hfit':n*X.esize ob.e+(bQ w (some b2) (m*X.esize ob.e)).length≤cur.size:=by
      rw [s1,hsz,←Nat.add_mul];exact Nat.mul_le_mul_right _ hfit
     have hrun:=run_append_room (P:=P) w t t' (X.etid ob.e) i0 hu hi0 b n cp cur hblk b2 m c2 (bQ w (some b2) (m*X.esize ob.e)) (by rw [s1,hsi]) (fun j v hj=>s5 j v hj b2 rfl) s7 hfit (by rw [hsi];exact hfit')
     rw [hsi] at hrun
     have hN:NewOb w (w.setRow b (cur.toList.take (n*X.esize ob.e)++bQ w (some b2) (m*X.esize ob.e)++cur.toList.drop (n*X.esize ob.e+(bQ w (some b2) (m*X.esize ob.e)).length)).toArray) σ D d nv (some i) (ob.ver+1) (some b):=
      ⟨rfl,rfl,rfl,by simp,fun b' _ hne=>setRow_other w b b' _ (fun e=>hne i rfl (e▸hDi)),hnvo,hsv,fun b' hb'=>by injection hb' with hb';subst hb';exact .inl ⟨i,rfl,hDi⟩⟩
     have hOb:=FM (X:=X) hsx hsy0 (fun hr=>hN.rep (e:=ob.e) (se:=ob.e) (val:= .slice (some ⟨b,0,none⟩) (n+m) cp) h hr) (setRow_heap w b cur _ (X.etid ob.e) (0,0) hblk) (cap:=cp) (by
      rw [List.append_assoc,List.size_toArray,BN _ _ _ hfit'];simpa using hsz) hmax.1 hroom hfit (by
      have hcl:(cur.toList.take (n*X.esize ob.e)).length=n*X.esize ob.e:=by simp;omega
      have hx2:(cur.toList.take (n*X.esize ob.e))=bQ w (some ⟨b,0,none⟩) (n*X.esize ob.e):=by
       apply List.ext_getElem?
       intro q
       by_cases hq:q<n*X.esize ob.e
       ·obtain ⟨v,hv⟩: ∃v,(bQ w (some ⟨b,0,none⟩) (n*X.esize ob.e))[q]? =some v:=⟨_,List.getElem?_eq_getElem (by rw [r1];exact hq)⟩
        have:=r5 q v hv _ rfl
        rw [Addr.add_lit',Nat.zero_add] at this
        unfold World.cell? at this
        rw [hblk] at this
        rw [hv,List.getElem?_take_of_lt hq]
        simpa using this
       ·rw [List.getElem?_eq_none (by omega),List.getElem?_eq_none (by rw [r1];omega)]
      simp only [List.append_assoc]
      rw [←List.append_assoc,show (n+m)*X.esize ob.e=(cur.toList.take (n*X.esize ob.e)++bQ w (some b2) (m*X.esize ob.e)).length by rw [List.length_append,hcl,s1,Nat.add_mul],List.take_left,hx2]) hne
     exact ⟨_,_,_,_,hrun,h2▸(h.newOb hN hst hOb).put hd (vr ⟨_,_,_,rfl⟩)⟩
   ·have hA0:A=none→cp=0:=by
     intro hA
     cases hDi:D i with
     |none=>
      rw [hDi] at hD
      cases hui:σ.u i with
      |read=>exact absurd hui hne
      |app=>rw [←hD.2 hui];exact (hsx.row).2.2.2.1 hA
      |wr=>exact (hD.1 hui).2.2
     |some b=>
      rw [hDi] at hD
      obtain ⟨_,cur,hA',_⟩:=hD
      rw [hA] at hA';cases hA'
    obtain ⟨cells,cap,hrun,k1,k2,k3,k4⟩:=QM (X:=X) (t':=t') hu hsx hsy0 hA0 (by omega) hroom
    have hN:NewOb w (w.drew.alloc (.cells cells (X.etid ob.e))) σ D d nv (some i) (ob.ver+1) (some w.heap.size):=⟨rfl,rfl,rfl,by simp,fun b hb _=>heap_alloc_old w.drew _ b hb,hnvo,hsv,fun b hb=>by injection hb with hb;subst hb;exact .inr ⟨Nat.le_refl _,by simp⟩⟩
    have hOb:=FM (X:=X) hsx hsy0 (fun hr=>hN.rep (e:=ob.e) (se:=ob.e) (val:= .slice (some ⟨w.heap.size,0,none⟩) (n+m) cap) h hr) (heap_alloc_new w.drew _) k3 k2 hroom k1 k4 hne
    exact ⟨_,_,_,_,hrun,h2▸(h.newOb hN hst hOb).put hd (vr ⟨_,_,_,rfl⟩)⟩
 ·exact hr1.elim
end
end Go.Proofs.YtfkkpkhfjpaafaaGreatDoor.PI
namespace Go.Proofs.YtfkkpkhfjpaafaaGreatDoor.PI
open Go
set_option linter.unusedVariables false
set_option linter.unusedSimpArgs false
section
variable {U:Uni} {V:Env U} {P:Program} {X:Link V P} {K:cj U} {S:Side U} {c:Ctx} {tm:Array Value} {a:Act} {w:World} {σ:St U} {g:Gh U} {D:Nat→Option Nat}
variable {next:Act→World→Prop} {Q:Exit→Act→World→Prop} {r:MR U} {τ:St U} {fp gp:List Loc} {N:aN}
variable {dst:Option Tmp} {ty:TypeId} {pos:String} {after:Array Edge} {gd:Option (Nat×Bool)}
theorem QO {b:Builtin} {cl:Call} (hb:cl.callee= .builtin b) (w:World):(execOp a.eval ⟨dst,.call cl,ty,pos,after,gd⟩).run P w=
  (builtin b cl.argTypes ty (cl.args.map fun| .const _=>true|_=>false) (cl.args.map a.eval)).run P w:=by
 simp only [execOp,resolve,hb,Sem.run_bind,Sem.run_pure,Result.andThen_ok,invoke]
 rfl
theorem akw {t:TypeId} (X:Link V P) (h:Nat.beq (V.eqk t) 4=true):P.underlying t=some .string:=by
 simp [Env.eqk] at h
 split at h
 ·rename_i row hrow;exact (X.ty t row hrow).isStr h
 ·cases h
theorem Nx {t:TypeId} {e:U.E} (X:Link V P) (h:V.mty t=some e): ∃b i,P.underlying t=some (.map (X.etid e) b)∧P.info? b=some i∧i.zero=some (.bool false):=by
 unfold Env.mty at h
 split at h
 ·rename_i row hrow;exact (X.ty t row hrow).keys e h
 ·cases h
theorem G6 {k:Nat} {es:Array MapEntry} {clock:Nat} (hb:w.heap[k]? =some (.map es clock)):(getObj k).run P w= .ok (.map es clock) w:=by
 simp [getObj,Sem.run,hb]
theorem QZ {k:Nat} {es:Array MapEntry} {clock:Nat} (o:Obj) (hb:w.heap[k]? =some (.map es clock)):(setObj k o).run P w= .ok () {w with heap:=w.heap.setIfInBounds k o}:=by
 simp [setObj,Sem.run,hb]
theorem ag9 {b:Builtin} {cl:Call} (hb:cl.callee= .builtin b) (hb':b≠ .recover) (hd:bq c.nt ⟨dst,.call cl,ty,pos,after,gd⟩=true) (h:Sim X c a.tmps w σ g D) (hr:(bL V S ⟨dst,.call cl,ty,pos,after,gd⟩).Rel K σ fp r τ gp)
  (ht:Then X c a r τ next Q):(⟨dst,.call cl,ty,pos,after,gd⟩:Oper).wp P a w next Q:=by
 have hr0:(kf V cl.args.toList cl.argTypes.toList fun vs=>Dq V dst b cl.argTypes.toList vs).Rel K σ fp r τ gp:=by
  obtain ⟨callee,args,ats⟩:=cl
  simp only at hb
  subst hb
  cases b<;>first|exact hr|exact absurd rfl hb'
 obtain ⟨vs,fp1,hl,hvs,hr1⟩:=zX h hr0
 have hrun:=QO (a:=a) (dst:=dst) (ty:=ty) (pos:=pos) (after:=after) (gd:=gd) (P:=P) hb w
 have mq: ∀ {p:PV U},vs=[p]→ ∃x,cl.args.map a.eval= #[x]∧Rep X w (c.N g D) g x p:=by
  intro p hp
  obtain ⟨x,hx⟩:=acK hl hp
  subst hp
  refine ⟨a.eval x, ?_, ?_⟩
  ·apply Array.ext';simp [hx]
  ·have:=hvs 0 p rfl;simpa [hx] using this
 have two: ∀ {p q:PV U},vs=[p,q]→ ∃x y,cl.args.map a.eval= #[x,y]∧Rep X w (c.N g D) g x p∧Rep X w (c.N g D) g y q:=by
  intro p q hp
  obtain ⟨x,y,hx⟩:=acL hl hp
  subst hp
  refine ⟨a.eval x,a.eval y, ?_, ?_, ?_⟩
  ·apply Array.ext';simp [hx]
  ·have:=hvs 0 p rfl;simpa [hx] using this
  ·have:=hvs 1 q rfl;simpa [hx] using this
 have ty1: ∀ {t:TypeId},cl.argTypes.toList=[t]→cl.argTypes= #[t]:=fun h=>Array.ext' (by simpa using h)
 generalize hts:cl.argTypes.toList=ts at hr1
 unfold Dq at hr1
 split at hr1
 ·rename_i t s
  obtain ⟨x,hx,hrep⟩:=mq rfl
  cases hE:Nat.beq (V.eqk t) 4 with
  |false=>rw [hE] at hr1;exact hr1.elim
  |true=>
   rw [hE] at hr1
   refine bN hd ht h (v:= .int .i64 s.size) ?_ (.int _ _) hr1
   rw [hrun,hx,ty1 hts,Bm hrep]
   simp [builtin,Builtin.len_,run_underlying (akw X hE),goInt]
 ·rename_i t id
  obtain ⟨x,hx,hrep⟩:=mq rfl
  simp only [M.Rel] at hr1
  split at hr1
  case h_2=>exact hr1.elim
  rename_i e l hbx
  split at hr1
  case h_2=>exact hr1.elim
  rename_i e' hm
  obtain ⟨vb,i,hu,_⟩:=Nx X hm
  obtain ⟨k,hk,en,cl',hblk,hsz,_⟩:=h.boxes _ _ hbx
  cases hrep with
  |mp _ b hb2=>
   rw [hb2] at hk
   injection hk with hk
   subst hk
   refine bN hd ht h (v:= .int .i64 l.length) ?_ (.int _ _) hr1
   rw [hrun,hx,ty1 hts]
   simp [builtin,Builtin.len_,run_underlying hu,goInt,G6 hblk,hsz]
 ·rename_i t x0 _ _
  obtain ⟨x,hx,hrep⟩:=mq rfl
  obtain ⟨e,l,fp2,hr2,A,n,cp,hv,hln,_⟩:=Ul h hrep hr1
  cases hE:V.isEl t e with
  |false=>rw [hE] at hr2;exact hr2.elim
  |true=>
   rw [hE] at hr2
   refine bN hd ht h (v:= .int .i64 l.length) ?_ (.int _ _) hr2
   rw [hrun,hx,ty1 hts,hv]
   simp [builtin,Builtin.len_,run_underlying (uE X hE).1,goInt,hln]
 ·rename_i t u x0 y0
  obtain ⟨x,y,hx,hrx,hry⟩:=two rfl
  cases dst with
  |none=>exact hr1.elim
  |some d=>
   obtain ⟨htu,hrr,v',w',g',D',hrun',hs⟩:=ZF (t':=ty) h hrx hry (zH hd) hr1
   subst htu
   have hat:cl.argTypes= #[t,t]:=Array.ext' (by simpa using hts)
   unfold Oper.wp
   rw [hrun,hx,hat]
   simp only [builtin,Sem.run_bind,hrun',Result.andThen_ok,Sem.run_pure]
   exact ht.done hrr _ _ _ _ rfl hs
 ·rename_i k x0 k' y0
  obtain ⟨x,y,hx,hrx,hry⟩:=two rfl
  refine bN hd ht h (v:= .int k _) ?_ (.int _ _) hr1
  rw [hrun,hx,c6 hrx,c6 hry]
  simp [builtin,run_min_int2]
 ·rename_i k x0 k' y0
  obtain ⟨x,y,hx,hrx,hry⟩:=two rfl
  refine bN hd ht h (v:= .int k _) ?_ (.int _ _) hr1
  rw [hrun,hx,c6 hrx,c6 hry]
  simp [builtin,run_max_int2]
 ·exact hr1.elim
end
end Go.Proofs.YtfkkpkhfjpaafaaGreatDoor.PI
namespace Go.Proofs.YtfkkpkhfjpaafaaGreatDoor.PI
open Go
set_option linter.unusedVariables false
set_option linter.unusedSimpArgs false
section
variable {U:Uni} {V:Env U} {P:Program} {X:Link V P} {c:Ctx} {tm:Array Value} {w:World} {σ:St U} {g:Gh U} {D:Nat→Option Nat}
theorem fj: ∀ {cs:List (PV U)} {j:Nat} {p:PV U},cs[j]? =some p→ ∀i∈p.ids,i∈PV.idsL cs:=by
 intro cs
 induction cs with
 |nil=>intro j p h;simp at h
 |cons v cs ih=>
  intro j p h i hi
  simp only [PV.idsL,List.mem_append]
  cases j with
  |zero=>simp at h;subst h;exact .inl hi
  |succ j=>exact .inr (ih (by simpa using h) i hi)
theorem jt: ∀ {cs:List (PV U)} {j:Nat} {p:PV U},PV.noObjL cs=true→cs[j]? =some p→p.noObj=true:=by
 intro cs
 induction cs with
 |nil=>intro j p _ h;simp at h
 |cons v cs ih=>
  intro j p hn h
  simp only [PV.noObjL,Bool.and_eq_true] at hn
  cases j with
  |zero=>simp at h;subst h;exact hn.1
  |succ j=>exact ih hn.2 (by simpa using h)
theorem Rep.plain {w':World} {N N':aN} {g g':Gh U} {v:Value} {p:PV U} (h:Rep X w N g v p) (hw: ∀b o,b<w.heap.size→ ¬N b o→w'.cell? ⟨b,o,none⟩=w.cell? ⟨b,o,none⟩) (hN: ∀b o,b<w.heap.size→N' b o→N b o):
  p.noObj=true→(∀i∈p.ids,∀b,g.μ i=some b→g'.μ i=some b)→Rep X w' N' g' v p:=by
 have hcell: ∀a v,w.cell? a=some v→ ¬N a.block a.off→w'.cell? a=some v∧ ¬N' a.block a.off:=by
  intro a v hc hn
  have hlt:=World.block_lt_of_cell? w a hc
  have ha:=yo hc
  refine ⟨?_,fun h'=>hn (hN _ _ hlt h')⟩
  rw [ha] at hc ⊢
  rw [hw _ _ hlt hn,hc]
 induction h with
 |undef v=>intro _ _;exact .undef v
 |int k n=>intro _ _;exact .int k n
 |bool b=>intro _ _;exact .bool b
 |str s=>intro _ _;exact .str s
 |sl A n c e l o val hl hc ho h1 h2 ih=>
  intro _ _
  refine .sl A n c e l o val hl hc ho (fun j x hx k p hp=> ?_) fun j x hx k p hp=>ih j x hx k p hp (X.eplain hp).1 (by rw [(X.eplain hp).2];simp)
  obtain ⟨a,rfl,h,hn⟩:=h1 j x hx k p hp
  have:=hcell _ _ h (by rwa [Addr.add_block,Addr.add_off])
  rw [Addr.add_block,Addr.add_off] at this
  exact ⟨a,rfl,this⟩
 |own i v val ver e val' hk hv he hs=>intro h _;simp [PV.noObj] at h
 |agg vs cs hl h ih=>
  intro hn hi
  simp only [PV.noObj] at hn
  exact .agg vs cs hl fun j p hp=>ih j p hp (jt hn hp) fun i hi'=>hi i (by simp only [PV.ids];exact fj hp i hi')
 |tuple vs cs hl h ih=>
  intro hn hi
  simp only [PV.noObj] at hn
  exact .tuple vs cs hl fun j p hp=>ih j p hp (jt hn hp) fun i hi'=>hi i (by simp only [PV.ids];exact fj hp i hi')
 |ptr id off b hb=>intro _ hi;exact .ptr id off b (hi id (by simp [PV.ids]) b hb)
 |aptr id n b hb hn=>intro _ hi;exact .aptr id n b (hi id (by simp [PV.ids]) b hb) hn
 |mp id b hb=>intro _ hi;exact .mp id b (hi id (by simp [PV.ids]) b hb)
 |eptr e x off a val h1 h2 ih=>
  intro _ _
  refine .eptr e x off a val (fun k p hp=> ?_) fun k p hp=>ih k p hp (X.eplain hp).1 (by rw [(X.eplain hp).2];simp)
  obtain ⟨h,hn⟩:=h1 k p hp
  have:=hcell _ _ h (by rwa [Addr.add_block,Addr.add_off])
  rwa [Addr.add_block,Addr.add_off] at this
 |optr i v j off val ver e val' hk hv he hs=>intro h _;simp [PV.noObj] at h
 |func f a0s bs vs us ha hb h1 h2 i1 i2=>
  intro hn hi
  simp only [PV.noObj,Bool.and_eq_true] at hn
  exact .func f a0s bs vs us ha hb (fun j p hp=>i1 j p hp (jt hn.1 hp) fun i hi'=>hi i (by simp only [PV.ids,List.mem_append];exact .inl (fj hp i hi')))
   (fun j p hp=>i2 j p hp (jt hn.2 hp) fun i hi'=>hi i (by simp only [PV.ids,List.mem_append];exact .inr (fj hp i hi')))
 |iface t v p h ih=>intro hn hi;exact .iface t v p (ih hn hi)
 |nilIface=>intro _ _;exact .nilIface
 |nilPtr=>intro _ _;exact .nilPtr
 |nilFunc=>intro _ _;exact .nilFunc
structure Ent (U:Uni) where
 j:Nat
 e:U.E
 l:List (U.El e)
 val:Value
 u:Use
 Do:Option Nat
 src:Option Nat
structure KI (X:Link V P) (c:Ctx) (w:World) (g:Gh U) (D:Nat→Option Nat) (K:Kept U) (L:List (Ent U)):Prop where
 objs:K.objs=L.map fun x=>(x.j,⟨0,x.e,x.l⟩)
 uses:K.uses=L.map fun x=>(x.j,x.u)
 ok: ∀x∈L,ObOK X w (c.N g D) g x.e x.l x.val x.u x.Do∧ ∀b,x.Do=some b→ ∃i,x.src=some i∧D i=some b
 used:K.used=L.filterMap (·.src)
 nodup:K.used.Nodup
def RK (X:Link V P) (c:Ctx) (w:World) (σ:St U) (g:Gh U) (D:Nat→Option Nat) (K:Kept U) (L:List (Ent U)) (v:Value) (p:PV U):Prop:=
 (∃x∈L,p= .own x.j 0∧x.val=v)∨(∃i ob u,i∈K.read∧σ.o i=some ob∧p= .sl ob.e ob.l .none∧ObOK X w (c.N g D) g ob.e ob.l v u (D i))∨(p.noObj=true∧Rep X w (c.N g D) g v p)
theorem RK.mono {K K':Kept U} {L L':List (Ent U)} {v:Value} {p:PV U} (h:RK X c w σ g D K L v p) (hL: ∀x∈L,x∈L') (hK: ∀i∈K.read,i∈K'.read):RK X c w σ g D K' L' v p:=by
 rcases h with ⟨x,hx,h⟩|⟨i,ob,u,hi,h⟩|h
 ·exact .inl ⟨x,hL x hx,h⟩
 ·exact .inr (.inl ⟨i,ob,u,hK i hi,h⟩)
 ·exact .inr (.inr h)
theorem GV {i ver:Nat} {v:Value} (h:Sim X c tm w σ g D) (hv:Rep X w (c.N g D) g v (.own i ver)) {ob:Ob U} (ho:σ.o i=some ob) (hver:ob.ver=ver):ObOK X w (c.N g D) g ob.e ob.l v (σ.u i) (D i):=by
 obtain ⟨val,hk,hO⟩:=h.objs i ob ho
 cases hv with
 |own _ _ _ ver' e val' hk' hle he _=>
  rw [hk] at hk'
  injection hk' with e1
  injection e1 with e1 e2
  injection e2 with e2 e3
  subst e1;subst e2;subst e3
  rw [he hver.symm]
  exact hO
theorem ObOK.to {N:aN} {e:U.E} {l:List (U.El e)} {val:Value} {u u':Use} {Do:Option Nat} {wr:Bool} (h:ObOK X w N g e l val u Do) (hu:u.to wr=some u'):ObOK X w N g e l val u' Do:=by
 obtain ⟨A,n,cp,h1,h2,h3,h4,h5⟩:=h.val
 refine ⟨A,n,cp,h1,h2,h3,h4, ?_⟩
 cases Do with
 |some b=>
  obtain ⟨h6,h7⟩:=h5
  refine ⟨fun e=> ?_,h7⟩
  subst e
  cases u<;>cases wr<;>simp [Use.to] at hu
 |none=>
  cases u<;>cases wr<;>simp [Use.to] at hu<;>subst hu
  ·exact h5
  ·refine ⟨by simp,fun _=> ?_⟩
   have:=h5.1 rfl
   omega
  ·exact h5
theorem Qy (h:Sim X c tm w σ g D) {t:Option (Nat×Bool)} {p q:PV U} {v:Value} {K K':Kept U} {L:List (Ent U)} (hv:Rep X w (c.N g D) g v p) (hK:KI X c w g D K L) (hr:mA σ t p K=some (q,K')):
  ∃L',KI X c w g D K' L'∧(∀x∈L,x∈L')∧(∀i∈K.read,i∈K'.read)∧RK X c w σ g D K' L' v q:=by
 have plain:E4 t p K=some (q,K')→ ∃L',KI X c w g D K' L'∧(∀x∈L,x∈L')∧(∀i∈K.read,i∈K'.read)∧RK X c w σ g D K' L' v q:=by
  intro hh
  unfold E4 at hh
  split at hh
  ·cases hb:p.noObj with
   |false=>rw [hb] at hh;cases hh
   |true=>
    rw [hb] at hh
    injection hh with hh
    injection hh with h1 h2
    subst h1;subst h2
    exact ⟨L,hK,fun _ h=>h,fun _ h=>h,.inr (.inr ⟨hb,hv⟩)⟩
  ·cases hh
 cases p with
 |own i ver=>
  simp only [mA] at hr
  split at hr
  case h_2=>cases hr
  rename_i ob hob
  cases hb:Nat.beq ob.ver ver with
  |false=>rw [hb] at hr;cases hr
  |true=>
   rw [hb] at hr
   have hO:=GV h hv hob (by simpa using hb)
   simp only [cond_true] at hr
   split at hr
   ·injection hr with hr
    injection hr with h1 h2
    subst h1;subst h2
    exact ⟨L,⟨hK.objs,hK.uses,hK.ok,hK.used,hK.nodup⟩,fun _ h=>h,fun i hi=>by simp [hi],.inr (.inl ⟨i,ob,_,by simp,hob,rfl,hO⟩)⟩
   ·rename_i j wr
    split at hr
    ·cases hr
    ·rename_i u hu
     cases hany:K.used.any (Nat.beq i) with
     |true=>rw [hany] at hr;cases hr
     |false=>
      rw [hany] at hr
      injection hr with hr
      injection hr with h1 h2
      subst h1;subst h2
      have hni:i∉K.used:=by
       intro hi
       have:K.used.any (Nat.beq i)=true:=List.any_eq_true.2 ⟨i,hi,by simp⟩
       rw [hany] at this;cases this
      refine ⟨⟨j,ob.e,ob.l,v,u,D i,some i⟩::L,⟨by simp [hK.objs],by simp [hK.uses],fun x hx=> ?_,by simp [hK.used], ?_⟩,fun x hx=>by simp [hx],fun _ h=>h,.inl ⟨_,List.mem_cons_self,rfl,rfl⟩⟩
      ·rcases List.mem_cons.1 hx with rfl|hx
       ·exact ⟨hO.to hu,fun b hb=>⟨i,rfl,hb⟩⟩
       ·exact hK.ok x hx
      ·exact List.nodup_cons.2 ⟨hni,hK.nodup⟩
 |sl e l o=>
  have new: ∀ {j:Nat} {l':List (U.El e)} {u:Use},ObOK X w (c.N g D) g e l' v u none→q= .own j 0→K'=⟨(j,⟨0,e,l'⟩)::K.objs,(j,u)::K.uses,K.used,K.read⟩→ ∃L',KI X c w g D K' L'∧(∀x∈L,x∈L')∧(∀i∈K.read,i∈K'.read)∧RK X c w σ g D K' L' v q:=by
   intro j l' u hO h1 h2
   subst h1;subst h2
   refine ⟨⟨j,e,l',v,u,none,none⟩::L,⟨by simp [hK.objs],by simp [hK.uses],fun x hx=> ?_,by simp [hK.used],hK.nodup⟩,fun x hx=>by simp [hx],fun _ h=>h,.inl ⟨_,List.mem_cons_self,rfl,rfl⟩⟩
   rcases List.mem_cons.1 hx with rfl|hx
   ·exact ⟨hO,by simp⟩
   ·exact hK.ok x hx
  have hcells: ∀ {A n cp},v= .slice A n cp→n≤cp∧l.length=n∧ ∀ (j:Nat) x,l[j]? =some x→ ∀ (k:Nat) p,(V.cells e x)[k]? =some p→ ∃a v,A=some a∧w.cell? (a.add (j*X.esize e+k))=some v∧Rep X w (c.N g D) g v p∧((none:Option Nat)=none→ ¬ (c.N g D) a.block (a.off+(j*X.esize e+k))):=by
   intro A n cp hvv
   subst hvv
   cases hv with
   |sl _ _ _ _ _ _ val hl hc ho r1 r2=>
    exact ⟨hc,hl,fun j x hx k p hp=>by
     obtain ⟨b,hA,hcell,hn⟩:=r1 j x hx k p hp
     exact ⟨b,_,hA,hcell,r2 j x hx k p hp,fun _=>hn⟩⟩
  simp only [mA] at hr
  split at hr
  ·injection hr with hr
   injection hr with h1 h2
   subst h1;subst h2
   refine ⟨L,hK,fun _ h=>h,fun _ h=>h,.inr (.inr ⟨rfl, ?_⟩)⟩
   exact hv.less (.inr ⟨e,l,_,rfl,rfl⟩)
  ·cases hr
  ·cases hr
  ·cases hr
  ·rename_i j wr
   cases wr with
   |true=>cases hr
   |false=>
    simp only [cond_false] at hr
    injection hr with hr
    injection hr with h1 h2
    cases hv with
    |sl A n cp _ _ _ val hl hc ho r1 r2=>
     obtain ⟨a1,a2,a3⟩:=hcells rfl
     exact new (l':=l) ⟨A,n,cp,rfl,a2,a1,a3,by simp,fun _=>ho⟩ h1.symm h2.symm
  ·rename_i j wr
   injection hr with hr
   injection hr with h1 h2
   cases hv with
   |sl A n cp _ _ _ val hl hc ho r1 r2=>
    obtain ⟨rfl,rfl,rfl⟩:=ho
    exact new (l':=[]) ⟨none,0,0,rfl,rfl,Nat.le_refl _,by simp,fun _=>⟨rfl,rfl,rfl⟩,fun _=>rfl⟩ h1.symm h2.symm
 |agg cs=>cases hr
 |tuple cs=>cases hr
 |optr i v j off=>cases hr
 |fresh e l=>cases hr
 |undef=>exact plain hr
 |int k n=>exact plain hr
 |bool b=>exact plain hr
 |str s=>exact plain hr
 |ptr id off=>exact plain hr
 |aptr id n=>exact plain hr
 |eptr e x off=>exact plain hr
 |mp id=>exact plain hr
 |func f a b=>exact plain hr
 |iface t p=>exact plain hr
 |nilIface=>exact plain hr
 |nilPtr=>exact plain hr
 |nilFunc=>exact plain hr
theorem Z3 (h:Sim X c tm w σ g D): ∀ (rs:List (Nat×Option (Nat×Bool))) {K K':Kept U} {L:List (Ent U)} {l:List (Nat×PV U)},KI X c w g D K L→o8 σ rs K=some (l,K')→
  ∃L',KI X c w g D K' L'∧(∀x∈L,x∈L')∧(∀i∈K.read,i∈K'.read)∧ ∀n p,(n,p)∈l→RK X c w σ g D K' L' (tm.getD n undef) p:=by
 intro rs
 induction rs with
 |nil=>
  intro K K' L l hK hr
  simp only [o8] at hr
  injection hr with hr
  injection hr with h1 h2
  subst h1;subst h2
  exact ⟨L,hK,fun _ h=>h,fun _ h=>h,by simp⟩
 |cons nt rs ih=>
  intro K K' L l hK hr
  obtain ⟨n,t⟩:=nt
  simp only [o8] at hr
  split at hr
  case h_2=>cases hr
  rename_i v K1 hv
  split at hr
  case h_2=>cases hr
  rename_i l' K2 hl
  injection hr with hr
  injection hr with h1 h2
  subst h1;subst h2
  obtain ⟨L1,k1,k2,k3,k4⟩:=Qy h (h.regs n) hK hv
  obtain ⟨L2,m1,m2,m3,m4⟩:=ih k1 hl
  refine ⟨L2,m1,fun x hx=>m2 x (k2 x hx),fun i hi=>m3 i (k3 i hi),fun n' p hp=> ?_⟩
  rcases List.mem_cons.1 hp with hp|hp
  ·injection hp with e1 e2
   subst e1;subst e2
   exact k4.mono m2 m3
  ·exact m4 n' p hp
theorem Z2 (h:Sim X c tm w σ g D): ∀ (ts:List (Option (Nat×Bool))) (cs:List (PV U)) (vs:Nat→Value) {K K':Kept U} {L:List (Ent U)} {l:List (PV U)},KI X c w g D K L→(∀ (j:Nat) p,cs[j]? =some p→Rep X w (c.N g D) g (vs j) p)→iW σ ts cs K=some (l,K')→
  ∃L',KI X c w g D K' L'∧(∀x∈L,x∈L')∧(∀i∈K.read,i∈K'.read)∧l.length=cs.length∧ ∀ (j:Nat) p,l[j]? =some p→RK X c w σ g D K' L' (vs j) p:=by
 intro ts
 induction ts with
 |nil=>
  intro cs vs K K' L l hK _ hr
  cases cs with
  |nil=>
   simp only [iW] at hr
   injection hr with hr
   injection hr with h1 h2
   subst h1;subst h2
   exact ⟨L,hK,fun _ h=>h,fun _ h=>h,rfl,by simp⟩
  |cons=>simp [iW] at hr
 |cons t ts ih=>
  intro cs vs K K' L l hK hc hr
  cases cs with
  |nil=>simp [iW] at hr
  |cons p cs=>
   simp only [iW] at hr
   split at hr
   case h_2=>cases hr
   rename_i v K1 hv
   split at hr
   case h_2=>cases hr
   rename_i l' K2 hl
   injection hr with hr
   injection hr with h1 h2
   subst h1;subst h2
   obtain ⟨L1,k1,k2,k3,k4⟩:=Qy h (hc 0 p rfl) hK hv
   obtain ⟨L2,m1,m2,m3,m5,m4⟩:=ih cs (fun j=>vs (j+1)) k1 (fun j p hp=>hc (j+1) p (by simpa using hp)) hl
   refine ⟨L2,m1,fun x hx=>m2 x (k2 x hx),fun i hi=>m3 i (k3 i hi),by simp [m5],fun j q hq=> ?_⟩
   cases j with
   |zero=>simp at hq;subst hq;exact k4.mono m2 m3
   |succ j=>exact m4 j q (by simpa using hq)
def BK (X:Link V P) (c:Ctx) (w:World) (σ:St U) (g:Gh U) (D:Nat→Option Nat) (K:Kept U) (L:List (Ent U)) (id:Nat):Box U→Prop
 | .cells cs=> ∃k cur e,g.μ id=some k∧w.heap[k]? =some (.cells cur e (0,0))∧cur.size=cs.length∧ ∀ (j:Nat) p,cs[j]? =some p→RK X c w σ g D K L (cur.getD j undef) p
 | .map e l=> ∃k,g.μ id=some k∧BoxOK X w (c.N g D) g k (.map e l)
theorem BK.mono {K K':Kept U} {L L':List (Ent U)} {id:Nat} {b:Box U} (h:BK X c w σ g D K L id b) (hL: ∀x∈L,x∈L') (hK: ∀i∈K.read,i∈K'.read):BK X c w σ g D K' L' id b:=by
 cases b with
 |cells cs=>obtain ⟨k,cur,e,h1,h2,h3,h4⟩:=h;exact ⟨k,cur,e,h1,h2,h3,fun j p hp=>(h4 j p hp).mono hL hK⟩
 |map e l=>exact h
theorem Z0 (h:Sim X c tm w σ g D): ∀ (bx:List (Nat×List (Option (Nat×Bool)))) {K K':Kept U} {L:List (Ent U)} {l:List (Nat×Box U)},KI X c w g D K L→fO σ bx K=some (l,K')→
  ∃L',KI X c w g D K' L'∧(∀x∈L,x∈L')∧(∀i∈K.read,i∈K'.read)∧ ∀n b,(n,b)∈l→BK X c w σ g D K' L' n b:=by
 intro bx
 induction bx with
 |nil=>
  intro K K' L l hK hr
  simp only [fO] at hr
  injection hr with hr
  injection hr with h1 h2
  subst h1;subst h2
  exact ⟨L,hK,fun _ h=>h,fun _ h=>h,by simp⟩
 |cons nt bx ih=>
  intro K K' L l hK hr
  obtain ⟨n,ts⟩:=nt
  simp only [fO] at hr
  split at hr
  ·rename_i cs hcs
   split at hr
   case h_2=>cases hr
   rename_i cs' K1 hv
   split at hr
   case h_2=>cases hr
   rename_i l' K2 hl
   injection hr with hr
   injection hr with h1 h2
   subst h1;subst h2
   obtain ⟨k,hk,cur,e,b1,b2,b3⟩:=h.boxes _ _ hcs
   obtain ⟨L1,k1,k2,k3,k5,k4⟩:=Z2 h ts cs (fun j=>cur.getD j undef) hK b3 hv
   obtain ⟨L2,m1,m2,m3,m4⟩:=ih k1 hl
   refine ⟨L2,m1,fun x hx=>m2 x (k2 x hx),fun i hi=>m3 i (k3 i hi),fun n' b hb=> ?_⟩
   rcases List.mem_cons.1 hb with hb|hb
   ·injection hb with e1 e2
    subst e1;subst e2
    exact ⟨k,cur,e,hk,b1,b2.trans k5.symm,fun j p hp=>(k4 j p hp).mono m2 m3⟩
   ·exact m4 n' b hb
  ·rename_i e l0 hcs
   split at hr
   case h_2=>cases hr
   rename_i l' K2 hl
   injection hr with hr
   injection hr with h1 h2
   subst h1;subst h2
   obtain ⟨k,hk,hbx⟩:=h.boxes _ _ hcs
   obtain ⟨L2,m1,m2,m3,m4⟩:=ih hK hl
   refine ⟨L2,m1,m2,m3,fun n' b hb=> ?_⟩
   rcases List.mem_cons.1 hb with hb|hb
   ·injection hb with e1 e2
    subst e1;subst e2
    exact ⟨k,hk,hbx⟩
   ·exact m4 n' b hb
  ·cases hr
end
end Go.Proofs.YtfkkpkhfjpaafaaGreatDoor.PI
namespace Go.Proofs.YtfkkpkhfjpaafaaGreatDoor.PI
open Go
set_option linter.unusedVariables false
set_option linter.unusedSimpArgs false
section
variable {U:Uni} {V:Env U} {P:Program} {X:Link V P} {c:Ctx} {tm:Array Value} {w:World} {σ:St U} {g:Gh U} {D:Nat→Option Nat}
theorem uQ {α:Type}: ∀ {l:List (Nat×α)} {n:Nat} {x:α},cq l n=some x→(n,x)∈l:=by
 intro l
 induction l with
 |nil=>intro n x h;cases h
 |cons a l ih=>
  obtain ⟨m,v⟩:=a
  intro n x h
  rw [iD] at h
  split at h
  ·rename_i hm;subst hm;injection h with h;subst h;exact List.mem_cons_self
  ·exact List.mem_cons_of_mem _ (ih h)
theorem Fj {α:Type}: ∀ {l:List (Nat×α)} {n:Nat},cq l n=none→ ∀x,(n,x)∉l:=by
 intro l
 induction l with
 |nil=>intro n _ x h;cases h
 |cons a l ih=>
  obtain ⟨m,v⟩:=a
  intro n h x hx
  rw [iD] at h
  split at h
  ·cases h
  ·rename_i hm
   rcases List.mem_cons.1 hx with hx|hx
   ·injection hx with e _;exact hm e.symm
   ·exact ih h x hx
theorem D8: ∀ {l:List Nat},lM l=true→l.Nodup:=by
 intro l
 induction l with
 |nil=>intro _;exact List.nodup_nil
 |cons n r ih=>
  intro h
  simp only [lM,Bool.and_eq_true,Bool.not_eq_true'] at h
  refine List.nodup_cons.2 ⟨fun hn=> ?_,ih h.2⟩
  have:r.any (Nat.beq n)=true:=List.any_eq_true.2 ⟨n,hn,by simp⟩
  rw [h.1] at this;cases this
theorem agU {α:Type} {l:List (Nat×α)} (h:(l.map (·.1)).Nodup) {n:Nat} {x y:α} (hx:(n,x)∈l) (hy:(n,y)∈l):x=y:=by
 induction l with
 |nil=>cases hx
 |cons a l ih=>
  simp only [List.map_cons,List.nodup_cons] at h
  rcases List.mem_cons.1 hx with e1|hx<;>rcases List.mem_cons.1 hy with e2|hy
  ·have e3:=e1.trans e2.symm;injection e3 with _ e3
  ·exact absurd (by rw [←e1];exact List.mem_map_of_mem (f:=(·.1)) hy) h.1
  ·exact absurd (by rw [←e2];exact List.mem_map_of_mem (f:=(·.1)) hx) h.1
  ·exact ih h.2 hx hy
theorem ym (h:Sim X c tm w σ g D) {A:Ann} {τ:St U} (hc:dS A σ=some τ): ∃g' D',Sim X c tm w τ g' D':=by
 unfold dS at hc
 split at hc
 case h_2=>cases hc
 rename_i rs K1 hR
 split at hc
 case h_2=>cases hc
 rename_i bs K2 hB
 have h0:KI X c w g D (⟨[],[],[],[]⟩:Kept U) []:=⟨rfl,rfl,by simp,rfl,List.nodup_nil⟩
 obtain ⟨L1,k1,_,_,r1⟩:=Z3 h A.regs h0 hR
 obtain ⟨L,k2,m2,m3,b2⟩:=Z0 h A.boxes k1 hB
 have r2: ∀n p,(n,p)∈rs→RK X c w σ g D K2 L (tm.getD n undef) p:=fun n p hp=>(r1 n p hp).mono m2 m3
 cases hb:(!(K2.used.any fun i=>K2.read.any (Nat.beq i))&&lM (K2.objs.map (·.1))&&(lM (bs.map (·.1))&&((PV.idsL (rs.map (·.2))++bs.flatMap (·.2.ids)).all fun i=>(bs.map (·.1)).any (Nat.beq i)))) with
 |false=>rw [hb] at hc;cases hc
 |true=>
 rw [hb] at hc
 injection hc with hc
 subst hc
 simp only [Bool.and_eq_true] at hb
 obtain ⟨⟨hur,hdo⟩,hdb,hids⟩:=hb
 have hur': ∀i,i∈K2.used→i∉K2.read:=by
  intro i hi hr
  have:(K2.used.any fun i=>K2.read.any (Nat.beq i))=true:=List.any_eq_true.2 ⟨i,hi,List.any_eq_true.2 ⟨i,hr,by simp⟩⟩
  rw [this] at hur;cases hur
 have hdo':(L.map (·.j)).Nodup:=by
  have:=D8 hdo
  rw [k2.objs,List.map_map] at this
  exact this
 have hdb':=D8 hdb
 have hids': ∀i,(i∈PV.idsL (rs.map (·.2))∨i∈bs.flatMap (·.2.ids))→i∈bs.map (·.1):=by
  intro i hi
  have:=List.all_eq_true.1 hids i (List.mem_append.2 hi)
  obtain ⟨j,hj,hij⟩:=List.any_eq_true.1 this
  have:i=j:=by simpa using hij
  rw [this];exact hj
 have huniq: ∀x∈L,∀y∈L,x.j=y.j→x=y:=by
  intro x hx y hy hxy
  have hn:(L.map fun x=>(x.j,x)).map (·.1)=L.map (·.j):=by simp [Function.comp_def]
  exact agU (l:=L.map fun x=>(x.j,x)) (by rw [hn];exact hdo') (List.mem_map.2 ⟨x,hx,rfl⟩) (List.mem_map.2 ⟨y,hy,by rw [hxy]⟩)
 let ent:Nat→Option (Ent U):=fun j=>L.find? fun x=>x.j==j
 have ent_mem: ∀x∈L,ent x.j=some x:=by
  intro x hx
  cases hf:ent x.j with
  |none=>have:=List.find?_eq_none.1 hf x hx;simp at this
  |some y=>
   have h1:=List.mem_of_find?_eq_some hf
   have h2:=List.find?_some hf
   have:y.j=x.j:=by simpa using h2
   rw [huniq y h1 x hx this]
 have ent_some: ∀j x,ent j=some x→x∈L∧x.j=j:=fun j x hx=>⟨List.mem_of_find?_eq_some hx,by have:=List.find?_some hx;simpa using this⟩
 let g':Gh U:={μ:=fun id=>if id∈bs.map (·.1) then g.μ id else none,κ:=fun j=>(ent j).map fun x=>(0,x.e,x.val)}
 let D':Nat→Option Nat:=fun j=>(ent j).bind (·.Do)
 have hD': ∀j b,D' j=some b→ ∃x∈L,x.j=j∧x.Do=some b∧ ∃i,x.src=some i∧D i=some b:=by
  intro j b hj
  cases he:ent j with
  |none=>simp [D',he] at hj
  |some x=>
   obtain ⟨hx,hxj⟩:=ent_some j x he
   have hDo:x.Do=some b:=by simpa [D',he] using hj
   exact ⟨x,hx,hxj,hDo,(k2.ok x hx).2 b hDo⟩
 have hN: ∀b o,b<w.heap.size→(c.N g' D') b o→(c.N g D) b o:=by
  rintro b o _ (hn|⟨id,hid⟩|⟨j,hj⟩)
  ·exact .inl hn
  ·simp only [g'] at hid
   split at hid
   ·exact .inr (.inl ⟨id,hid⟩)
   ·cases hid
  ·obtain ⟨x,_,_,_,i,_,hi⟩:=hD' j b hj
   exact .inr (.inr ⟨i,hi⟩)
 have hw: ∀b o,b<w.heap.size→ ¬ (c.N g D) b o→w.cell? ⟨b,o,none⟩=w.cell? ⟨b,o,none⟩:=fun _ _ _ _=>rfl
 have src_used: ∀x∈L,∀i,x.src=some i→i∈K2.used:=by
  intro x hx i hi
  rw [k2.used]
  exact List.mem_filterMap.2 ⟨x,hx,hi⟩
 have src_inj: ∀x∈L,∀y∈L,∀i,x.src=some i→y.src=some i→x=y:=by
  have hnd:=k2.nodup
  rw [k2.used] at hnd
  intro x hx y hy i hxi hyi
  clear_value g' D'
  clear ent_mem ent_some hD' hN huniq hdo' r2 r1 b2 k2 m2 src_used
  induction L with
  |nil=>cases hx
  |cons z L ih=>
   rcases List.mem_cons.1 hx with rfl|hx'<;>rcases List.mem_cons.1 hy with rfl|hy'
   ·rfl
   ·simp only [List.filterMap_cons,hxi] at hnd
    exact absurd (List.mem_filterMap.2 ⟨y,hy',hyi⟩) (List.nodup_cons.1 hnd).1
   ·simp only [List.filterMap_cons,hyi] at hnd
    exact absurd (List.mem_filterMap.2 ⟨x,hx',hxi⟩) (List.nodup_cons.1 hnd).1
   ·refine ih ?_ hx' hy'
    cases hz:z.src with
    |none=>simpa [List.filterMap_cons,hz] using hnd
    |some q=>simp only [List.filterMap_cons,hz] at hnd;exact (List.nodup_cons.1 hnd).2
 have hrep: ∀v p,RK X c w σ g D K2 L v p→(∀i∈p.ids,i∈bs.map (·.1))→Rep X w (c.N g' D') g' v p:=by
  intro v p hv hi
  rcases hv with ⟨x,hx,rfl,rfl⟩|⟨i,ob,u,hir,hob,rfl,hO⟩|⟨hn,hr⟩
  ·have hO:=(k2.ok x hx).1
   obtain ⟨A,n,cp,hv,_⟩:=hO.val
   exact .own x.j 0 _ 0 x.e x.val (by simp [g',ent_mem x hx]) (Nat.le_refl _) (fun _=>rfl) ⟨A,n,cp,hv⟩
  ·have hplain: ∀ {v:Value} {e:U.E} {x:U.El e} {k:Nat} {p:PV U},(V.cells e x)[k]? =some p→Rep X w (c.N g D) g v p→Rep X w (c.N g' D') g' v p:=
    fun hp hr=>hr.plain hw hN (X.eplain hp).1 (by rw [(X.eplain hp).2];simp)
   refine ObOK.rep (u:= .read) ?_
   obtain ⟨A,n,cp,h1,h2,h3,h4,h5⟩:=hO.val
   refine ⟨A,n,cp,h1,h2,h3,fun j x hx k p hp=> ?_,by simp⟩
   obtain ⟨b,v',hA,hcell,hr,hn⟩:=h4 j x hx k p hp
   refine ⟨b,v',hA,hcell,hplain hp hr,fun _=> ?_⟩
   have hlt:=World.block_lt_of_cell? w _ hcell
   rw [Addr.add_block] at hlt
   cases hDi:D i with
   |none=>exact fun h'=>hn hDi (hN _ _ hlt h')
   |some b'=>
    rw [hDi] at h5
    obtain ⟨_,cur,hA',_⟩:=h5
    rw [hA] at hA'
    injection hA' with hA'
    subst hA'
    rintro (hn'|⟨id,hid⟩|⟨q,hq⟩)
    ·have h6:=c.n0 _ _ hn'
     rcases (h.dnew i b' hDi).2 with h7|h7
     ·exact h6.2 h7
     ·simp at h6;omega
    ·simp only [g'] at hid
     split at hid
     ·exact h.dbox i id b' hDi hid
     ·cases hid
    ·obtain ⟨y,hy,_,_,i',hi',hDi'⟩:=hD' q b' hq
     have:=h.dinj _ _ _ hDi' hDi
     subst this
     exact hur' i' (src_used y hy i' hi') hir
  ·exact hr.plain hw hN hn fun i hi' b hb=>by simp only [g'];rw [if_pos (hi i hi')];exact hb
 have hplain: ∀ {v:Value} {e:U.E} {x:U.El e} {k:Nat} {p:PV U},(V.cells e x)[k]? =some p→Rep X w (c.N g D) g v p→Rep X w (c.N g' D') g' v p:=
  fun hp hr=>hr.plain hw hN (X.eplain hp).1 (by rw [(X.eplain hp).2];simp)
 have hlook: ∀id b,cq bs id=some b→id∈bs.map (·.1):=fun id b hb=>List.mem_map_of_mem (f:=(·.1)) (uQ hb)
 refine ⟨g',D',{nt:=h.nt,regs:=fun n=> ?_,boxes:=fun id b hb=> ?_,dom:=fun id k hk=> ?_,inj:=fun id id' k hk hk'=> ?_,new:=fun id k hk=> ?_,objs:=fun j ob ho=> ?_,nobj:=fun j ho=> ?_,dinj:=fun j j' b hb hb'=> ?_,dnew:=fun j b hb=> ?_,dbox:=fun j id b hb hm=> ?_,ext:=h.ext,gl:=h.gl,fix:=fun id k hk=> ?_}⟩
 ·unfold St.r
  simp only
  cases hl:cq rs n with
  |none=>exact .undef _
  |some p=>
   have hm:=uQ hl
   refine hrep _ _ (r2 n p hm) fun i hi=>hids' i (.inl ?_)
   obtain ⟨q,hq⟩:=List.mem_iff_getElem?.1 (List.mem_map_of_mem (f:=(·.2)) hm)
   exact fj hq i hi
 ·have hb':cq bs id=some b:=hb
  have hm:=uQ hb'
  have hbk:=b2 id b hm
  have hin:=hlook id b hb'
  cases b with
  |cells cs=>
   obtain ⟨k,cur,e,q1,q2,q3,q4⟩:=hbk
   refine ⟨k,by simp only [g'];rw [if_pos hin];exact q1,cur,e,q2,q3,fun j p hp=>hrep _ _ (q4 j p hp) fun i hi=>hids' i (.inr ?_)⟩
   exact List.mem_flatMap.2 ⟨(id,.cells cs),hm,by simp only [Box.ids];exact fj hp i hi⟩
  |map e l=>
   obtain ⟨k,q1,en,cl,q2,q3,q4⟩:=hbk
   refine ⟨k,by simp only [g'];rw [if_pos hin];exact q1,en,cl,q2,q3,fun j x t hx=> ?_⟩
   obtain ⟨m,vs,s1,s2,s3,s4,s5⟩:=q4 j x t hx
   exact ⟨m,vs,s1,s2,s3,s4,fun k p hp=>hplain hp (s5 k p hp)⟩
 ·simp only [g'] at hk
  split at hk
  ·rename_i hin
   cases hl:cq bs id with
   |none=>
    obtain ⟨x,hx,hx1⟩:=List.mem_map.1 hin
    obtain ⟨n,b⟩:=x
    simp only at hx1
    subst hx1
    exact absurd hx (Fj hl b)
   |some b=>exact ⟨b,hl⟩
  ·cases hk
 ·simp only [g'] at hk hk'
  split at hk<;>split at hk'<;>first|cases hk|cases hk'|exact h.inj _ _ _ hk hk'
 ·simp only [g'] at hk
  split at hk
  ·exact h.new id k hk
  ·cases hk
 ·have ho':cq K2.objs j=some ob:=ho
  have hm:=uQ ho'
  rw [k2.objs] at hm
  obtain ⟨x,hx,hx1⟩:=List.mem_map.1 hm
  injection hx1 with e1 e2
  subst e1;subst e2
  have hu:cq K2.uses x.j=some x.u:=by
   cases hl:cq K2.uses x.j with
   |none=>exact absurd (by rw [k2.uses];exact List.mem_map.2 ⟨x,hx,rfl⟩) (Fj hl x.u)
   |some u'=>
    have hm':=uQ hl
    rw [k2.uses] at hm'
    obtain ⟨y,hy,hy1⟩:=List.mem_map.1 hm'
    injection hy1 with e1 e2
    rw [←e2,huniq y hy x hx e1]
  have hO:=(k2.ok x hx).1
  refine ⟨x.val,by simp [g',ent_mem x hx], ?_⟩
  have hu':(⟨rs,bs,K2.objs,K2.uses⟩:St U).u x.j=x.u:=by unfold St.u;simp only [hu]
  have hDe:D' x.j=x.Do:=by simp [D',ent_mem x hx]
  rw [hu',hDe]
  obtain ⟨A,n,cp,h1,h2,h3,h4,h5⟩:=hO.val
  refine ⟨A,n,cp,h1,h2,h3,fun j x' hx' k p hp=> ?_,h5⟩
  obtain ⟨b,v',hA,hcell,hr,hn⟩:=h4 j x' hx' k p hp
  refine ⟨b,v',hA,hcell,hplain hp hr,fun hd h'=>hn hd ?_⟩
  have hlt:=World.block_lt_of_cell? w _ hcell
  rw [Addr.add_block] at hlt
  exact hN _ _ hlt h'
 ·have hnone:ent j=none:=by
   cases he:ent j with
   |none=>rfl
   |some x=>
    obtain ⟨hx,hxj⟩:=ent_some j x he
    have ho':cq K2.objs j=none:=ho
    exact absurd (by rw [k2.objs];exact List.mem_map.2 ⟨x,hx,by rw [hxj]⟩) (Fj ho' ⟨0,x.e,x.l⟩)
  exact ⟨by simp [g',hnone],by simp [D',hnone]⟩
 ·obtain ⟨x,hx,hxj,_,i,hi,hDi⟩:=hD' j b hb
  obtain ⟨y,hy,hyj,_,i',hi',hDi'⟩:=hD' j' b hb'
  have:=h.dinj _ _ _ hDi hDi'
  subst this
  rw [←hxj,←hyj,src_inj x hx y hy i hi hi']
 ·obtain ⟨_,_,_,_,i,_,hi⟩:=hD' j b hb
  exact h.dnew i b hi
 ·obtain ⟨_,_,_,_,i,_,hi⟩:=hD' j b hb
  simp only [g'] at hm
  split at hm
  ·exact h.dbox i id b hi hm
  ·cases hm
 ·simp only [g'] at hk
  split at hk
  ·exact h.fix id k hk
  ·cases hk
end
end Go.Proofs.YtfkkpkhfjpaafaaGreatDoor.PI
namespace Go.Proofs.YtfkkpkhfjpaafaaGreatDoor.PI
open Go
set_option linter.unusedVariables false
set_option linter.unusedSimpArgs false
section
variable {U:Uni} {V:Env U} {P:Program} (X:Link V P)
def gB (U:Uni) (n:Nat) (ν:Nat→Nat):Gh U:=⟨fun k=>if k<n then some (ν k) else none,fun _=>none⟩
def NB (N0:aN) (n:Nat) (ν:Nat→Nat) (δ:Nat→Option Nat):aN:=fun b o=>N0 b o∨(∃k,k<n∧ν k=b)∨(∃j,δ j=some b)
def RepG (w:World) (N:aN) (g:Gh U) (v:Value) (Do:Option Nat):PV U→Prop
 | .fresh e l=>ObOK X w N g e l v .wr Do
 |p=>Rep X w N g v p
def RepR (w:World) (N:aN) (g:Gh U) (v:Value) (δ:Nat→Option Nat):PV U→Prop
 | .tuple ps=> ∃vs:Array Value,v= .tuple vs∧vs.size=ps.length∧ ∀ (j:Nat) p,ps[j]? =some p→RepG X w N g (vs.getD j undef) (δ j) p
 |p=>RepG X w N g v (δ 0) p
structure Bnd (w:World) (N0:aN) (n:Nat) (ν:Nat→Nat) (δ:Nat→Option Nat):Prop where
 inj: ∀i j,i<n→j<n→ν i=ν j→i=j
 lt: ∀i,i<n→ν i<w.heap.size
 dlt: ∀j b,δ j=some b→b<w.heap.size
 dinj: ∀i j b,δ i=some b→δ j=some b→i=j
 dν: ∀j b,δ j=some b→ ∀i,i<n→ν i≠b
 n0: ∀b o,N0 b o→b<w.heap.size∧(∀i,i<n→ν i≠b)∧ ∀j,δ j≠some b
structure Given (w:World) (vs:Array Value) (N0:aN) (ν:Nat→Nat) (δ:Nat→Option Nat) (args:List (PV U)) (boxes:List (Box U)):Prop where
 bnd:Bnd w N0 boxes.length ν δ
 size:vs.size=args.length
 dom: ∀j b,δ j=some b→j<args.length
 glob: ∀b o,(b,o)∈X.gblk→w.heap[b]? =some o∧(∀i,i<boxes.length→ν i≠b)∧ ∀j,δ j≠some b
 args: ∀ (j:Nat) p,args[j]? =some p→RepG X w (NB N0 boxes.length ν δ) (gB U boxes.length ν) (vs.getD j undef) (δ j) p
 boxes: ∀ (k:Nat) b,boxes[k]? =some b→BoxOK X w (NB N0 boxes.length ν δ) (gB U boxes.length ν) (ν k) b
def i9 (n m:Nat) (ν:Nat→Nat) (δ:Nat→Option Nat):List Nat:=(List.range n).map ν++(List.range m).filterMap δ
structure Back (w w':World) (N0:aN) (ν:Nat→Nat) (δ:Nat→Option Nat) (n m:Nat) (ν':Nat→Nat) (δ':Nat→Option Nat) (cs:List (Box U)):Prop where
 ext:Ext (i9 n m ν δ) w w'
 le:n≤cs.length
 old: ∀i,i<n→ν' i=ν i
 new: ∀i,n≤i→i<cs.length→w.heap.size≤ν' i
 dnew: ∀j b,δ' j=some b→w.heap.size≤b∨ ∃i,δ i=some b
 bnd:Bnd w' N0 cs.length ν' δ'
 boxes: ∀ (k:Nat) b,cs[k]? =some b→BoxOK X w' (NB N0 cs.length ν' δ') (gB U cs.length ν') (ν' k) b
def Ret (w:World) (N0:aN) (ν:Nat→Nat) (δ:Nat→Option Nat) (n m:Nat) (out:Out U):Ending→World→Prop
 | .returned rv,w'=>match out with
  | .ret v cs=> ∃ν' δ',Back X w w' N0 ν δ n m ν' δ' cs∧RepR X w' (NB N0 cs.length ν' δ') (gB U cs.length ν') rv δ' v
  | .panic _ _=>False
 | .panicked chain,w'=>match out with
  | .ret _ _=>False
  | .panic v cs=>cs.length=n∧ ∃val,chain=[{v:=val,recovered:=false}]∧Back X w w' N0 ν δ n m ν (fun _=>none) cs∧Rep X w' (NB N0 n ν fun _=>none) (gB U n ν) val v
 | .outgrown,_=>False
def jS (CP:FuncId→Array Value→World→(Ending→World→Prop)→Prop):cj U:=fun f args boxes out=>
 (∃fn,P.funcs[f]? =some fn∧(fn.name== "runtime.NumGoroutine")=false∧fn.body.isNone=false)∧
 ∀ (w:World) (vs:Array Value) (N0:aN) (ν:Nat→Nat) (δ:Nat→Option Nat),Given X w vs N0 ν δ args boxes→CP f vs w (Ret X w N0 ν δ boxes.length args.length (out.full boxes))
def ci:cj U:=fun f args boxes out=>
 (∃fn,P.funcs[f]? =some fn∧(fn.name== "runtime.NumGoroutine")=false∧fn.body.isNone=false)∧
 ∀ (w:World) (vs:Array Value) (N0:aN) (ν:Nat→Nat) (δ:Nat→Option Nat),Given X w vs N0 ν δ args boxes→Calls P f vs w (Ret X w N0 ν δ boxes.length args.length (out.full boxes))
theorem Ret.full {X:Link V P} {w:World} {N0:aN} {ν:Nat→Nat} {δ:Nat→Option Nat} {boxes:List (Box U)} {m:Nat} {out:Out U} {e:Ending} {w':World} (h:Ret X w N0 ν δ boxes.length m out e w'):Ret X w N0 ν δ boxes.length m (out.full boxes) e w':=by
 cases out with
 |panic v cs=>exact h
 |ret v cs=>
  cases e with
  |returned rv=>
   obtain ⟨ν',δ',hb,hr⟩:=id h
   have:Nat.ble boxes.length cs.length=true:=by simpa using hb.le
   simp only [Out.full,this,cond_true]
   exact h
  |panicked ch=>exact h.elim
  |outgrown=>exact h.elim
variable {X} {c:Ctx} {tm:Array Value} {w:World} {σ:St U} {g:Gh U} {D:Nat→Option Nat}
theorem Sim.move (h:Sim X c tm w σ g D) {w':World} {σ':St U} {g':Gh U} {D':Nat→Option Nat} (chB chO:Nat→Prop)
  (hos:w'.os=w.os) (htape:w'.tape=w.tape) (hout:w'.output=w.output) (hsize:w.heap.size≤w'.heap.size)
  (hblk: ∀b,b<w.heap.size→(∀id,chB id→g.μ id≠some b)→(∀j,chO j→D j≠some b)→w'.heap[b]? =w.heap[b]?)
  (hr: ∀n,σ'.r n=σ.r n) (hle:g.le g')
  (hμ: ∀id k,g'.μ id=some k→g.μ id=some k∨(g.μ id=none∧w.heap.size≤k∧k<w'.heap.size))
  (hfix: ∀id k,g.μ id=none→g'.μ id=some k→c.fix id=none)
  (hμinj: ∀id id' k,g.μ id=none→g'.μ id=some k→g'.μ id'=some k→id=id')
  (hbold: ∀id,¬chB id→σ'.b id=σ.b id∧g'.μ id=g.μ id)
  (hbnew: ∀id b,chB id→σ'.b id=some b→ ∃k,g'.μ id=some k∧BoxOK X w' (c.N g' D') g' k b)
  (hbdom: ∀id k,chB id→g'.μ id=some k→ ∃b,σ'.b id=some b)
  (hD: ∀j b,D' j=some b→(¬chO j∧D j=some b)∨((∃i,chO i∧D i=some b)∨(w.heap.size≤b∧b<w'.heap.size)))
  (hdinj: ∀j j' b,chO j→D' j=some b→D' j'=some b→j=j')
  (hDμ: ∀j b,chO j→D' j=some b→ ∀id,g'.μ id≠some b)
  (hold: ∀j,¬chO j→σ'.o j=σ.o j∧σ'.u j=σ.u j∧D' j=D j∧g'.κ j=g.κ j)
  (hobj: ∀j ob,chO j→σ'.o j=some ob→ ∃val,g'.κ j=some (ob.ver,ob.e,val)∧ObOK X w' (c.N g' D') g' ob.e ob.l val (σ'.u j) (D' j))
  (hnobj: ∀j,chO j→σ'.o j=none→g'.κ j=none∧D' j=none):Sim X c tm w' σ' g' D':=by
 have hNold: ∀b o,b<w.heap.size→(c.N g' D') b o→(c.N g D) b o:=by
  rintro b o hlt (hn|⟨id,hid⟩|⟨j,hj⟩)
  ·exact .inl hn
  ·rcases hμ id b hid with h1|⟨_,h1,_⟩
   ·exact .inr (.inl ⟨id,h1⟩)
   ·omega
  ·rcases hD j b hj with ⟨_,hj'⟩|⟨i,_,hi⟩|hk
   ·exact .inr (.inr ⟨j,hj'⟩)
   ·exact .inr (.inr ⟨i,hi⟩)
   ·omega
 have hw: ∀b o,b<w.heap.size→ ¬ (c.N g D) b o→w'.cell? ⟨b,o,none⟩=w.cell? ⟨b,o,none⟩:=fun b o hlt hn=>by
  unfold World.cell?
  rw [hblk b hlt (fun id _ hid=>hn (.inr (.inl ⟨id,hid⟩))) fun j _ hj=>hn (.inr (.inr ⟨j,hj⟩))]
 exact
  {nt:=h.nt
   regs:=fun n=>by rw [hr];exact (h.regs n).mono X hw hNold hle
   boxes:=fun id b hb=>by
    by_cases hc:chB id
    ·exact hbnew id b hc hb
    ·obtain ⟨h1,h2⟩:=hbold id hc
     rw [h1] at hb
     obtain ⟨k,hk,hbox⟩:=h.boxes id b hb
     exact ⟨k,h2▸hk,hbox.mono (hblk k (h.new id k hk).1 (fun id' hc' hid'=>hc (h.inj _ _ _ hk hid'▸hc')) fun j _ hj=>h.dbox j id k hj hk) hw hNold hle⟩
   dom:=fun id k hk=>by
    by_cases hc:chB id
    ·exact hbdom id k hc hk
    ·obtain ⟨h1,h2⟩:=hbold id hc
     rw [h1];exact h.dom id k (h2▸hk)
   inj:=fun id id' k hk hk'=>by
    rcases hμ id k hk with h1|⟨h1,_⟩
    ·rcases hμ id' k hk' with h2|⟨h2,_⟩
     ·exact h.inj _ _ _ h1 h2
     ·exact (hμinj id' id k h2 hk' hk).symm
    ·exact hμinj id id' k h1 hk hk'
   new:=fun id k hk=>by
    rcases hμ id k hk with h1|⟨_,h1,h2⟩
    ·have:=h.new id k h1;exact ⟨Nat.lt_of_lt_of_le this.1 hsize,this.2⟩
    ·exact ⟨h2,.inr (Nat.le_trans h.ext.size h1)⟩
   objs:=fun j ob ho=>by
    by_cases hj:chO j
    ·exact hobj j ob hj ho
    ·obtain ⟨h1,h2,h3,h4⟩:=hold j hj
     rw [h1] at ho
     obtain ⟨val,hk,hob⟩:=h.objs j ob ho
     rw [h2,h3,h4]
     exact ⟨val,hk,hob.mono (fun k hk=>hblk k (h.dnew j k hk).1 (fun id _ hid=>h.dbox j id k hk hid) fun i hi hi'=>hj (h.dinj _ _ _ hi' hk▸hi)) hw hNold hle⟩
   nobj:=fun j ho=>by
    by_cases hj:chO j
    ·exact hnobj j hj ho
    ·obtain ⟨h1,h2,h3,h4⟩:=hold j hj
     rw [h3,h4];exact h.nobj j (h1▸ho)
   dinj:=fun j j' b hb hb'=>by
    by_cases hj:chO j
    ·exact hdinj j j' b hj hb hb'
    ·by_cases hj':chO j'
     ·exact (hdinj j' j b hj' hb' hb).symm
     ·rw [(hold j hj).2.2.1] at hb;rw [(hold j' hj').2.2.1] at hb'
      exact h.dinj _ _ _ hb hb'
   dnew:=fun j b hb=>by
    rcases hD j b hb with ⟨_,hj'⟩|⟨i,_,hi⟩|hk
    ·have:=h.dnew j b hj';exact ⟨Nat.lt_of_lt_of_le this.1 hsize,this.2⟩
    ·have:=h.dnew i b hi;exact ⟨Nat.lt_of_lt_of_le this.1 hsize,this.2⟩
    ·exact ⟨hk.2,.inr (Nat.le_trans h.ext.size hk.1)⟩
   dbox:=fun j id b hb hm=>by
    by_cases hj:chO j
    ·exact hDμ j b hj hb id hm
    ·rw [(hold j hj).2.2.1] at hb
     rcases hμ id b hm with h1|⟨_,h1,_⟩
     ·exact h.dbox j id b hb h1
     ·have:=(h.dnew j b hb).1;omega
   ext:=⟨hos.trans h.ext.os,htape.trans h.ext.tape,hout.trans h.ext.output,Nat.le_trans h.ext.size hsize,fun b hlt hn=>by
    rw [hblk b (Nat.lt_of_lt_of_le hlt h.ext.size) (fun id _ hid=>by
     rcases (h.new id b hid).2 with h1|h1
     ·exact hn h1
     ·omega) fun j _ hj=>by
     rcases (h.dnew j b hj).2 with h1|h1
     ·exact hn h1
     ·omega]
    exact h.ext.block b hlt hn⟩
   gl:=h.gl
   fix:=fun id k hk=>by
    rcases hμ id k hk with h1|⟨h1,h2,_⟩
    ·exact h.fix id k h1
    ·exact .inr ⟨hfix id k h1 hk,Nat.le_trans h.ext.size h2⟩}
end
end Go.Proofs.YtfkkpkhfjpaafaaGreatDoor.PI
namespace Go.Proofs.YtfkkpkhfjpaafaaGreatDoor.PI
open Go
set_option linter.unusedVariables false
set_option linter.unusedSimpArgs false
section
variable {U:Uni} {V:Env U} {P:Program} {X:Link V P} {K:cj U} {c:Ctx} {tm:Array Value} {w:World} {σ:St U} {g:Gh U} {D:Nat→Option Nat}
variable {r:MR U} {τ:St U} {fp gp:List Loc} {N:aN}
theorem iL (keep:Bool) (ρ:Nat→Nat): ∀ (cs:List (PV U)),PV.renL keep ρ cs=cs.map (PV.ren keep ρ):=by
 intro cs
 induction cs<;>grind [PV.renL]
theorem Rep.ren {w':World} {N N':aN} {g g':Gh U} {v:Value} {p:PV U} (h:Rep X w N g v p) (keep:Bool) (ρ:Nat→Nat) (hw: ∀b o,b<w.heap.size→ ¬N b o→w'.cell? ⟨b,o,none⟩=w.cell? ⟨b,o,none⟩) (hN: ∀b o,b<w.heap.size→N' b o→N b o)
  (hno:p.noObj=true∨ ∀i,g.κ i=none) (hμ: ∀i,i∈p.ids→ ∀b,g.μ i=some b→g'.μ (ρ i)=some b):Rep X w' N' g' v (p.ren keep ρ):=by
 have hcell: ∀a v,w.cell? a=some v→ ¬N a.block a.off→w'.cell? a=some v∧ ¬N' a.block a.off:=by
  grind [World.block_lt_of_cell?,yo]
 have hel: ∀ {v:Value} {e:U.E} {x:U.El e} {k:Nat} {p:PV U},(V.cells e x)[k]? =some p→Rep X w N g v p→Rep X w' N' g' v p:=fun hp hr=>hr.plain hw hN (X.eplain hp).1 (by rw [(X.eplain hp).2];simp)
 induction h with
 |undef v=>exact .undef v
 |int k n=>exact .int k n
 |bool b=>exact .bool b
 |str s=>exact .str s
 |sl A n cp e l o val hl hc ho h1 h2 ih=>
  have base: ∀o',(match o' with| .none=>True| .full=>n=cp| .nil=>A=none∧n=0∧cp=0| .void=>A=none| .sure=>A≠none)→Rep X w' N' g' (.slice A n cp) (.sl e l o'):=fun o' ho'=>by
   refine .sl A n cp e l o' val hl hc ho' (fun j x hx k p hp=> ?_) fun j x hx k p hp=>hel hp (h2 j x hx k p hp)
   grind [Addr.add_block,Addr.add_off]
  cases o with
  |none=>exact base .none trivial
  |full=>exact base .none trivial
  |void=>exact base .void ho
  |sure=>exact base .sure ho
  |nil=>cases keep with
   |true=>exact base .nil ho
   |false=>exact base .none trivial
 |own i v val ver e val' hk hv he hs=>
  grind [PV.noObj]
 |agg vs cs hl h ih=>
  simp only [PV.ren,iL]
  refine .agg vs _ (by grind) fun j p hp=> ?_
  grind [jt,PV.noObj,PV.ids,fj]
 |tuple vs cs hl h ih=>
  simp only [PV.ren,iL]
  refine .tuple vs _ (by grind) fun j p hp=> ?_
  grind [jt,PV.noObj,PV.ids,fj]
 |ptr id off b hb=>exact .ptr _ off b (hμ id (by simp [PV.ids]) b hb)
 |aptr id n b hb hn=>exact .aptr _ n b (hμ id (by simp [PV.ids]) b hb) hn
 |mp id b hb=>exact .mp _ b (hμ id (by simp [PV.ids]) b hb)
 |eptr e x off a val h1 h2 ih=>
  refine .eptr e x off a val (fun k p hp=> ?_) fun k p hp=>hel hp (h2 k p hp)
  grind [Addr.add_block,Addr.add_off]
 |optr i v j off val ver e val' hk hv he hs=>
  grind [PV.noObj]
 |func f a0s bs vs us ha hb h1 h2 i1 i2=>
  simp only [PV.ren,iL]
  refine .func f _ _ vs us (by grind) (by grind) (fun j p hp=> ?_) fun j p hp=> ?_
  all_goals grind [jt,PV.noObj,PV.ids,fj]
 |iface t v p h ih=>exact .iface t v _ (ih (hno.imp (fun h=>by simpa [PV.noObj] using h) id) fun i hi=>hμ i (by grind [PV.ids]))
 |nilIface=>exact .nilIface
 |nilPtr=>exact .nilPtr
 |nilFunc=>exact .nilFunc
theorem BoxOK.ren {w':World} {N N':aN} {g g':Gh U} {k:Nat} {b:Box U} (h:BoxOK X w N g k b) (keep:Bool) (ρ:Nat→Nat) (hk:w'.heap[k]? =w.heap[k]?) (hw: ∀b o,b<w.heap.size→ ¬N b o→w'.cell? ⟨b,o,none⟩=w.cell? ⟨b,o,none⟩) (hN: ∀b o,b<w.heap.size→N' b o→N b o)
  (hno:b.noObj=true∨ ∀i,g.κ i=none) (hμ: ∀i,i∈b.ids→ ∀b,g.μ i=some b→g'.μ (ρ i)=some b):BoxOK X w' N' g' k (b.ren keep ρ):=by
 cases b with
 |cells cs=>
  obtain ⟨cur,e,h1,h2,h3⟩:=h
  simp only [Box.ren,iL]
  refine ⟨cur,e,hk▸h1,by grind,fun j p hp=> ?_⟩
  simp only [List.getElem?_map,Option.map_eq_some_iff] at hp
  obtain ⟨q,hq,rfl⟩:=hp
  exact (h3 j q hq).ren keep ρ hw hN (hno.imp (fun h=>jt (by simpa [Box.noObj] using h) hq) id) fun i hi=>hμ i (by grind [Box.ids,fj])
 |map e l=>
  obtain ⟨en,cl,h1,h2,h3⟩:=h
  refine ⟨en,cl,hk▸h1,h2,fun j x t hx=> ?_⟩
  obtain ⟨m,vs,a,b,d,e,f⟩:=h3 j x t hx
  exact ⟨m,vs,a,b,d,e,fun k p hp=>(f k p hp).plain hw hN (X.eplain hp).1 (by rw [(X.eplain hp).2];simp)⟩
theorem ObOK.turn {w':World} {N N':aN} {g g':Gh U} {e:U.E} {l:List (U.El e)} {val:Value} {u:Use} {Do:Option Nat} (h:ObOK X w N g e l val u Do) (hk: ∀b,Do=some b→w'.heap[b]? =w.heap[b]?)
  (hw: ∀b o,b<w.heap.size→ ¬N b o→w'.cell? ⟨b,o,none⟩=w.cell? ⟨b,o,none⟩) (hN: ∀b o,b<w.heap.size→N' b o→N b o):ObOK X w' N' g' e l val u Do:=by
 obtain ⟨A,n,cp,hv,hl,hc,h1,h2⟩:=h.val
 refine ⟨A,n,cp,hv,hl,hc,fun j x hx k p hp=> ?_, ?_⟩
 ·obtain ⟨a,v,ha,hcell,hr,hn⟩:=h1 j x hx k p hp
  refine ⟨a,v,ha, ?_,hr.plain hw hN (X.eplain hp).1 (by rw [(X.eplain hp).2];simp),fun hD h'=> ?_⟩
  all_goals grind [World.cell?,Addr.add_block,Addr.add_off]
 grind
theorem KL: ∀ (gv:List Bool) (ps:List (PV U)) {σ:St U} {D:Nat→Option Nat} {k:List (PV U)→M U} {fp:List Loc},Sim X c tm w σ g D→(vs:Nat→Value)→(∀ (j:Nat) p,ps[j]? =some p→Rep X w (c.N g D) g (vs j) p)→(lQ gv ps k).Rel K σ fp r τ gp→
  ∃qs σ' D' fp',(k qs).Rel K σ' fp' r τ gp∧Frozen X c tm w g σ D σ' D'∧qs.length=ps.length∧(∀ (j:Nat) p,qs[j]? =some p→Rep X w (c.N g D') g (vs j) p):=by
 intro gv
 induction gv with
 |nil=>
  intro ps σ D k fp h vs hv hr
  simp only [lQ] at hr
  obtain ⟨qs,σ',D',fp',h1,h2,h3,h4,_⟩:=nr ps h vs hv hr
  grind
 |cons b gv ih=>
  intro ps σ D k fp h vs hv hr
  cases ps with
  |nil=>
   have hr':(k []).Rel K σ fp r τ gp:=by cases b<;>exact hr
   exact ⟨[],σ,D,fp,hr',.refl h,rfl,by simp⟩
  |cons p ps=>
   cases b with
   |true=>
    simp only [lQ] at hr
    obtain ⟨qs,σ',D',fp',h1,h2,h3,h4⟩:=ih ps h (fun j=>vs (j+1)) (fun j p hp=>hv (j+1) p (by grind)) hr
    refine ⟨p::qs,σ',D',fp',h1,h2,by simp [h3],fun j q hq=> ?_⟩
    cases j with
    |zero=>simp at hq;subst hq;exact h2.rep (hv 0 p rfl)
    |succ j=>grind
   |false=>
    simp only [lQ] at hr
    obtain ⟨q,σ1,D1,fp1,hr1,hF,hq,_⟩:=nu p h (hv 0 p rfl) hr
    obtain ⟨qs,σ',D',fp',h1,h2,h3,h4⟩:=ih ps hF.sim (fun j=>vs (j+1)) (fun j p hp=>hF.rep (hv (j+1) p (by grind))) hr1
    refine ⟨q::qs,σ',D',fp',h1,hF.trans h2,by simp [h3],fun j q' hq'=> ?_⟩
    cases j with
    |zero=>simp at hq';subst hq';exact h2.rep hq
    |succ j=>grind
theorem ac9: ∀ (n:Nat) (todo:List Nat) (acc:List (Nat×Box U)) {k:List (Nat×Box U)→M U} {fp:List Loc},(∀x∈acc,σ.b x.1=some x.2)→(lR n todo acc k).Rel K σ fp r τ gp→
  ∃bs fp',(k bs).Rel K σ fp' r τ gp∧ ∀x∈bs,σ.b x.1=some x.2:=by
 intro n
 induction n with
 |zero=>intro todo acc k fp _ hr;exact hr.elim
 |succ n ih=>
  intro todo acc k fp hacc hr
  cases todo with
  |nil=>exact ⟨acc,fp,hr,hacc⟩
  |cons id todo=>
   simp only [lR] at hr
   split at hr<;>grind [M.Rel]
def mG (X:Link V P) (w:World) (N:aN) (g:Gh U) (x:Nat×Box U):Prop:= ∃k,g.μ x.1=some k∧BoxOK X w N g k x.2
theorem Ew: ∀ (bs:List (Nat×Box U)) {σ:St U} {D:Nat→Option Nat} {k:List (Nat×Box U)→M U} {fp:List Loc},Sim X c tm w σ g D→(∀x∈bs,mG X w (c.N g D) g x)→(il bs k).Rel K σ fp r τ gp→
  ∃qs σ' D' fp',(k qs).Rel K σ' fp' r τ gp∧Frozen X c tm w g σ D σ' D'∧qs.map (·.1)=bs.map (·.1)∧(∀x∈qs,mG X w (c.N g D') g x):=by
 intro bs
 induction bs with
 |nil=>intro σ D k fp h _ hr;exact ⟨[],σ,D,fp,hr,.refl h,rfl,by simp⟩
 |cons x bs ih=>
  obtain ⟨id,b⟩:=x
  intro σ D k fp h hb hr
  cases b with
  |cells cs=>
   simp only [il] at hr
   obtain ⟨kb,hk,cur,e,b1,b2,b3⟩:=hb (id,.cells cs) (by simp)
   obtain ⟨cs',σ1,D1,fp1,hr1,hF,hl,hcs,_⟩:=nr cs h (fun j=>cur.getD j undef) b3 hr
   obtain ⟨qs,σ',D',fp',h1,h2,h3,h4⟩:=ih hF.sim (fun x hx=>by
    obtain ⟨k,hk,hbx⟩:=hb x (by simp [hx])
    exact ⟨k,hk,hbx.mono rfl (fun _ _ _ _=>rfl) (fun b o _ hn=>by
     rcases hn with hn|hn|⟨i,hi⟩
     ·exact .inl hn
     ·exact .inr (.inl hn)
     ·exact .inr (.inr ⟨i,hF.D i b hi⟩)) (Gh.le.refl g)⟩) hr1
   refine ⟨(id,.cells cs')::qs,σ',D',fp',h1,hF.trans h2,by simp [h3],fun x hx=> ?_⟩
   rcases List.mem_cons.1 hx with rfl|hx
   ·exact ⟨kb,hk,cur,e,b1,b2.trans hl.symm,fun j p hp=>h2.rep (hcs j p hp)⟩
   grind
  |map e l=>
   simp only [il] at hr
   obtain ⟨qs,σ',D',fp',h1,h2,h3,h4⟩:=ih h (fun x hx=>hb x (by simp [hx])) hr
   refine ⟨(id,.map e l)::qs,σ',D',fp',h1,h2,by simp [h3],fun x hx=> ?_⟩
   rcases List.mem_cons.1 hx with rfl|hx
   ·obtain ⟨k,hk,hbx⟩:=hb (id,.map e l) (by simp)
    exact ⟨k,hk,hbx.mono rfl (fun _ _ _ _=>rfl) (fun b o _ hn=>by
     rcases hn with hn|hn|⟨i,hi⟩
     ·exact .inl hn
     ·exact .inr (.inl hn)
     ·exact .inr (.inr ⟨i,h2.D i b hi⟩)) (Gh.le.refl g)⟩
   grind
end
end Go.Proofs.YtfkkpkhfjpaafaaGreatDoor.PI
namespace Go.Proofs.YtfkkpkhfjpaafaaGreatDoor.PI
open Go
set_option linter.unusedVariables false
set_option linter.unusedSimpArgs false
section
variable {U:Uni} {V:Env U} {P:Program} {X:Link V P} {K:cj U} {c:Ctx} {tm:Array Value} {w:World} {σ:St U} {g:Gh U} {D:Nat→Option Nat}
variable {r:MR U} {τ:St U} {fp gp:List Loc} {N:aN}
structure Spent (σ0 σ:St U) (G:List Nat):Prop where
 r: ∀n,σ.r n=σ0.r n
 b: ∀n,σ.b n=σ0.b n
 spent: ∀i∈G,∃ob,σ0.o i=some ob∧σ.o i=some ⟨ob.ver+1,ob.e,[]⟩∧σ.u i= .read
 other: ∀i,i∉G→σ.o i=σ0.o i∧σ.u i=σ0.u i
theorem Spent.refl (σ:St U):Spent σ σ []:=⟨fun _=>rfl,fun _=>rfl,by simp,fun _ _=>⟨rfl,rfl⟩⟩
theorem RepG.of {w:World} {g:Gh U} {v:Value} {p:PV U} (h:Rep X w N g v p):RepG X w N g v none p:=by
 cases p<;>first|exact h|cases h
theorem aiq {i:Nat} {ver:Nat} {w:World} {g:Gh U} {v:Value} (h:Rep X w N g v (.own i ver)) {nv:Nat} {e:U.E} {val:Value} (hk:g.κ i=some (nv,e,val)):ver≤nv:=by
 cases h<;>grind
theorem aip {w:World} {g:Gh U} {v:Value} {e:U.E} {l:List (U.El e)} (h:Rep X w N g v (.sl e l .nil)):v= .slice none 0 0:=by
 cases h<;>grind
theorem KR (h:Sim X c tm w σ g D): ∀ (gv:List Bool) (ps:List (PV U)) {σ1:St U} {G0:List Nat} {k:List (PV U)→M U} {fp:List Loc} (vs:Nat→Value),Spent σ σ1 G0→
  (∀ (j:Nat) p,ps[j]? =some p→Rep X w (c.N g D) g (vs j) p)→(kh gv ps k).Rel K σ1 fp r τ gp→
  ∃ (qs:List (PV U)) (σ':St U) (fp':List Loc) (G:List Nat) (δ:Nat→Option Nat),(k qs).Rel K σ' fp' r τ gp∧qs.length=ps.length∧Spent σ σ' (G++G0)∧(∀i∈G,i∉G0)∧(∀j b,δ j=some b→j<ps.length∧ ∃i∈G,D i=some b)∧
   (∀i j b,δ i=some b→δ j=some b→i=j)∧ ∀ (j:Nat) q,qs[j]? =some q→RepG X w (c.N g D) g (vs j) (δ j) q:=by
 intro gv
 have pass: ∀ (ps:List (PV U)) {σ1:St U} {G0:List Nat} {k:List (PV U)→M U} {fp:List Loc} (vs:Nat→Value),Spent σ σ1 G0→
   (∀ (j:Nat) p,ps[j]? =some p→Rep X w (c.N g D) g (vs j) p)→(k ps).Rel K σ1 fp r τ gp→ ∃ (qs:List (PV U)) (σ':St U) (fp':List Loc) (G:List Nat) (δ:Nat→Option Nat),(k qs).Rel K σ' fp' r τ gp∧qs.length=ps.length∧Spent σ σ' (G++G0)∧(∀i∈G,i∉G0)∧(∀j b,δ j=some b→j<ps.length∧ ∃i∈G,D i=some b)∧
   (∀i j b,δ i=some b→δ j=some b→i=j)∧ ∀ (j:Nat) q,qs[j]? =some q→RepG X w (c.N g D) g (vs j) (δ j) q:=by
  intro ps σ1 G0 k fp vs hs hv hr
  refine ⟨ps,σ1,fp,[],fun _=>none,hr,rfl,hs,by simp,by simp,by simp,fun j q hq=> ?_⟩
  exact RepG.of (hv j q hq)
 induction gv with
 |nil=>intro ps σ1 G0 k fp vs hs hv hr;exact pass ps vs hs hv (by cases ps<;>exact hr)
 |cons b gv ih=>
  intro ps σ1 G0 k fp vs hs hv hr
  cases ps with
  |nil=>exact pass [] vs hs hv (by cases b<;>exact hr)
  |cons p ps=>
   have step: ∀ {q:PV U} {σ2:St U} {G1:List Nat} {fp2:List Loc} {k':List (PV U)→M U} {δ0:Option Nat},k'=(fun rest=>k (q::rest))→Spent σ σ2 (G1++G0)→(∀i∈G1,i∉G0)→(∀b,δ0=some b→ ∃i∈G1,D i=some b)→RepG X w (c.N g D) g (vs 0) δ0 q→
     (kh gv ps k').Rel K σ2 fp2 r τ gp→ ∃ (qs:List (PV U)) (σ':St U) (fp':List Loc) (G:List Nat) (δ:Nat→Option Nat),(k qs).Rel K σ' fp' r τ gp∧qs.length=(p::ps).length∧Spent σ σ' (G++G0)∧(∀i∈G,i∉G0)∧(∀j b,δ j=some b→j<(p::ps).length∧ ∃i∈G,D i=some b)∧
      (∀i j b,δ i=some b→δ j=some b→i=j)∧ ∀ (j:Nat) q,qs[j]? =some q→RepG X w (c.N g D) g (vs j) (δ j) q:=by
    intro q σ2 G1 fp2 k' δ0 hk hs2 hG1 hδ0 hq hr2
    subst hk
    obtain ⟨qs,σ',fp',G,δ,h1,h2,h3,h4,h5,h6,h7⟩:=ih ps (fun j=>vs (j+1)) hs2 (fun j p hp=>hv (j+1) p (by grind)) hr2
    refine ⟨q::qs,σ',fp',G++G1,fun j=>if j=0 then δ0 else δ (j-1),h1,by simp [h2],by grind,fun i hi=> ?_,fun j b hb=> ?_,fun i j b hb hb'=> ?_,fun j q' hq'=> ?_⟩
    ·grind
    ·grind
    ·simp only at hb hb'
     split at hb<;>split at hb'
     ·omega
     ·obtain ⟨i1,hi1,hD1⟩:=hδ0 b hb
      obtain ⟨_,i2,hi2,hD2⟩:=h5 _ b hb'
      have:=h.dinj _ _ _ hD1 hD2
      grind
     ·obtain ⟨i1,hi1,hD1⟩:=hδ0 b hb'
      obtain ⟨_,i2,hi2,hD2⟩:=h5 _ b hb
      have:=h.dinj _ _ _ hD1 hD2
      grind
     grind
    grind
   cases b with
   |false=>
    simp only [kh] at hr
    have h0:=hv 0 p rfl
    refine step (δ0:=none) rfl (G1:=[]) hs (by simp) (by simp) (RepG.of h0) hr
   |true=>
    simp only [kh] at hr
    split at hr
    ·rename_i i ver
     obtain ⟨ob,fp2,hob,hver,hr2⟩:=mF hr
     simp only [M.Rel] at hr2
     have h0:=hv 0 _ rfl
     by_cases hG:i∈G0
     ·obtain ⟨ob0,ho0,ho1,_⟩:=hs.spent i hG
      rw [ho1] at hob
      injection hob with hob
      subst hob
      obtain ⟨val,hk,_⟩:=h.objs i ob0 ho0
      have:=aiq h0 hk
      grind
     ·obtain ⟨q1,q2⟩:=hs.other i hG
      rw [q2] at hr2
      rw [q1] at hob
      have hO:=GV h h0 hob hver
      cases hu:σ.u i with
      |read=>rw [hu] at hr2;exact hr2.elim
      |app=>rw [hu] at hr2;exact hr2.elim
      |wr=>
       rw [hu] at hr2 hO
       refine step (G1:=[i]) (δ0:=D i) (q:= .fresh ob.e ob.l) (σ2:=(σ1.setO i ⟨ob.ver+1,ob.e,[]⟩).setU i .read) rfl ⟨hs.r,hs.b,fun j hj=> ?_,fun j hj=> ?_⟩ (fun j hj=>by grind) (fun b hb=>⟨i,by simp,hb⟩) hO hr2
       ·simp only [List.cons_append,List.nil_append,List.mem_cons] at hj
        by_cases hji:j=i
        ·subst hji
         exact ⟨ob,hob,by simp,by simp⟩
        ·obtain ⟨ob',a1,a2,a3⟩:=hs.spent j (hj.resolve_left hji)
         exact ⟨ob',a1,by simpa [Ne.symm hji] using a2,by simpa [Ne.symm hji] using a3⟩
       ·simp only [List.cons_append,List.nil_append,List.mem_cons,not_or] at hj
        obtain ⟨a1,a2⟩:=hs.other j hj.2
        exact ⟨by simpa [Ne.symm hj.1] using a1,by simpa [Ne.symm hj.1] using a2⟩
    ·rename_i e
     have h0:=hv 0 _ rfl
     refine step (δ0:=none) (q:= .fresh e []) rfl (G1:=[]) hs (by simp) (by simp) ?_ hr
     exact ⟨none,0,0,aip h0,rfl,Nat.le_refl _,by simp,fun _=>⟨rfl,rfl,rfl⟩,fun h=>by cases h⟩
    ·exact hr.elim
theorem R0: ∀ (l:List (Nat×Box U)) {σ:St U} {m:M U} {fp:List Loc},(wc l m).Rel K σ fp r τ gp→ ∃σ' fp',m.Rel K σ' fp' r τ gp∧(∀n,σ'.r n=σ.r n)∧(∀i,σ'.o i=σ.o i)∧(∀i,σ'.u i=σ.u i)∧
  (∀id,id∉l.map (·.1)→σ'.b id=σ.b id)∧((l.map (·.1)).Nodup→ ∀x∈l,σ'.b x.1=some x.2):=by
 intro l
 induction l with
 |nil=>intro σ m fp hr;exact ⟨σ,fp,hr,fun _=>rfl,fun _=>rfl,fun _=>rfl,fun _ _=>rfl,by simp⟩
 |cons x l ih=>
  obtain ⟨id,b⟩:=x
  intro σ m fp hr
  simp only [wc,M.Rel] at hr
  obtain ⟨σ',fp',h1,h2,h3,h4,h5,h6⟩:=ih hr
  refine ⟨σ',fp',h1,h2,h3,h4,fun id' hid=> ?_,fun hnd y hy=> ?_⟩
  all_goals grind [St.setB_b]
theorem ac5: ∀ (l:List Nat) {m:M U} {fp:List Loc},(z_ l m).Rel K σ fp r τ gp→(∀id∈l,σ.b id=none∧id<1000000)∧ ∃fp',m.Rel K σ fp' r τ gp:=by
 intro l
 induction l with
 |nil=>intro m fp hr;exact ⟨by simp,fp,hr⟩
 |cons id l ih=>
  intro m fp hr
  simp only [z_,M.Rel] at hr
  split at hr
  ·rename_i hb
   cases hlt:Nat.blt id 1000000 with
   |false=>rw [hlt] at hr;exact hr.elim
   |true=>
   rw [hlt] at hr
   obtain ⟨h1,h2⟩:=ih hr
   simp_all
  ·exact hr.elim
theorem AG: ∀ {l:List Nat} {i:Nat},i∈l→l[bt l i]? =some i∧bt l i<l.length:=by
 intro l
 induction l with
 |nil=>simp
 |cons m l ih=>
  intro i h
  simp only [bt]
  cases hb:Nat.beq m i with
  |true=>
   simp_all
  |false=>
   have hne:i≠m:=fun e=>by simp_all
   grind
theorem AH: ∀ {l:List Nat},l.Nodup→ ∀ {j i:Nat},l[j]? =some i→bt l i=j:=by
 intro l
 induction l with
 |nil=>simp
 |cons m l ih=>
  intro hn j i h
  simp only [List.nodup_cons] at hn
  simp only [bt]
  cases j with
  |zero=>simp_all
  |succ j=>
   have h':l[j]? =some i:=by grind
   have hne:m≠i:=fun e=>hn.1 (e▸List.mem_of_getElem? h')
   have hb:Nat.beq m i=false:=by
    cases hq:Nat.beq m i<;>simp_all
   grind
theorem NO: ∀ (n s k:Nat),k<n→(cK s n)[k]? =some (s+k):=by
 intro n
 induction n<;>grind [cK]
theorem AB: ∀ (n s:Nat),(cK s n).length=n:=by
 intro n
 induction n<;>grind [cK]
theorem agV: ∀ (n s:Nat),(cK s n).Nodup∧ ∀i∈cK s n,s≤i:=by
 intro n
 induction n<;>grind [cK]
end
end Go.Proofs.YtfkkpkhfjpaafaaGreatDoor.PI
namespace Go.Proofs.YtfkkpkhfjpaafaaGreatDoor.PI
open Go
set_option linter.unusedVariables false
set_option linter.unusedSimpArgs false
section
variable {U:Uni} {V:Env U} {P:Program} {X:Link V P} {K:cj U} {c:Ctx} {tm:Array Value} {w:World} {σ:St U} {g:Gh U} {D:Nat→Option Nat}
def ee (N:aN) (n:Nat) (ν:Nat→Nat) (δ:Nat→Option Nat):aN:=fun b o=>N b o∧(∀k,k<n→ν k≠b)∧ ∀j,δ j≠some b
theorem Jw {N:aN} {n:Nat} {ν:Nat→Nat} {δ:Nat→Option Nat} (h1: ∀k o,k<n→N (ν k) o) (h2: ∀j b o,δ j=some b→N b o):NB (ee N n ν δ) n ν δ=N:=by
 funext b o
 apply propext
 constructor
 ·rintro (h|⟨k,hk,rfl⟩|⟨j,hj⟩)
  ·exact h.1
  ·exact h1 k o hk
  ·exact h2 j b o hj
 ·intro h
  by_cases ha: ∃k,k<n∧ν k=b
  ·exact .inr (.inl ha)
  ·by_cases hb: ∃j,δ j=some b
   ·exact .inr (.inr hb)
   ·exact .inl ⟨h,fun k hk e=>ha ⟨k,hk,e⟩,fun j e=>hb ⟨j,e⟩⟩
theorem Jg (h:Sim X c tm w σ g D) {b o:Nat} (hn:(c.N g D) b o):b<w.heap.size:=by
 rcases hn with hn|⟨id,hid⟩|⟨i,hi⟩
 ·exact Nat.lt_of_lt_of_le (c.n0 _ _ hn).1 h.ext.size
 ·exact (h.new id b hid).1
 ·exact (h.dnew i b hi).1
theorem Sim.called (h:Sim X c tm w σ g D) {w':World} {σ':St U} {ids new G:List Nat} {ν ν':Nat→Nat} {δ δ':Nat→Option Nat} {cs:List (Box U)} {m d:Nat} {fo:Option (Ob U)} {fval:Value} {fD:Option Nat}
  (hnd:(ids++new).Nodup) (hlen:(ids++new).length=cs.length) (hν: ∀ (k:Nat) id,ids[k]? =some id→g.μ id=some (ν k)) (hnew: ∀id∈new,σ.b id=none) (hlow: ∀id∈new,id<1000000)
  (hδ: ∀j b,δ j=some b→ ∃i∈G,D i=some b)
  (hG: ∀i∈G,∃ob,σ.o i=some ob∧(fo=none∨i≠d→σ'.o i=some ⟨ob.ver+1,ob.e,[]⟩∧σ'.u i= .read))
  (hother: ∀i,i∉G→(fo=none∨i≠d)→σ'.o i=σ.o i∧σ'.u i=σ.u i)
  (hfo: ∀ob,fo=some ob→σ'.o d=some ob∧σ'.u d= .wr∧(∀ob0,σ.o d=some ob0→ob0.ver<ob.ver)∧ObOK X w' (NB (ee (c.N g D) ids.length ν δ) cs.length ν' δ') (gB U cs.length ν') ob.e ob.l fval .wr fD)
  (hfD: ∀b,fD=some b→ ∃j,δ' j=some b) (hfN:fo=none→fD=none)
  (hr: ∀n,σ'.r n=σ.r n) (hbo: ∀id,id∉ids++new→σ'.b id=σ.b id) (hbn: ∀ (k:Nat) id b,(ids++new)[k]? =some id→cs[k]? =some b→σ'.b id=some (b.ren true fun i=>(ids++new).getD i 0))
  (back:Back X w w' (ee (c.N g D) ids.length ν δ) ν δ ids.length m ν' δ' cs):
  ∃g' D',Sim X c tm w' σ' g' D'∧(∀v p,Rep X w' (NB (ee (c.N g D) ids.length ν δ) cs.length ν' δ') (gB U cs.length ν') v p→Rep X w' (c.N g' D') g' v (p.ren true fun i=>(ids++new).getD i 0))∧
   ∀ob,fo=some ob→g'.κ d=some (ob.ver,ob.e,fval):=by
 have hin: ∀id,id∈ids++new→ ∃k,k<cs.length∧(ids++new)[k]? =some id∧bt (ids++new) id=k:=by
  intro id hid
  obtain ⟨h1,h2⟩:=AG hid
  exact ⟨_,by omega,h1,rfl⟩
 have hidsν: ∀id∈ids,g.μ id=some (ν' (bt (ids++new) id)):=by
  intro id hid
  obtain ⟨k,hk⟩:=List.mem_iff_getElem?.1 hid
  have hk2:(ids++new)[k]? =some id:=by rw [List.getElem?_append_left (List.getElem?_eq_some_iff.1 hk).1];exact hk
  rw [AH hnd hk2,back.old k (List.getElem?_eq_some_iff.1 hk).1]
  exact hν k id hk
 have hfree: ∀id∈new,g.μ id=none:=fun id hid=>h.free (hnew id hid)
 have hnewν: ∀id∈new,w.heap.size≤ν' (bt (ids++new) id)∧ids.length≤bt (ids++new) id:=by
  intro id hid
  obtain ⟨k,hk⟩:=List.mem_iff_getElem?.1 hid
  have hk2:(ids++new)[ids.length+k]? =some id:=by rw [List.getElem?_append_right (by omega)];simpa using hk
  rw [AH hnd hk2]
  have:=(List.getElem?_eq_some_iff.1 hk2).1
  exact ⟨back.new _ (by omega) (by omega),by omega⟩
 let g':Gh U:={μ:=fun id=>if id∈ids++new then some (ν' (bt (ids++new) id)) else g.μ id,κ:=fun j=>if j=d∧fo.isSome=true then fo.map (fun ob=>(ob.ver,ob.e,fval)) else if j∈G then (σ.o j).map (fun ob=>(ob.ver+1,ob.e,.slice none 0 0)) else g.κ j}
 let D':Nat→Option Nat:=fun j=>if j=d∧fo.isSome=true then fD else if j∈G then none else D j
 have hμin: ∀id,id∈ids++new→g'.μ id=some (ν' (bt (ids++new) id)):=fun id hid=>by simp only [g'];rw [if_pos hid]
 have hμout: ∀id,id∉ids++new→g'.μ id=g.μ id:=fun id hid=>by simp only [g'];rw [if_neg hid]
 have hlt': ∀id,id∈ids++new→bt (ids++new) id<cs.length:=fun id hid=>by obtain ⟨k,h1,_,h2⟩:=hin id hid;omega
 have hκ: ∀i ver e val,g.κ i=some (ver,e,val)→ ∃ob,σ.o i=some ob∧ob.ver=ver:=by
  intro i ver e val hk
  cases ho:σ.o i with
  |none=>have:=(h.nobj i ho).1;rw [hk] at this;cases this
  |some ob=>
   obtain ⟨v1,h1,_⟩:=h.objs i ob ho
   rw [hk] at h1
   injection h1 with h1
   injection h1 with h1 _
   exact ⟨ob,rfl,h1.symm⟩
 have hle:g.le g':=by
  refine ⟨fun id b hb=> ?_,fun i ver e val hk=> ?_⟩
  ·by_cases hid:id∈ids++new
   ·rw [hμin id hid]
    rcases List.mem_append.1 hid with hid|hid
    ·rw [←hidsν id hid];exact hb
    ·rw [hfree id hid] at hb;cases hb
   ·rw [hμout id hid];exact hb
  ·obtain ⟨ob,ho,hv⟩:=hκ i ver e val hk
   simp only [g']
   by_cases hid:i=d∧fo.isSome=true
   ·obtain ⟨ob',hfo'⟩:=Option.isSome_iff_exists.1 hid.2
    have:=(hfo ob' hfo').2.2.1 ob (hid.1▸ho)
    exact ⟨_,_,_,by rw [if_pos hid,hfo'];rfl,by omega,fun e=>by omega⟩
   ·rw [if_neg hid]
    by_cases hiG:i∈G
    ·exact ⟨_,_,_,by rw [if_pos hiG,ho];rfl,by omega,fun e=>by omega⟩
    ·exact ⟨ver,e,val,by rw [if_neg hiG];exact hk,Nat.le_refl _,fun _=>⟨rfl,rfl⟩⟩
 have hDd: ∀j b,D' j=some b→(j=d∧fo.isSome=true∧fD=some b)∨(¬ (j=d∧fo.isSome=true)∧j∉G∧D j=some b):=by
  intro j b hb
  simp only [D'] at hb
  split at hb
  ·rename_i hj;exact .inl ⟨hj.1,hj.2,hb⟩
  ·split at hb
   ·cases hb
   ·rename_i h1 h2;exact .inr ⟨h1,h2,hb⟩
 have hboxb: ∀k,k<ids.length→ ∃id,ids[k]? =some id∧g.μ id=some (ν k):=fun k hk=>⟨ids[k],List.getElem?_eq_getElem hk,hν k _ (List.getElem?_eq_getElem hk)⟩
 have hsub: ∀b o,(c.N g' D') b o→(NB (ee (c.N g D) ids.length ν δ) cs.length ν' δ') b o:=by
  rintro b o (hn|⟨id,hid⟩|⟨j,hj⟩)
  ·refine .inl ⟨.inl hn,fun k hk e=> ?_,fun j e=> ?_⟩
   ·obtain ⟨id,_,hid⟩:=hboxb k hk
    rw [e] at hid
    have h1:=c.n0 _ _ hn
    rcases (h.new id b hid).2 with h2|h2
    ·exact h1.2 h2
    ·omega
   ·obtain ⟨i,_,hi⟩:=hδ j b e
    have h1:=c.n0 _ _ hn
    rcases (h.dnew i b hi).2 with h2|h2
    ·exact h1.2 h2
    ·omega
  ·by_cases hm:id∈ids++new
   ·rw [hμin id hm] at hid
    injection hid with hid
    exact .inr (.inl ⟨_,hlt' id hm,hid⟩)
   ·rw [hμout id hm] at hid
    refine .inl ⟨.inr (.inl ⟨id,hid⟩),fun k hk e=> ?_,fun j e=> ?_⟩
    ·obtain ⟨id',hid',hμ'⟩:=hboxb k hk
     rw [e] at hμ'
     have:=h.inj _ _ _ hid hμ'
     subst this
     exact hm (List.mem_append.2 (.inl (List.mem_of_getElem? hid')))
    ·obtain ⟨i,_,hi⟩:=hδ j b e
     exact h.dbox i id b hi hid
  ·rcases hDd j b hj with ⟨_,_,hf⟩|⟨_,hjG,hDj⟩
   ·obtain ⟨q,hq⟩:=hfD b hf
    exact .inr (.inr ⟨q,hq⟩)
   ·refine .inl ⟨.inr (.inr ⟨j,hDj⟩),fun k hk e=> ?_,fun q e=> ?_⟩
    ·obtain ⟨id',hid',hμ'⟩:=hboxb k hk
     rw [e] at hμ'
     exact h.dbox j id' b hDj hμ'
    ·obtain ⟨i,hi,hDi⟩:=hδ q b e
     have:=h.dinj _ _ _ hDj hDi
     subst this
     exact hjG hi
 have htrans: ∀v p,Rep X w' (NB (ee (c.N g D) ids.length ν δ) cs.length ν' δ') (gB U cs.length ν') v p→Rep X w' (c.N g' D') g' v (p.ren true fun i=>(ids++new).getD i 0):=by
  intro v p hp
  refine hp.ren true _ (fun _ _ _ _=>rfl) (fun b o _ hn=>hsub b o hn) (.inr fun _=>rfl) fun i hi b hb=> ?_
  simp only [gB] at hb
  split at hb
  ·rename_i hil
   injection hb with hb
   have hget:(ids++new)[i]? =some ((ids++new).getD i 0):=by rw [List.getD_eq_getElem?_getD,List.getElem?_eq_getElem (by omega)];rfl
   have hm:=List.mem_of_getElem? hget
   rw [hμin _ hm,AH hnd hget,hb]
  ·cases hb
 refine ⟨g',D',h.move (fun id=>id∈ids++new) (fun j=>j∈G∨(j=d∧fo.isSome=true)) back.ext.os back.ext.tape back.ext.output back.ext.size (fun b hb h1 h2=> ?_) hr hle (fun id k hk=> ?_) (fun id k h1 hk=> ?_) (fun id id' k h1 hk hk'=> ?_) (fun id hid=>⟨hbo id hid,hμout id hid⟩)
  (fun id b hid hb=> ?_) (fun id k hid hk=> ?_) (fun j b hb=> ?_) (fun j j' b hj hb hb'=> ?_) (fun j b hj hb id hid=> ?_) (fun j hj=> ?_) (fun j ob hj ho=> ?_) (fun j hj ho=> ?_),htrans,fun ob hob=> ?_⟩
 ·refine back.ext.block b hb fun hm=> ?_
  rcases List.mem_append.1 hm with hm|hm
  ·obtain ⟨k,hk,rfl⟩:=List.mem_map.1 hm
   obtain ⟨id,hid,hμ'⟩:=hboxb k (List.mem_range.1 hk)
   exact h1 id (List.mem_append.2 (.inl (List.mem_of_getElem? hid))) hμ'
  ·obtain ⟨j,_,hj⟩:=List.mem_filterMap.1 hm
   obtain ⟨i,hi,hDi⟩:=hδ j b hj
   exact h2 i (.inl hi) hDi
 ·by_cases hid:id∈ids++new
  ·rw [hμin id hid] at hk
   injection hk with hk
   rcases List.mem_append.1 hid with h1|h1
   ·exact .inl (hk▸hidsν id h1)
   ·refine .inr ⟨hfree id h1, ?_, ?_⟩
    ·rw [←hk];exact (hnewν id h1).1
    ·rw [←hk];exact back.bnd.lt _ (hlt' id hid)
  ·rw [hμout id hid] at hk;exact .inl hk
 ·by_cases hid:id∈ids++new
  ·rcases List.mem_append.1 hid with h2|h2
   ·rw [hidsν id h2] at h1;cases h1
   ·have:=hlow id h2
    cases hf:c.fix id with
    |none=>rfl
    |some k=>have:=(c.low id k hf).1;omega
  ·rw [hμout id hid,h1] at hk;cases hk
 ·by_cases hid:id∈ids++new
  ·rw [hμin id hid] at hk
   injection hk with hk
   by_cases hid':id'∈ids++new
   ·rw [hμin id' hid'] at hk'
    injection hk' with hk'
    have hp:=back.bnd.inj _ _ (hlt' id hid) (hlt' id' hid') (hk.trans hk'.symm)
    have e1:=(AG hid).1
    have e2:=(AG hid').1
    rw [hp,e2] at e1
    injection e1 with e1
    exact e1.symm
   ·rw [hμout id' hid'] at hk'
    exfalso
    rcases List.mem_append.1 hid with h2|h2
    ·rw [hidsν id h2] at h1;cases h1
    ·have:=(hnewν id h2).1
     have:=(h.new id' k hk').1
     omega
  ·rw [hμout id hid,h1] at hk;cases hk
 ·obtain ⟨k,hk,hget,hpl⟩:=hin id hid
  refine ⟨_,hμin id hid, ?_⟩
  have hcs:cs[k]? =some cs[k]:=List.getElem?_eq_getElem hk
  have:=hbn k id _ hget hcs
  rw [this] at hb
  injection hb with hb
  subst hb
  rw [hpl]
  refine (back.boxes k _ hcs).ren true _ rfl (fun _ _ _ _=>rfl) (fun b o _ hn=>hsub b o hn) (.inr fun _=>rfl) fun i hi b hb=> ?_
  simp only [gB] at hb
  split at hb
  ·rename_i hil
   injection hb with hb
   have hget:(ids++new)[i]? =some ((ids++new).getD i 0):=by rw [List.getD_eq_getElem?_getD,List.getElem?_eq_getElem (by omega)];rfl
   have hm:=List.mem_of_getElem? hget
   rw [hμin _ hm,AH hnd hget,hb]
  ·cases hb
 ·obtain ⟨k,hk',hget,_⟩:=hin id hid
  exact ⟨_,hbn k id _ hget (List.getElem?_eq_getElem hk')⟩
 ·rcases hDd j b hb with ⟨hj,hs,hf⟩|⟨h1,h2,h3⟩
  ·obtain ⟨q,hq⟩:=hfD b hf
   rcases back.dnew q b hq with h1|⟨q',h1⟩
   ·exact .inr (.inr ⟨h1,back.bnd.dlt q b hq⟩)
   ·obtain ⟨i,hi,hDi⟩:=hδ q' b h1
    exact .inr (.inl ⟨i,.inl hi,hDi⟩)
  ·exact .inl ⟨by rintro (h|h);exact h2 h;exact h1 h,h3⟩
 ·rcases hDd j b hb with ⟨hj1,hs,hf⟩|⟨h1,h2,h3⟩
  ·rcases hDd j' b hb' with ⟨hj1',_,_⟩|⟨h1',h2',h3'⟩
   ·rw [hj1,hj1']
   ·exfalso
    obtain ⟨q,hq⟩:=hfD b hf
    rcases back.dnew q b hq with h4|⟨q',h4⟩
    ·have:=(h.dnew j' b h3').1;omega
    ·obtain ⟨i,hi,hDi⟩:=hδ q' b h4
     have:=h.dinj _ _ _ h3' hDi
     subst this
     exact h2' hi
  ·rcases hj with hj|hj
   ·exact absurd hj h2
   ·exact absurd hj h1
 ·rcases hDd j b hb with ⟨hj1,hs,hf⟩|⟨h1,h2,h3⟩
  ·obtain ⟨q,hq⟩:=hfD b hf
   by_cases hm:id∈ids++new
   ·rw [hμin id hm] at hid
    injection hid with hid
    exact back.bnd.dν q b hq _ (hlt' id hm) hid
   ·rw [hμout id hm] at hid
    rcases back.dnew q b hq with h4|⟨q',h4⟩
    ·have:=(h.new id b hid).1;omega
    ·obtain ⟨i,hi,hDi⟩:=hδ q' b h4
     exact h.dbox i id b hDi hid
  ·rcases hj with hj|hj
   ·exact absurd hj h2
   ·exact absurd hj h1
 ·have h1:j∉G:=fun h=>hj (.inl h)
  have h2: ¬ (j=d∧fo.isSome=true):=fun h=>hj (.inr h)
  have h3:fo=none∨j≠d:=by
   cases hfo':fo with
   |none=>exact .inl rfl
   |some ob=>exact .inr fun e=>h2 ⟨e,by rw [hfo'];rfl⟩
  obtain ⟨a1,a2⟩:=hother j h1 h3
  exact ⟨a1,a2,by simp only [D'];rw [if_neg h2,if_neg h1],by simp only [g'];rw [if_neg h2,if_neg h1]⟩
 ·by_cases hjd:j=d∧fo.isSome=true
  ·obtain ⟨ob',hfo'⟩:=Option.isSome_iff_exists.1 hjd.2
   obtain ⟨a1,a2,a3,a4⟩:=hfo ob' hfo'
   obtain ⟨rfl,hs⟩:=hjd
   rw [a1] at ho
   injection ho with ho
   subst ho
   refine ⟨fval,by simp [g',hfo'], ?_⟩
   rw [a2,show D' j=fD by simp [D',hs]]
   exact a4.turn (fun _ _=>rfl) (fun _ _ _ _=>rfl) (fun b o _ hn=>hsub b o hn)
  ·have hjG:j∈G:=hj.resolve_right hjd
   have h3:fo=none∨j≠d:=by
    cases hfo':fo with
    |none=>exact .inl rfl
    |some ob=>exact .inr fun e=>hjd ⟨e,by rw [hfo'];rfl⟩
   obtain ⟨ob0,b1,b2⟩:=hG j hjG
   obtain ⟨b2,b3⟩:=b2 h3
   rw [b2] at ho
   injection ho with ho
   subst ho
   refine ⟨.slice none 0 0,by simp only [g'];rw [if_neg hjd,if_pos hjG,b1];rfl, ?_⟩
   rw [b3,show D' j=none by simp only [D'];rw [if_neg hjd,if_pos hjG]]
   exact ⟨none,0,0,rfl,rfl,Nat.le_refl _,by simp,by simp⟩
 ·exfalso
  by_cases hjd:j=d∧fo.isSome=true
  ·obtain ⟨ob',hfo'⟩:=Option.isSome_iff_exists.1 hjd.2
   have:=(hfo ob' hfo').1
   rw [←hjd.1,ho] at this;cases this
  ·have hjG:j∈G:=hj.resolve_right hjd
   have h3:fo=none∨j≠d:=by
    cases hfo':fo with
    |none=>exact .inl rfl
    |some ob=>exact .inr fun e=>hjd ⟨e,by rw [hfo'];rfl⟩
   obtain ⟨ob0,b1,b2⟩:=hG j hjG
   rw [(b2 h3).1] at ho;cases ho
 ·simp [g',hob]
end
end Go.Proofs.YtfkkpkhfjpaafaaGreatDoor.PI
