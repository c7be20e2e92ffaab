/- Part 1 of a proof: the sources, with their names and remarks, lie in wip/. -/
import Derived.Test.YtlidjlacmpaefaaGreatDoorX0
import Derived.Laws.AppendOwn
import Derived.Laws.Small
import Derived.Calls
open Array renaming getD_eq_getD_getElem?→ct
open Bool renaming and_eq_true→aj
open Go.Result renaming andThen_ok→bq
open Go.Sem renaming run_bind→bu,run_pure→b9
open List renaming all_eq_true→bW,append_nil→ei,getElem?_append_right→fJ,getElem?_eq_getElem→bP,getElem?_eq_some_iff→bS,getElem?_map→ej,length→dH,length_map→e_,map_cons→ek,mem_append→cP,mem_cons→cu,mem_map→ck,mem_of_getElem?→dk
open Nat renaming beq→ac,ble→a7,blt→cG,le_of_ble_eq_true→eI,le_refl→b7,le_trans→dI,lt_of_lt_of_le→eJ,mul_le_mul_right→fK,zero_add→b8
open Option renaming bind_some→bB,map_eq_some_iff→fL
set_option linter.unusedVariables false
set_option linter.unusedSimpArgs false
namespace Go.Proofs.YtlidjlacmpaefaaGreatDoor.PI
open Go
section
variable {U:Uni} {V:Env U} {P:Program} {X:Link V P} {K:bA U} {S:Side U} {c:Ctx} {a:Act} {w:World} {σ:St U} {g:Gh U} {D:Nat->Option Nat}
variable {next:Act->World->Prop} {Q:Exit->Act->World->Prop} {r:MR U} {τ:St U} {fp gp:List Loc} {N:az}
variable {dst:Option Tmp} {ty:TypeId} {pos:String} {after:Array Edge} {gd:Option (Nat×Bool)}
theorem oC {A:Option Addr} {n cp:Nat} {e:U.E} {l:List (U.El e)} {o o':Own} {lo hi m:Nat} (h:Rep X w N g (.slice A n cp) (.sl e l o)) (h1:lo<=hi) (h2:hi<=l.length) (h3:hi<=m)
  (ho':o'= .none\/(o'= .full/\hi=m)):Rep X w N g (sliced A lo hi m (X.esize e)) (.sl e ((l.take hi).drop lo) o'):=by
 cases h with
 |sl _ _ _ _ _ _ val hl hc ho r1 r2=>
  unfold sliced
  have hget: ∀ (j:Nat) x,((l.take hi).drop lo)[j]? =some x->l[lo+j]? =some x/\lo+j<hi:=by
   grind
  refine .sl _ _ _ e _ o' (fun j k=>val (lo+j) k) (by grind) (by omega) (by grind) (fun j x hx k p hp=> ?_) fun j x hx k p hp=> ?_
  all_goals grind [Addr.add_add,Addr.add_block,Addr.add_off]
theorem yl (X:Link V P) {t:TypeId} {e:U.E} (h:V.isEl t e=true) (x:Value) (lo hi mx:Option Value) (w:World):
  (Instr.sliceAt t x lo hi mx).run P w=(Instr.slice t x lo hi mx).run P w:=by
 simp [Instr.sliceAt,run_underlying (ju X h).1]
theorem nu (X:Link V P) {t:TypeId} {e:U.E} (h:V.isEl t e=true):P.elem t=X.etid e/\P.underlying t=some (.slice (P.elem t)):=by
 grind [ju,Program.elem]
theorem p9 (h:Sim X c a.tmps w σ g D) {x:Option Operand} {t:TypeId} {k:Option (PV U)->M U} {fp:List Loc} (hr:(nB V x t k).Rel K σ fp r τ gp):
  ∃v fp',(k v).Rel K σ fp' r τ gp/\(v=none->x.map a.eval=none)/\(∀p,v=some p-> ∃u,x.map a.eval=some u/\Rep X w (c.N g D) g u p):=by
 cases x with
 |none=>exact ⟨none,fp,hr,fun _=>rfl,by simp⟩
 |some x=>
  obtain ⟨v,fp',hv,hr'⟩:=bv h hr
  grind
theorem Gp {t:TypeId} {x:Operand} {lo hi mx:Option Operand} (hd:aW c.nt ⟨dst,.slice t x lo hi mx,ty,pos,after,gd⟩=true) (h:Sim X c a.tmps w σ g D) (hr:(bh V S ⟨dst,.slice t x lo hi mx,ty,pos,after,gd⟩).Rel K σ fp r τ gp)
  (ht:Then X c a r τ next Q):(⟨dst,.slice t x lo hi mx,ty,pos,after,gd⟩:Oper).wp P a w next Q:=by
 obtain ⟨p,fp1,hp,hr1⟩:=bv h hr
 obtain ⟨l1,fp2,hr2,hl1,hl1'⟩:=p9 h hr1
 obtain ⟨l2,fp3,hr3,hl2,hl2'⟩:=p9 h hr2
 obtain ⟨l3,fp4,hr4,hl3,hl3'⟩:=p9 h hr3
 unfold yM at hr4
 obtain ⟨q,σ1,D1,fp5,hr5,hF,hq,_⟩:=gC p h hp hr4
 split at hr5
 case h_3=>exact hr5.elim
 case h_2=>
  rename_i n0 m0 cs o0 _hx
  split at hr5
  case h_2=>exact hr5.elim
  rename_i e kh hh km mm he
  cases hE:ac (V.esz e) m0 with
  |false=>rw [hE] at hr5;exact hr5.elim
  |true=>
   rw [hE] at hr5
   simp only [cond_true] at hr5
   have hw:V.esz e=m0:=by simpa using hE
   rw [X.esz] at hw
   subst hw
   have hI:V.isEl t e=true:=by simp [Env.isEl,he]
   have hq':=hq
   generalize he':a.eval x=ev at hq
   cases hq with
   |psl A _ cp _ _ _ val hl hc ho r1 r2=>
    have hel:=(nu X hI).1
    have hu:=(nu X hI).2
    obtain ⟨hm,hr6⟩:=dJ hr5
    obtain ⟨hb,hr7⟩:=dJ hr6
    subst hm
    have e1:=hl1 rfl
    obtain ⟨u2,e2,e2'⟩:=hl2' _ rfl
    obtain ⟨u3,e3,e3'⟩:=hl3' _ rfl
    rw [bV e2'] at e2
    rw [bV e3'] at e3
    have hrun:=run_slice_hm w t A n0 cp hu kh km hh hh hb.1 (Int.le_refl _) (by omega)
    refine aX hd ht hF.sim (v:=sliced A 0 hh.toNat hh.toNat (X.esize e)) ?_ ?_ hr7
    ·rw [hel,gO X e] at hrun
     simp only [execOp,bu,he',yl X hI,e1,e2,e3,hrun,bq,b9]
    ·unfold sliced
     refine .psl _ _ _ _ _ true val (by
      have:hh.toNat*X.esize e<=n0*X.esize e:=fK _ (by omega)
      rw [List.length_take,Nat.sub_zero,hl];omega) (by omega) (fun _=>rfl) (fun q p hp=> ?_) fun q p hp=> ?_
     ·have hp':cs[q]? =some p:=by grind
      have h0:hh.toNat≠0:=by
       intro h0
       rw [h0,Nat.zero_mul] at hp
       simp at hp
      obtain ⟨b,hb1,hb2,hb3⟩:=r1 q p hp'
      subst hb1
      refine ⟨b, ?_,hb2,hb3⟩
      rw [if_neg h0,Option.map_some,Nat.zero_mul,Addr.add_zero]
     ·exact r2 q p (by grind)
 rename_i e l o _hx
 cases hE:V.isEl t e with
 |false=>rw [hE] at hr5;exact hr5.elim
 |true=>
  rw [hE] at hr5
  simp only [cond_true] at hr5
  have hq':=hq
  generalize he:a.eval x=ev at hq
  cases hq with
  |sl A n cp _ _ _ val hl hc ho r1 r2=>
   rw [he] at hq'
   have hel:=(nu X hE).1
   have hu:=(nu X hE).2
   have hint: ∀ {y:Option Operand} {l:Option (PV U)} {k:IntKind} {i:Int},(∀p,l=some p-> ∃u,y.map a.eval=some u/\Rep X w (c.N g D) g u p)->l=some (.int k i)->y.map a.eval=some (.int k i):=by
    grind [bV]
   have run: ∀ {lo' hi' m':Nat},(Instr.slice t (.slice A n cp) (lo.map a.eval) (hi.map a.eval) (mx.map a.eval)).run P w=((sizeOf (P.elem t)).run P w).andThen (fun s w=> .ok (sliced A lo' hi' m' s) w)->
     (execOp a.eval ⟨dst,.slice t x lo hi mx,ty,pos,after,gd⟩).run P w= .ok (.value (sliced A lo' hi' m' (X.esize e))) w:=by
    intro lo' hi' m' hh
    rw [hel,gO X e] at hh
    simp only [execOp,bu,he,yl X hE,hh,bq,b9]
   split at hr5
   ·obtain ⟨hm,hr6⟩:=dJ hr5
    obtain ⟨hb,hr7⟩:=dJ hr6
    have e1:=hl1 rfl
    have e2:=hint hl2' rfl
    have e3:=hint hl3' rfl
    refine aX hd ht hF.sim (run (by rw [e1,e2,e3];exact run_slice_hm w t A n cp hu _ _ _ _ hb.1 (by omega) (by omega))) ?_ hr7
    refine oC (X:=X) (lo:=0) (o':= .full) hq' (Nat.zero_le _) ?_ ?_ (.inr ⟨rfl, ?_⟩)<;>omega
   ·obtain ⟨hb,hr7⟩:=dJ hr5
    have e1:=hl1 rfl
    have e2:=hint hl2' rfl
    have e3:=hl3 rfl
    refine aX hd ht hF.sim (run (by rw [e1,e2,e3];exact run_slice_h w t A n cp hu _ _ hb.1 (by omega))) ?_ hr7
    refine oC (X:=X) (lo:=0) (o':= .none) hq' (Nat.zero_le _) ?_ ?_ (.inl rfl)<;>omega
   ·obtain ⟨hb,hr7⟩:=dJ hr5
    have e1:=hint hl1' rfl
    have e2:=hl2 rfl
    have e3:=hl3 rfl
    refine aX hd ht hF.sim (run (by rw [e1,e2,e3];exact run_slice_l w t A n cp hu _ _ hb.1 (by omega))) ?_ hr7
    grind [List.take_length,oC]
   ·obtain ⟨hb,hr7⟩:=dJ hr5
    have e1:=hint hl1' rfl
    have e2:=hint hl2' rfl
    have e3:=hl3 rfl
    refine aX hd ht hF.sim (run (by rw [e1,e2,e3];exact run_slice_lh w t A n cp hu _ _ _ _ hb.1 hb.2.1 (by omega))) ?_ hr7
    grind [oC]
   ·exact hr5.elim
def SlAt (X:Link V P) (w:World) (N:az) (g:Gh U) (val:Value) (e:U.E) (l:List (U.El e)):Prop:=
 ∃A n cp,val= .slice A n cp/\l.length=n/\n<=cp/\ ∀ (j:Nat) x,l[j]? =some x-> ∀ (k:Nat) p,(V.cells e x)[k]? =some p-> ∃b v,A=some b/\w.cell? (b.add (j*X.esize e+k))=some v/\Rep X w N g v p
theorem zj {tm:Array Value} (h:Sim X c tm w σ g D) {v:Value} {y:PV U} {k:(e:U.E)->List (U.El e)->M U} (hv:Rep X w (c.N g D) g v y) (hr:(oH y k).Rel K σ fp r τ gp):
  ∃e l fp',(k e l).Rel K σ fp' r τ gp/\SlAt X w (c.N g D) g v e l:=by
 unfold oH at hr
 split at hr
 ·rename_i e l o
  cases hv with
  |sl A n cp _ _ _ val hl hc ho r1 r2=>
   exact ⟨e,l,_,hr,A,n,cp,rfl,hl,hc,fun j x hx k p hp=>by
    grind⟩
 ·rename_i i ver
  obtain ⟨ob,fp',hob,hver,hr2⟩:=gT hr
  obtain ⟨val,hkap,hO⟩:=h.objs i ob hob
  refine ⟨_,_,_,hr2, ?_⟩
  cases hv with
  |own _ _ _ ver' e val' hk hle he hs=>
   rw [hkap] at hk
   injection hk with hk
   injection hk with e1 hk
   injection hk with e2 e3
   subst e1;subst e2;subst e3
   have:=he hver.symm
   subst this
   obtain ⟨A,n,cp,hval,hl,hc,hh,_⟩:=hO.val
   exact ⟨A,n,cp,hval,hl,hc,fun j x hx k p hp=>by
    grind⟩
 ·exact hr.elim
theorem Dc {xs:List Operand} {vs:List (PV U)} (hl:vs.length=xs.length): ∀ {p q:PV U},vs=[p,q]-> ∃x y,xs=[x,y]:=by
 intro p q h
 subst h
 match xs,hl with
 |[x,y],_=>simp
theorem Db {xs:List Operand} {vs:List (PV U)} (hl:vs.length=xs.length): ∀ {p:PV U},vs=[p]-> ∃x,xs=[x]:=by
 intro p h
 subst h
 match xs,hl with
 |[x],_=>simp
end
section
variable {U:Uni} {V:Env U} {P:Program} {X:Link V P} {K:bA U} {S:Side U} {c:Ctx} {tm:Array Value} {a:Act} {w:World} {σ:St U} {g:Gh U} {D:Nat->Option Nat}
variable {next:Act->World->Prop} {Q:Exit->Act->World->Prop} {r:MR U} {τ:St U} {fp gp:List Loc} {N:az}
variable {dst:Option Tmp} {ty:TypeId} {pos:String} {after:Array Edge} {gd:Option (Nat×Bool)}
def Gh.newOb (g:Gh U) (d nv:Nat) (e:U.E) (val:Value) (src:Option Nat) (sv:Nat) (se:U.E):Gh U:=
 {g with κ:=fun j=>if j=d then some (nv,e,val) else if src=some j then some (sv,se,.slice none 0 0) else g.κ j}
def d8 (D:Nat->Option Nat) (d:Nat) (src:Option Nat) (Dn:Option Nat):Nat->Option Nat:=fun j=>if j=d then Dn else if src=some j then none else D j
structure NewOb (w w':World) (σ:St U) (D:Nat->Option Nat) (d nv:Nat) (src:Option Nat) (sv:Nat) (Dn:Option Nat):Prop where
 os:w'.os=w.os
 tape:w'.tape=w.tape
 output:w'.output=w.output
 size:w.heap.size<=w'.heap.size
 block: ∀b,b<w.heap.size->(∀i,src=some i->D i≠some b)->w'.heap[b]? =w.heap[b]?
 nver: ∀ob,σ.o d=some ob->ob.ver<nv
 sver: ∀i,src=some i->(∀ob,σ.o i=some ob->ob.ver<sv)/\ ∃ob,σ.o i=some ob
 Dn: ∀b,Dn=some b->(∃i,src=some i/\D i=some b)\/(w.heap.size<=b/\b<w'.heap.size)
section
variable {w':World} {d nv:Nat} {e se:U.E} {val:Value} {src:Option Nat} {sv:Nat} {Dn:Option Nat}
theorem NewOb.le (hn:NewOb w w' σ D d nv src sv Dn) (h:Sim X c tm w σ g D):g.le (g.newOb d nv e val src sv se):=by
 refine ⟨fun _ _ h=>h,fun i ver e0 v0 hk=> ?_⟩
 have hold: ∃ob,σ.o i=some ob/\ob.ver=ver:=by
  cases ho:σ.o i with
  |none=>have:=(h.nobj i ho).1;grind
  |some ob=>
   obtain ⟨v1,h1,_⟩:=h.objs i ob ho
   grind
 obtain ⟨ob,ho,hv⟩:=hold
 simp only [Gh.newOb]
 by_cases hid:i=d
 ·subst hid
  have:=hn.nver ob ho
  grind
 ·rw [if_neg hid]
  by_cases his:src=some i
  ·have:=(hn.sver i his).1 ob ho
   grind
  grind
theorem NewOb.forb (hn:NewOb w w' σ D d nv src sv Dn): ∀b o,b<w.heap.size->(c.N (g.newOb d nv e val src sv se) (d8 D d src Dn)) b o->(c.N g D) b o:=by
 rintro b o hlt (h|⟨id,hid⟩|⟨j,hj⟩)
 ·exact .inl h
 ·exact .inr (.inl ⟨id,hid⟩)
 ·simp only [d8] at hj
  split at hj
  ·rcases hn.Dn b hj with ⟨i,_,hi⟩|hk
   ·exact .inr (.inr ⟨i,hi⟩)
   ·omega
  ·split at hj
   ·cases hj
   ·exact .inr (.inr ⟨j,hj⟩)
theorem NewOb.cell (hn:NewOb w w' σ D d nv src sv Dn): ∀b o,b<w.heap.size-> ¬ (c.N g D) b o->w'.cell? ⟨b,o,none⟩=w.cell? ⟨b,o,none⟩:=fun b o hlt h=>by
 unfold World.cell?
 rw [hn.block b hlt fun i _ hi=>h (.inr (.inr ⟨i,hi⟩))]
theorem NewOb.rep (hn:NewOb w w' σ D d nv src sv Dn) (h:Sim X c tm w σ g D) {v:Value} {p:PV U} (hr:Rep X w (c.N g D) g v p):
  Rep X w' (c.N (g.newOb d nv e val src sv se) (d8 D d src Dn)) (g.newOb d nv e val src sv se) v p:=
 hr.mono X hn.cell hn.forb (hn.le h)
structure NewSt (σ σ':St U) (d nv:Nat) (e:U.E) (l:List (U.El e)) (u:Use) (src:Option Nat) (sv:Nat) (se:U.E):Prop where
 r: ∀n,σ'.r n=σ.r n
 b: ∀n,σ'.b n=σ.b n
 od:σ'.o d=some ⟨nv,e,l⟩
 ud:σ'.u d=u
 os: ∀i,i≠d->src=some i->σ'.o i=some ⟨sv,se,[]⟩/\σ'.u i= .read
 oo: ∀i,i≠d->src≠some i->σ'.o i=σ.o i/\σ'.u i=σ.u i
theorem Sim.newOb (h:Sim X c tm w σ g D) (hn:NewOb w w' σ D d nv src sv Dn) {σ':St U} {l:List (U.El e)} {u:Use} (hs:NewSt σ σ' d nv e l u src sv se)
  (hob:ObOK X w' (c.N (g.newOb d nv e val src sv se) (d8 D d src Dn)) (g.newOb d nv e val src sv se) e l val u Dn):
  Sim X c tm w' σ' (g.newOb d nv e val src sv se) (d8 D d src Dn):=by
 refine h.objsTurn (fun j=>j=d\/src=some j) hn.os hn.tape hn.output hn.size (fun b hb hne=>hn.block b hb fun i hi=>hne i (.inr hi)) hs.r hs.b rfl (hn.le h)
  (fun j b hj=> ?_) (fun j j' b hch hj hj'=> ?_) (fun j hj=> ?_) (fun j ob hj ho=> ?_) (fun j hj ho=> ?_)
 ·simp only [d8] at hj
  split at hj
  ·rcases hn.Dn b hj with ⟨i,h1,h2⟩|h1<;>grind
  grind
 ·simp only [d8] at hj hj'
  split at hj
  ·rename_i hjd
   subst hjd
   by_cases h1:j'=j
   ·simp_all
   ·rw [if_neg h1] at hj'
    split at hj'
    ·cases hj'
    ·rename_i h2
     rcases hn.Dn b hj with ⟨i,h3,h4⟩|h3
     ·have:=h.dinj _ _ _ h4 hj';grind
     ·have:=(h.dnew _ _ hj').1;omega
  grind
 ·have h1:j≠d:=fun e=>hj (.inl e)
  have h2:src≠some j:=fun e=>hj (.inr e)
  obtain ⟨h3,h4⟩:=hs.oo j h1 h2
  grind [d8,Gh.newOb]
 ·by_cases hjd:j=d
  ·subst hjd
   rw [hs.od] at ho
   injection ho with ho
   subst ho
   refine ⟨val,by simp [Gh.newOb], ?_⟩
   rw [hs.ud,show d8 D j src Dn j=Dn by simp [d8]]
   exact hob
  ·have hsrc:src=some j:=hj.resolve_left hjd
   obtain ⟨h1,h2⟩:=hs.os j hjd hsrc
   rw [h1] at ho
   injection ho with ho
   subst ho
   refine ⟨.slice none 0 0,by grind [Gh.newOb], ?_⟩
   rw [h2,show d8 D d src Dn j=none by grind [d8]]
   exact ⟨none,0,0,rfl,rfl,b7 _,by simp,by simp⟩
 ·by_cases hjd:j=d
  ·subst hjd;rw [hs.od] at ho;cases ho
  ·have hsrc:src=some j:=hj.resolve_left hjd
   rw [(hs.os j hjd hsrc).1] at ho;cases ho
theorem lN (hst: ∃A n cp,val= .slice A n cp):Rep X w N (g.newOb d nv e val src sv se) val (.own d nv):=
 .own d nv val nv e val (by simp [Gh.newOb]) (b7 _) (fun _=>rfl) hst
end
def bG (w:World) (A:Option Addr) (n:Nat):List Value:=match A with|some b=>(List.range n).map fun q=>(w.cell? (b.add q)).getD undef|none=>[]
theorem DI {size q n:Nat} (hs:0<size) (h:q<n*size):q/size<n:=(Nat.div_lt_iff_lt_mul hs).2 h
theorem SlAt.cell {e:U.E} {l:List (U.El e)} {b:Addr} {n cp:Nat} (h:SlAt X w N g (.slice (some b) n cp) e l) {q:Nat} (hq:q<n*X.esize e):
  ∃x p v,l[q/X.esize e]? =some x/\(V.cells e x)[q%X.esize e]? =some p/\w.cell? (b.add q)=some v/\Rep X w N g v p:=by
 obtain ⟨A,n',cp',hv,hl,hc,hh⟩:=h
 injection hv with h1 h2 h3
 subst h1;subst h2;subst h3
 have hp:=X.epos e
 have hlt:q/X.esize e<l.length:=by simp_all [DI]
 have hk:q%X.esize e<(V.cells e l[q/X.esize e]).length:=by rw [X.len];exact Nat.mod_lt _ hp
 obtain ⟨b',v,hb,hcell,hr⟩:=hh _ _ (bP hlt) _ _ (bP hk)
 grind [Nat.div_add_mod]
theorem SlAt.row {e:U.E} {l:List (U.El e)} {A:Option Addr} {n cp:Nat} (h:SlAt X w N g (.slice A n cp) e l):(bG w A (n*X.esize e)).length=n*X.esize e/\l.length=n/\n<=cp/\(A=none->n=0)/\
  (∀ (q:Nat) v,(bG w A (n*X.esize e))[q]? =some v-> ∀b,A=some b->w.cell? (b.add q)=some v)/\
  (∀ (j:Nat) x,l[j]? =some x-> ∀ (k:Nat) p,(V.cells e x)[k]? =some p-> ∃v,(bG w A (n*X.esize e))[j*X.esize e+k]? =some v/\Rep X w N g v p)/\(∀v∈bG w A (n*X.esize e),v.oneCell'=true):=by
 have h0:=h
 obtain ⟨A',n',cp',hv,hl,hc,hh⟩:=h
 injection hv with h1 h2 h3
 subst h1;subst h2;subst h3
 have hnone:A=none->n=0:=by
  intro hA
  cases l with
  |nil=>simp_all
  |cons x r=>
   cases hcs:V.cells e x with
   |nil=>exact absurd hcs (mM X x)
   |cons p0 rest=>obtain ⟨b,_,hb,_⟩:=hh 0 x rfl 0 p0 (by grind);grind
 refine ⟨?_,hl,hc,hnone,fun q v hq b hb=> ?_,fun j x hx k p hp=> ?_,fun v hv=> ?_⟩
 ·cases A<;>grind [bG]
 ·subst hb
  have hq2:q<n*X.esize e:=by grind [bG]
  obtain ⟨x,p,v',_,_,hcell,_⟩:=h0.cell hq2
  grind [bG]
 ·obtain ⟨b,v,hA,hcell,hr⟩:=hh j x hx k p hp
  subst hA
  have hj:j<n:=by grind
  have hk:k<X.esize e:=by have:=(bS.1 hp).1;rw [X.len] at this;simp_all
  have hb:j*X.esize e+k<n*X.esize e:=by
   have:(j+1)*X.esize e<=n*X.esize e:=fK _ hj
   grind
  grind [bG]
 ·cases A with
  |none=>simp [bG] at hv
  |some b=>
   simp only [bG,ck,List.mem_range] at hv
   obtain ⟨q,hq,rfl⟩:=hv
   obtain ⟨x,p,v',_,hp,hcell,hr⟩:=h0.cell hq
   rw [hcell]
   exact rF hr (bW.1 (X.ecell e x) p (dk hp))
end
section
variable {U:Uni} {V:Env U} {P:Program} {X:Link V P} {K:bA U} {S:Side U} {c:Ctx} {tm:Array Value} {a:Act} {w:World} {σ:St U} {g:Gh U} {D:Nat->Option Nat}
variable {next:Act->World->Prop} {Q:Exit->Act->World->Prop} {r:MR U} {τ:St U} {fp gp:List Loc} {N:az}
variable {dst:Option Tmp} {ty:TypeId} {pos:String} {after:Array Edge} {gd:Option (Nat×Bool)}
theorem rP {t t':TypeId} {e:U.E} (hu:P.underlying t=some (.slice (X.etid e))) (A B:Option Addr) (n cp c2:Nat) (hc:n<=cp) (w:World):
  (Builtin.append_ #[t,t] t' #[.slice A n cp,.slice B 0 c2]).run P w= .ok (.slice A n cp) w:=by
 have hf:(Builtin.firstCells (X.esize e) 0 (.slice B 0 c2)).run P w= .ok #[] w:=by
  cases B<;>simp [Builtin.firstCells,loadCells,loadCellsFrom]
 cases A<;>simp [Builtin.append_,run_underlying hu,gO X e,Builtin.lenOf,hc,hf,storeCells]
theorem yc {t t':TypeId} {e:U.E} (hu:P.underlying t=some (.slice (X.etid e))) {A B:Option Addr} {n cp m c2:Nat} {l l':List (U.El e)} {N N2:az} {g g2:Gh U} (h1:SlAt X w N g (.slice A n cp) e l) (h2:SlAt X w N2 g2 (.slice B m c2) e l')
  (hcp:A=none->cp=0) (hm:cp<n+m) (hroom:n+m<=V.bound e):
  ∃cells cap,(Builtin.append_ #[t,t] t' #[.slice A n cp,.slice B m c2]).run P w= .ok (.slice (some ⟨w.heap.size,0,none⟩) (n+m) cap) (w.drew.alloc (.cells cells (X.etid e)))/\n+m<=cap/\cap<=maxLen/\
   cells.size=cap*X.esize e/\cells.toList.take ((n+m)*X.esize e)=bG w A (n*X.esize e)++bG w B (m*X.esize e):=by
 obtain ⟨r1,r2,r3,r4,r5,_,r7⟩:=h1.row
 obtain ⟨s1,s2,s3,s4,s5,_,s7⟩:=h2.row
 obtain ⟨hby,hmax⟩:=X.broom e _ hroom
 obtain ⟨i,hi,hz,hsi,hbi⟩:=X.einfo e
 have hB: ∃b,B=some b:=by
  cases B<;>grind
 obtain ⟨b,rfl⟩:=hB
 have h63:n+m<=9223372036854775807:=by grind [maxLen]
 have hcells: ∀ (cap:Nat),n+m<=cap->((bG w A (n*X.esize e)).toArray++(bG w (some b) (m*X.esize e)).toArray++Builtin.zeroCells (X.ezero e).cells (cap-(n+m))).size=cap*X.esize e/\
   ((bG w A (n*X.esize e)).toArray++(bG w (some b) (m*X.esize e)).toArray++Builtin.zeroCells (X.ezero e).cells (cap-(n+m))).toList.take ((n+m)*X.esize e)=bG w A (n*X.esize e)++bG w (some b) (m*X.esize e):=by
  intro cap hcap
  constructor
  ·simp only [Array.size_append,List.size_toArray,size_zeroCells,X.zsize,r1,s1,<-Nat.add_mul];grind
  grind [Nat.add_mul]
 cases A with
 |none=>
  have hn:=r4 rfl
  have hc0:=hcp rfl
  subst hn;subst hc0
  have hr:=run_append_nil (P:=P) w t t' (X.etid e) i (X.ezero e) hu hi hz b m c2 (bG w (some b) (m*X.esize e)) (by grind) (fun j v hj=>s5 j v hj b rfl) (by omega) (by omega) (by grind)
  grind [grownCap_ge,grownCap_le_maxLen]
 |some a0=>
  have hr:=run_append_grow (P:=P) w t t' (X.etid e) i (X.ezero e) hu hi hz a0 n cp (bG w (some a0) (n*X.esize e)) (by grind) (fun j v hj=>r5 j v hj a0 rfl) b m c2 (bG w (some b) (m*X.esize e)) (by grind) (fun j v hj=>s5 j v hj b rfl)
   hm (by omega) (growslice_fits hm (by grind))
  grind [grownCap_ge,grownCap_le_maxLen]
theorem qO {w':World} {N':az} {g':Gh U} {e:U.E} {l l':List (U.El e)} {A B:Option Addr} {n cp m c2:Nat} (h1:SlAt X w N g (.slice A n cp) e l) (h2:SlAt X w N g (.slice B m c2) e l')
  (hmono: ∀ {v:Value} {p:PV U},Rep X w N g v p->Rep X w' N' g' v p) {nb cap:Nat} {cur:Array Value} (hb:w'.heap[nb]? =some (.cells cur (X.etid e) (0,0))) (hs:cur.size=cap*X.esize e) (hmax:cap<=maxLen) (hbd:n+m<=V.bound e) (hle:n+m<=cap)
  (htake:cur.toList.take ((n+m)*X.esize e)=bG w A (n*X.esize e)++bG w B (m*X.esize e)) {u:Use} (hu:u≠ .read):
  ObOK X w' N' g' e (l++l') (.slice (some ⟨nb,0,none⟩) (n+m) cap) u (some nb):=by
 obtain ⟨r1,r2,r3,r4,r5,r6,r7⟩:=h1.row
 obtain ⟨s1,s2,s3,s4,s5,s6,s7⟩:=h2.row
 refine ⟨_,_,_,rfl,by grind,hle,fun j x hx k p hp=> ?_,hu,cur,rfl,hb,hs,hmax,hbd⟩
 have hk:k<X.esize e:=by have:=(bS.1 hp).1;rw [X.len] at this;simp_all
 have hj:j<n+m:=by grind
 have hjk:j*X.esize e+k<(n+m)*X.esize e:=by
  have:(j+1)*X.esize e<=(n+m)*X.esize e:=fK _ hj
  grind
 have hcur:cur.toList[j*X.esize e+k]? =(bG w A (n*X.esize e)++bG w B (m*X.esize e))[j*X.esize e+k]? :=by
  grind
 obtain ⟨v,hv,hr⟩: ∃v,(bG w A (n*X.esize e)++bG w B (m*X.esize e))[j*X.esize e+k]? =some v/\Rep X w N g v p:=by
  by_cases hjn:j<n
  ·grind
  ·rw [fJ (by omega),r2] at hx
   obtain ⟨v,hv,hr⟩:=s6 (j-n) x hx k p hp
   have e1:j*X.esize e=(j-n)*X.esize e+n*X.esize e:=by rw [<-Nat.add_mul];grind
   refine ⟨v, ?_,hr⟩
   rw [fJ (by omega),r1,show j*X.esize e+k-n*X.esize e=(j-n)*X.esize e+k by omega]
   exact hv
 grind [Addr.add_lit',World.cell?]
theorem iN {most n m:Nat} {k:Unit->M U} (hr:(M.ask (cx most n m) k).Rel K σ fp r τ gp):n+m<=most/\(k ()).Rel K σ fp r τ gp:=by
 obtain ⟨x,hx,hr⟩:=hr
 grind [cx]
theorem wm {d:Nat} {u:Use} {e:U.E} {l:List (U.El e)} (hr:(iA d u e l).Rel K σ fp r τ gp):
  ∃nv,(∀ob,σ.o d=some ob->ob.ver<nv)/\r= .done/\τ=((σ.setO d ⟨nv,e,l⟩).setU d u).setR d (.own d nv):=by
 grind [iA,M.Rel]
theorem Be (h:Sim X c tm w σ g D) {d t t' u':TypeId} {x y:PV U} {vx vy:Value} (hx:Rep X w (c.N g D) g vx x) (hy:Rep X w (c.N g D) g vy y) (hd:d<c.nt)
  (hr:(pi V (some d) t u' x y).Rel K σ fp r τ gp):
  t=u'/\r= .done/\ ∃v' w' g' D',(Builtin.append_ #[t,t] t' #[vx,vy]).run P w= .ok v' w'/\Sim X c (tm.setIfInBounds d v') w' τ g' D':=by
 unfold pi at hr
 cases htu:ac t u' with
 |false=>simp only [htu] at hr;exact hr.elim
 |true=>
 simp only [htu,cond_true] at hr
 refine ⟨by simp_all, ?_⟩
 obtain ⟨e',l',fp1,hr1,hsy⟩:=zj h hy hr
 cases hE:V.isEl t e' with
 |false=>rw [hE] at hr1;exact hr1.elim
 |true=>
 rw [hE] at hr1
 simp only [cond_true] at hr1
 have hu:=(ju X hE).1
 have hsy0:=hsy
 obtain ⟨B,m,c2,hvy,hlm,hc2,_⟩:=hsy
 rw [hvy] at hsy0
 split at hr1
 ·rename_i e l o
  split at hr1
  case isFalse=>exact hr1.elim
  rename_i heq
  subst heq
  have hx0:=hx
  cases hx with
  |sl A n cp _ _ _ val hl hc ho q1 q2=>
  have hsx:SlAt X w (c.N g D) g (.slice A n cp) e' l:=⟨A,n,cp,rfl,hl,hc,fun j x hx k p hp=>by
   grind⟩
  have go: ∀ {us:Use} {fp2:List Loc},us≠ .read->(A=none->cp=0)->(n=cp)->(us= .wr->A=none)->n+m<=V.bound e'->(iA d us e' (l++l')).Rel K σ fp2 r τ gp->
    r= .done/\ ∃v' w' g' D',(Builtin.append_ #[t,t] t' #[.slice A n cp,vy]).run P w= .ok v' w'/\Sim X c (tm.setIfInBounds d v') w' τ g' D':=by
   intro us fp2 hus hA hcap hwr hroom hr2
   obtain ⟨nv,hnv,h1,h2⟩:=wm hr2
   refine ⟨h1, ?_⟩
   rw [hvy]
   have hst:NewSt σ ((σ.setO d ⟨nv,e',l++l'⟩).setU d us) d nv e' (l++l') us none 0 e':=
    ⟨fun _=>rfl,fun _=>rfl,by simp,by simp,by simp,fun i hi _=>by simp [Ne.symm hi]⟩
   by_cases hm:m=0
   ·subst hm
    have hl0:l'=[]:=List.eq_nil_of_length_eq_zero hlm
    subst hl0
    have hN:NewOb w w σ D d nv none 0 none:=⟨rfl,rfl,rfl,b7 _,fun _ _ _=>rfl,hnv,by simp,by simp⟩
    have hs:=h.newOb (e:=e') (se:=e') (val:= .slice A n cp) hN hst ⟨A,n,cp,rfl,by grind,hc,fun j x hx k p hp=>by
     rw [ei] at hx
     obtain ⟨b,hA,hcell,hn⟩:=q1 j x hx k p hp
     refine ⟨b,_,hA,hcell,hN.rep h (q2 j x hx k p hp),fun _ hn'=>hn ?_⟩
     have hlt:=World.block_lt_of_cell? w _ hcell
     rw [Addr.add_block] at hlt
     exact hN.forb _ _ hlt hn',by
     grind⟩
    exact ⟨_,w,_,_,rP (X:=X) hu A B n cp c2 hc w,h2▸hs.put hd (lN ⟨A,n,cp,rfl⟩)⟩
   ·obtain ⟨cells,cap,hrun,k1,k2,k3,k4⟩:=yc (X:=X) (t':=t') hu hsx hsy0 hA (by omega) hroom
    have hN:NewOb w (w.drew.alloc (.cells cells (X.etid e'))) σ D d nv none 0 (some w.heap.size):=⟨rfl,rfl,rfl,by simp,fun b hb _=>heap_alloc_old w.drew _ b hb,hnv,by simp,fun b hb=>by simp_all⟩
    have hs:=h.newOb (e:=e') (se:=e') hN hst (qO (X:=X) hsx hsy0 (fun hr=>hN.rep h hr) (heap_alloc_new w.drew _) k3 k2 hroom k1 k4 hus)
    exact ⟨_,_,_,_,hrun,h2▸hs.put hd (lN ⟨_,_,_,rfl⟩)⟩
  split at hr1
  ·exact hr1.elim
  ·exact hr1.elim
  ·exact hr1.elim
  ·obtain ⟨hroom,hr2⟩:=iN hr1
   have hn:n=cp:=ho
   have hA0:A=none->cp=0:=fun hA=>by rw [<-hn];exact (hsx.row).2.2.2.1 hA
   grind
  ·obtain ⟨hroom,hr2⟩:=iN hr1
   grind
 ·rename_i i ver
  obtain ⟨ob,fp2,hob,hver,hr2⟩:=gT hr1
  split at hr2
  case isFalse=>exact hr2.elim
  rename_i heq
  subst heq
  obtain ⟨val,hkap,hO⟩:=h.objs i ob hob
  cases hx with
  |own _ _ _ ver' e val' hk hle he hs=>
  rw [hkap] at hk
  injection hk with hk
  injection hk with e1 hk
  injection hk with e2 e3
  subst e1;subst e2;subst e3
  have:=he hver.symm
  subst this
  obtain ⟨A,n,cp,hval,hl,hc,hh,hD⟩:=hO.val
  have hsx:SlAt X w (c.N g D) g (.slice A n cp) ob.e ob.l:=⟨A,n,cp,rfl,hl,hc,fun j x hx k p hp=>by
   grind⟩
  simp only [M.Rel] at hr2
  have hne:σ.u i≠ .read:=by
   intro hre;rw [hre] at hr2;exact hr2.elim
  have hr3: ∃fp3,(M.ask (cx (V.bound ob.e) ob.l.length l'.length) fun _=> .setO i ⟨ob.ver+1,ob.e,[]⟩ (.setU i .read (iA d (σ.u i) ob.e (ob.l++l')))).Rel K σ fp3 r τ gp:=by
   grind
  obtain ⟨fp3,hr3⟩:=hr3
  obtain ⟨hroom,hr4⟩:=iN hr3
  obtain ⟨nv,hnv,h1,h2⟩:=wm hr4
  refine ⟨h1, ?_⟩
  rw [hval,hvy]
  rw [hl,hlm] at hroom
  have hnvo: ∀ob',σ.o d=some ob'->ob'.ver<nv:=by
   intro ob' ho'
   by_cases hdi:i=d
   ·subst hdi
    rw [hob] at ho';injection ho' with ho';subst ho'
    have:=hnv ⟨ob.ver+1,ob.e,[]⟩ (by simp)
    grind
   simp_all
  have hst:NewSt σ (((((σ.setO i ⟨ob.ver+1,ob.e,[]⟩).setU i .read).setO d ⟨nv,ob.e,ob.l++l'⟩).setU d (σ.u i))) d nv ob.e (ob.l++l') (σ.u i) (some i) (ob.ver+1) ob.e:=
   ⟨fun _=>rfl,fun _=>rfl,by simp,by simp,fun j hj hs=>by simp_all [Ne.symm],fun j hj hs=>by
    simp_all [Ne.symm]⟩
  have hsv: ∀j,(some i:Option Nat)=some j->(∀ob',σ.o j=some ob'->ob'.ver<ob.ver+1)/\ ∃ob',σ.o j=some ob':=by
   grind
  by_cases hm:m=0
  ·subst hm
   have hl0:l'=[]:=List.eq_nil_of_length_eq_zero hlm
   subst hl0
   have hN:NewOb w w σ D d nv (some i) (ob.ver+1) (D i):=⟨rfl,rfl,rfl,b7 _,fun _ _ _=>rfl,hnvo,hsv,fun b hb=> .inl ⟨i,rfl,hb⟩⟩
   have hOb:ObOK X w (c.N (g.newOb d nv ob.e (.slice A n cp) (some i) (ob.ver+1) ob.e) (d8 D d (some i) (D i))) (g.newOb d nv ob.e (.slice A n cp) (some i) (ob.ver+1) ob.e) ob.e (ob.l++[]) (.slice A n cp) (σ.u i) (D i):=by
    rw [ei]
    rw [hval] at hO
    exact hO.mono (fun _ _=>rfl) hN.cell hN.forb (hN.le h)
   exact ⟨_,w,_,_,rP (X:=X) hu A B n cp c2 hc w,h2▸(h.newOb hN hst hOb).put hd (lN ⟨A,n,cp,rfl⟩)⟩
  ·by_cases hfit:n+m<=cp
   ·
    cases hDi:D i with
    |none=>
     rw [hDi] at hD
     cases hui:σ.u i<;>grind
    |some b=>
     rw [hDi] at hD
     obtain ⟨_,cur,hA,hblk,hsz,hmax⟩:=hD
     subst hA
     obtain ⟨i0,hi0,hz0,hsi,hbi⟩:=X.einfo ob.e
     obtain ⟨r1,_,_,_,r5,_,_⟩:=hsx.row
     obtain ⟨s1,_,_,s4,s5,_,s7⟩:=hsy0.row
     obtain ⟨b2,rfl⟩: ∃b2,B=some b2:=by
      cases B<;>grind
     have hfit':n*X.esize ob.e+(bG w (some b2) (m*X.esize ob.e)).length<=cur.size:=by
      rw [s1,hsz,<-Nat.add_mul];exact fK _ hfit
     have hrun:=run_append_room (P:=P) w t t' (X.etid ob.e) i0 hu hi0 b n cp cur hblk b2 m c2 (bG w (some b2) (m*X.esize ob.e)) (by grind) (fun j v hj=>s5 j v hj b2 rfl) s7 hfit (by grind)
     rw [hsi] at hrun
     have hN:NewOb w (w.setRow b (cur.toList.take (n*X.esize ob.e)++bG w (some b2) (m*X.esize ob.e)++cur.toList.drop (n*X.esize ob.e+(bG w (some b2) (m*X.esize ob.e)).length)).toArray) σ D d nv (some i) (ob.ver+1) (some b):=
      ⟨rfl,rfl,rfl,by simp,fun b' _ hne=>setRow_other w b b' _ (fun e=>hne i rfl (e▸hDi)),hnvo,hsv,fun b' hb'=>by grind⟩
     have hOb:=qO (X:=X) hsx hsy0 (fun hr=>hN.rep (e:=ob.e) (se:=ob.e) (val:= .slice (some ⟨b,0,none⟩) (n+m) cp) h hr) (setRow_heap w b cur _ (X.etid ob.e) (0,0) hblk) (cap:=cp) (by
      grind) hmax.1 hroom hfit (by
      have hcl:(cur.toList.take (n*X.esize ob.e)).length=n*X.esize ob.e:=by simp;omega
      have hx2:(cur.toList.take (n*X.esize ob.e))=bG w (some ⟨b,0,none⟩) (n*X.esize ob.e):=by
       apply List.ext_getElem?
       grind [Addr.add_lit',World.cell?]
      grind [Nat.add_mul]) hne
     exact ⟨_,_,_,_,hrun,h2▸(h.newOb hN hst hOb).put hd (lN ⟨_,_,_,rfl⟩)⟩
   ·have hA0:A=none->cp=0:=by
     intro hA
     cases hDi:D i with
     |none=>
      rw [hDi] at hD
      cases hui:σ.u i with
      |read=>grind
      |app=>rw [<-hD.2 hui];exact (hsx.row).2.2.2.1 hA
      |wr=>grind
     |some b=>
      grind
    obtain ⟨cells,cap,hrun,k1,k2,k3,k4⟩:=yc (X:=X) (t':=t') hu hsx hsy0 hA0 (by omega) hroom
    have hN:NewOb w (w.drew.alloc (.cells cells (X.etid ob.e))) σ D d nv (some i) (ob.ver+1) (some w.heap.size):=⟨rfl,rfl,rfl,by simp,fun b hb _=>heap_alloc_old w.drew _ b hb,hnvo,hsv,fun b hb=>by simp_all⟩
    have hOb:=qO (X:=X) hsx hsy0 (fun hr=>hN.rep (e:=ob.e) (se:=ob.e) (val:= .slice (some ⟨w.heap.size,0,none⟩) (n+m) cap) h hr) (heap_alloc_new w.drew _) k3 k2 hroom k1 k4 hne
    exact ⟨_,_,_,_,hrun,h2▸(h.newOb hN hst hOb).put hd (lN ⟨_,_,_,rfl⟩)⟩
 ·exact hr1.elim
end
section
variable {U:Uni} {V:Env U} {P:Program} {X:Link V P} {K:bA U} {S:Side U} {c:Ctx} {tm:Array Value} {a:Act} {w:World} {σ:St U} {g:Gh U} {D:Nat->Option Nat}
variable {next:Act->World->Prop} {Q:Exit->Act->World->Prop} {r:MR U} {τ:St U} {fp gp:List Loc} {N:az}
variable {dst:Option Tmp} {ty:TypeId} {pos:String} {after:Array Edge} {gd:Option (Nat×Bool)}
theorem yd {b:Builtin} {cl:Call} (hb:cl.callee= .builtin b) (w:World):(execOp a.eval ⟨dst,.call cl,ty,pos,after,gd⟩).run P w=
  (builtin b cl.argTypes ty (cl.args.map fun| .const _=>true|_=>false) (cl.args.map a.eval)).run P w:=by
 simp only [execOp,resolve,hb,bu,b9,bq,invoke]
 rfl
theorem Ip {t:TypeId} (X:Link V P) (h:ac (V.eqk t) 4=true):P.underlying t=some .string:=by
 simp [Env.eqk] at h
 split at h
 ·rename_i row aO;exact (X.ty t row aO).isStr h
 ·cases h
theorem wg {t:TypeId} {e:U.E} (X:Link V P) (h:V.mty t=some e): ∃b i,P.underlying t=some (.map (X.etid e) b)/\P.info? b=some i/\i.zero=some (.bool false):=by
 unfold Env.mty at h
 split at h
 ·rename_i row aO;exact (X.ty t row aO).keys e h
 ·cases h
theorem rR {k:Nat} {es:Array MapEntry} {clock:Nat} (hb:w.heap[k]? =some (.map es clock)):(getObj k).run P w= .ok (.map es clock) w:=by
 simp [getObj,Sem.run,hb]
theorem yk {k:Nat} {es:Array MapEntry} {clock:Nat} (o:Obj) (hb:w.heap[k]? =some (.map es clock)):(setObj k o).run P w= .ok () {w with heap:=w.heap.setIfInBounds k o}:=by
 simp [setObj,Sem.run,hb]
theorem p8 {t:TypeId} {e:U.E} (X:Link V P) (h:V.ety t=some e):P.underlying t=some (.slice (X.etid e)):=(ju X (e:=e) (by simp [Env.isEl,h])).1
theorem oa {v:Value} {n m:Nat} {cs:List (PV U)} {o:Bool} (h:Rep X w N g v (.psl n m cs o)): ∃ (A:Option Addr) (cp:Nat) (xs:List Value),v= .slice A n cp/\xs.length=n*m/\cs.length=n*m/\n<=cp/\(o=true->n=cp)/\
  (∀ (q:Nat) u,xs[q]? =some u-> ∃b,A=some b/\w.cell? (b.add q)=some u)/\ ∀ (q:Nat) p,cs[q]? =some p-> ∃u,xs[q]? =some u/\Rep X w N g u p:=by
 cases h with
 |psl A _ cp _ _ _ val hl hc ho h1 h2=>
  refine ⟨A,cp,(List.range (n*m)).map val,rfl,by simp,hl,hc,ho,fun q u hu=> ?_,fun q p hp=> ?_⟩
  ·simp only [ej,fL] at hu
   obtain ⟨q',hq,rfl⟩:=hu
   obtain ⟨hlt,rfl⟩:=bS.1 hq
   simp only [List.length_range] at hlt
   obtain ⟨b,hb,hc1,_⟩:=h1 q _ (bP (by omega))
   exact ⟨b,hb,by simpa using hc1⟩
  ·have hlt:=(bS.1 hp).1
   exact ⟨val q,by rw [ej,List.getElem?_range (by omega)];rfl,h2 q p hp⟩
theorem wC (h:Sim X c tm w σ g D) {m n n':Nat} {cs cs':List (PV U)} {xs ys:List Value} {z:Array Value} {et:TypeId} {cap:Nat} (hl:xs.length=n*m) (hl':ys.length=n'*m) (hcs:cs.length=n*m) (hcs':cs'.length=n'*m) (hcap:n+n'<=cap)
  (hx: ∀ (q:Nat) p,cs[q]? =some p-> ∃u,xs[q]? =some u/\Rep X w (c.N g D) g u p) (hy: ∀ (q:Nat) p,cs'[q]? =some p-> ∃u,ys[q]? =some u/\Rep X w (c.N g D) g u p):
  Rep X (w.drew.alloc (.cells (xs.toArray++ys.toArray++z) et)) (c.N g D) g (.slice (some ⟨w.heap.size,0,none⟩) (n+n') cap) (.psl (n+n') m (cs++cs') false):=by
 have hall: ∀ (q:Nat) p,(cs++cs')[q]? =some p-> ∃u,(xs++ys)[q]? =some u/\Rep X w (c.N g D) g u p:=by
  intro q p hp
  by_cases hq:q<cs.length
  ·rw [List.getElem?_append_left hq] at hp
   obtain ⟨u,hu,hr⟩:=hx q p hp
   exact ⟨u,by rw [List.getElem?_append_left (by omega)];exact hu,hr⟩
  ·rw [fJ (by omega)] at hp
   obtain ⟨u,hu,hr⟩:=hy _ p hp
   exact ⟨u,by rw [fJ (by omega),hl,<-hcs];exact hu,hr⟩
 refine .psl _ _ _ m _ false (fun q=>((xs++ys)[q]?).getD undef) (by rw [List.length_append,hcs,hcs',Nat.add_mul]) hcap (by simp) (fun q p hp=> ?_) fun q p hp=> ?_
 ·obtain ⟨u,hu,_⟩:=hall q p hp
  refine ⟨_,rfl, ?_, ?_⟩
  ·rw [Addr.add_lit',b8]
   show (w.drew.alloc _).cell? ⟨w.drew.heap.size,q,none⟩=_
   rw [World.cell?_alloc_new,hu]
   have hlt:=(bS.1 hu).1
   have e1:(xs.toArray++ys.toArray++z)[q]? =some u:=by
    rw [Array.getElem?_append_left (by simpa using hlt),<-hu]
    simp [List.getElem?_append,Array.getElem?_append]
   simpa using e1
  ·rintro (hn'|⟨id,hid⟩|⟨q,hq⟩)
   ·have h1:=(c.n0 _ _ hn').1
    have h2:=h.ext.size
    grind
   ·have:=(h.new id _ hid).1;grind
   ·have:=(h.dnew q _ hq).1;grind
 ·obtain ⟨u,hu,hr⟩:=hall q p hp
  rw [hu]
  exact hr.mono X (fun b o hlt _=>kI w.drew _ b o hlt) (fun _ _ _ h=>h) (Gh.le.refl g)
theorem F1 {b:Builtin} {cl:Call} (hb:cl.callee= .builtin b) (hb':b≠ .recover) (hd:aW c.nt ⟨dst,.call cl,ty,pos,after,gd⟩=true) (h:Sim X c a.tmps w σ g D) (hr:(bh V S ⟨dst,.call cl,ty,pos,after,gd⟩).Rel K σ fp r τ gp)
  (ht:Then X c a r τ next Q):(⟨dst,.call cl,ty,pos,after,gd⟩:Oper).wp P a w next Q:=by
 have hr0:(fi V cl.args.toList cl.argTypes.toList fun vs=>pz V dst b cl.argTypes.toList vs).Rel K σ fp r τ gp:=by
  obtain ⟨callee,args,ats⟩:=cl
  simp only at hb
  subst hb
  cases b<;>first|exact hr|exact absurd rfl hb'
 obtain ⟨vs,fp1,hl,hvs,hr1⟩:=lc h hr0
 have hrun:=yd (a:=a) (dst:=dst) (ty:=ty) (pos:=pos) (after:=after) (gd:=gd) (P:=P) hb w
 have gI: ∀ {p:PV U},vs=[p]-> ∃x,cl.args.map a.eval= #[x]/\Rep X w (c.N g D) g x p:=by
  intro p hp
  obtain ⟨x,hx⟩:=Db hl hp
  subst hp
  refine ⟨a.eval x, ?_, ?_⟩
  ·apply Array.ext';simp [hx]
  ·have:=hvs 0 p rfl;simpa [hx] using this
 have two: ∀ {p q:PV U},vs=[p,q]-> ∃x y,cl.args.map a.eval= #[x,y]/\Rep X w (c.N g D) g x p/\Rep X w (c.N g D) g y q:=by
  intro p q hp
  obtain ⟨x,y,hx⟩:=Dc hl hp
  subst hp
  refine ⟨a.eval x,a.eval y, ?_, ?_, ?_⟩
  ·apply Array.ext';simp [hx]
  ·have:=hvs 0 p rfl;simpa [hx] using this
  ·have:=hvs 1 q rfl;simpa [hx] using this
 have ty1: ∀ {t:TypeId},cl.argTypes.toList=[t]->cl.argTypes= #[t]:=fun h=>Array.ext' (by simpa using h)
 generalize hts:cl.argTypes.toList=ts at hr1
 unfold pz at hr1
 split at hr1
 ·rename_i t s
  obtain ⟨x,hx,hrep⟩:=gI rfl
  cases hE:ac (V.eqk t) 4 with
  |false=>rw [hE] at hr1;exact hr1.elim
  |true=>
   rw [hE] at hr1
   refine aX hd ht h (v:= .int .i64 s.size) ?_ (.int _ _) hr1
   rw [hrun,hx,ty1 hts,ox hrep]
   simp [builtin,Builtin.len_,run_underlying (Ip X hE),goInt]
 ·rename_i t id
  obtain ⟨x,hx,hrep⟩:=gI rfl
  simp only [M.Rel] at hr1
  split at hr1
  case h_2=>exact hr1.elim
  rename_i e l hbx
  split at hr1
  case h_2=>exact hr1.elim
  rename_i e' hm
  obtain ⟨vb,i,hu,_⟩:=wg X hm
  obtain ⟨k,hk,en,cl',hblk,hsz,_⟩:=h.boxes _ _ hbx
  cases hrep with
  |mp _ b hb2=>
   rw [hb2] at hk
   injection hk with hk
   subst hk
   refine aX hd ht h (v:= .int .i64 l.length) ?_ (.int _ _) hr1
   rw [hrun,hx,ty1 hts]
   simp [builtin,Builtin.len_,run_underlying hu,goInt,rR hblk,hsz]
 ·rename_i t n0 m0 cs0 o0
  obtain ⟨x,hx,hrep⟩:=gI rfl
  split at hr1
  case h_2=>exact hr1.elim
  rename_i e he
  obtain ⟨A,cp,xs,hv,_⟩:=oa hrep
  refine aX hd ht h (v:= .int .i64 n0) ?_ (.int _ _) hr1
  rw [hrun,hx,ty1 hts,hv]
  simp [builtin,Builtin.len_,run_underlying (p8 X he),goInt]
 ·rename_i t x0 _ _ _
  obtain ⟨x,hx,hrep⟩:=gI rfl
  obtain ⟨e,l,fp2,hr2,A,n,cp,hv,hln,_⟩:=zj h hrep hr1
  cases hE:V.isEl t e with
  |false=>rw [hE] at hr2;exact hr2.elim
  |true=>
   rw [hE] at hr2
   refine aX hd ht h (v:= .int .i64 l.length) ?_ (.int _ _) hr2
   rw [hrun,hx,ty1 hts,hv]
   simp [builtin,Builtin.len_,run_underlying (ju X hE).1,goInt,hln]
 ·rename_i t u x0 y0
  obtain ⟨x,y,hx,hrx,hry⟩:=two rfl
  have hP: ∀ {x0:PV U} {n' m':Nat} {cs':List (PV U)} {o':Bool},(mg V dst t u x0 n' m' cs').Rel K σ fp1 r τ gp->Rep X w (c.N g D) g x x0->Rep X w (c.N g D) g y (.psl n' m' cs' o')->(⟨dst,.call cl,ty,pos,after,gd⟩:Oper).wp P a w next Q:=by
   intro x0 n' m' cs' o' hr1 hrx hry
   unfold mg at hr1
   split at hr1
   case h_2=>exact hr1.elim
   rename_i e he
   cases hE:ac t u&&(ac (V.esz e) m'&&cG 0 n') with
   |false=>rw [hE] at hr1;exact hr1.elim
   |true=>
    rw [hE] at hr1
    simp only [cond_true] at hr1
    simp only [aj,Nat.beq_eq] at hE
    obtain ⟨htu,hw,hn0⟩:=hE
    have htu:t=u:=htu
    have hw:V.esz e=m':=hw
    have hn0:0<n':=by
     unfold cG at hn0
     exact eI hn0
    subst htu
    rw [X.esz] at hw
    subst hw
    have hat:cl.argTypes= #[t,t]:=Array.ext' (by simpa using hts)
    have hu:=p8 X he
    obtain ⟨i,hi,hz,hsi,hbi⟩:=X.einfo e
    have hps:=X.epos e
    obtain ⟨B,c2,ys,rfl,hyl,hcl',hyc,_,hycell,hyrep⟩:=oa hry
    obtain ⟨b,rfl⟩: ∃b,B=some b:=by
     have hlt:0<n'*X.esize e:=Nat.mul_pos hn0 hps
     obtain ⟨b,hb,_⟩:=hycell 0 _ (bP (by omega))
     exact ⟨b,hb⟩
    have hyc': ∀ (q:Nat) u,ys[q]? =some u->w.cell? (b.add q)=some u:=fun q u hq=>by
     obtain ⟨b',hb',h1⟩:=hycell q u hq
     injection hb' with hb'
     subst hb'
     exact h1
    have nil: ∀ {k:Unit->M U},(M.ask (cx (V.bound e) 0 n') k).Rel K σ fp1 r τ gp->x= .slice none 0 0-> ∃w',(Builtin.append_ #[t,t] ty #[x,.slice (some b) n' c2]).run P w= .ok (.slice (some ⟨w.heap.size,0,none⟩) n' (grownCap w n' 0 (X.etid e))) w'/\Sim X c a.tmps w' σ g D/\
      Rep X w' (c.N g D) g (.slice (some ⟨w.heap.size,0,none⟩) n' (grownCap w n' 0 (X.etid e))) (.psl n' (X.esize e) cs' false):=by
     intro k hk hxv
     obtain ⟨hroom,_⟩:=iN hk
     obtain ⟨hby,hmax⟩:=X.broom e _ hroom
     have h63:n'<=9223372036854775807:=by unfold maxLen at hmax;omega
     have hr:=run_append_nil (P:=P) w t ty (X.etid e) i (X.ezero e) hu hi hz b n' c2 ys (by rw [hsi];exact hyl) hyc' hn0 (by omega) (by rw [hbi];simp only [b8] at hby;omega)
     subst hxv
     refine ⟨_,hr,h.drew.alloc _, ?_⟩
     have:=wC h (m:=X.esize e) (n:=0) (cs:=[]) (xs:=[]) (z:=Builtin.zeroCells (X.ezero e).cells (grownCap w n' 0 (X.etid e)-n')) (et:=X.etid e) (by simp) hyl (by simp) hcl' (cap:=grownCap w n' 0 (X.etid e)) (by rw [b8];exact grownCap_ge _ _ _ _) (by simp) hyrep
     simpa using this
    split at hr1
    ·rename_i n1 m1 cs1
     cases hE:ac m1 (X.esize e) with
     |false=>rw [hE] at hr1;exact hr1.elim
     |true=>
      rw [hE] at hr1
      simp only [cond_true] at hr1
      have hm1:m1=X.esize e:=by simpa using hE
      subst hm1
      obtain ⟨A,c1,xs,rfl,hxl,hcl,hxc,hxf,hxcell,hxrep⟩:=oa hrx
      have hfull:=hxf rfl
      subst hfull
      cases A with
      |none=>
       have hn1:n1=0:=by
        apply Nat.eq_zero_of_not_pos
        intro hp
        have hlt:0<n1*X.esize e:=Nat.mul_pos hp hps
        obtain ⟨b,hb,_⟩:=hxcell 0 _ (bP (by omega))
        cases hb
       subst hn1
       obtain ⟨w',h1,h2,h3⟩:=nil hr1 rfl
       obtain ⟨_,hr2⟩:=iN hr1
       have hc0:cs1=[]:=List.eq_nil_of_length_eq_zero (by simpa using hcl)
       subst hc0
       refine aX hd ht h2 ?_ (by rw [b8,List.nil_append];exact h3) hr2
       rw [hrun,hx,hat]
       simp only [builtin,bu,h1,bq,b9]
      |some ad=>
       obtain ⟨hroom,hr2⟩:=iN hr1
       obtain ⟨hby,hmax⟩:=X.broom e _ hroom
       have h63:n1+n'<=9223372036854775807:=by unfold maxLen at hmax;omega
       have hxc': ∀ (q:Nat) u,xs[q]? =some u->w.cell? (ad.add q)=some u:=fun q u hq=>by
        obtain ⟨b',hb',h1⟩:=hxcell q u hq
        injection hb' with hb'
        subst hb'
        exact h1
       have hr:=run_append_grow (P:=P) w t ty (X.etid e) i (X.ezero e) hu hi hz ad n1 n1 xs (by rw [hsi];exact hxl) hxc' b n' c2 ys (by rw [hsi];exact hyl) hyc' (by omega) (by omega) (growslice_fits (by omega) (by rw [hbi];exact hby))
       have hrep:=wC h (m:=X.esize e) (z:=Builtin.zeroCells (X.ezero e).cells (grownCap w (n1+n') n1 (X.etid e)-(n1+n'))) (et:=X.etid e) hxl hyl hcl hcl' (grownCap_ge w (n1+n') n1 (X.etid e)) hxrep hyrep
       refine aX hd ht (h.drew.alloc _) ?_ hrep hr2
       rw [hrun,hx,hat]
       simp only [builtin,bu,hr,bq,b9]
    ·have hxv:x= .slice none 0 0:=by cases hrx<;>grind
     obtain ⟨w',h1,h2,h3⟩:=nil hr1 hxv
     obtain ⟨_,hr2⟩:=iN hr1
     refine aX hd ht h2 ?_ h3 hr2
     rw [hrun,hx,hat]
     simp only [builtin,bu,h1,bq,b9]
    ·exact hr1.elim
  unfold tv at hr1
  split at hr1
  ·rename_i n1 m1 cs1 o1
   split at hr1
   ·exact hP hr1 hrx hry
   ·split at hr1
    case h_2=>exact hr1.elim
    split at hr1
    case h_2=>exact hr1.elim
    rename_i e he
    cases hE:ac t u&&ac (V.esz e) m1 with
    |false=>rw [hE] at hr1;exact hr1.elim
    |true=>
     rw [hE] at hr1
     simp only [aj,Nat.beq_eq] at hE
     obtain ⟨htu,hw⟩:=hE
     have htu:t=u:=htu
     subst htu
     have hat:cl.argTypes= #[t,t]:=Array.ext' (by simpa using hts)
     have hrx':=hrx
     obtain ⟨A,c1,xs,rfl,hxl,hcl,hxc,_⟩:=oa hrx
     obtain ⟨B,c2,rfl⟩: ∃B c2,y= .slice B 0 c2:=by
      cases hry with
      |sl B n c2 _ _ _ val hl _ _ _ _=>simp at hl;subst hl;exact ⟨_,_,rfl⟩
     refine aX hd ht h ?_ hrx' hr1
     rw [hrun,hx,hat]
     simp only [builtin,bu,rP (p8 X he) A B n1 c1 c2 hxc,bq,b9]
   ·exact hr1.elim
  split at hr1
  ·exact hP hr1 hrx hry
  cases dst with
  |none=>exact hr1.elim
  |some d=>
   obtain ⟨htu,hrr,v',w',g',D',hrun',hs⟩:=Be (t':=ty) h hrx hry (nq hd) hr1
   subst htu
   have hat:cl.argTypes= #[t,t]:=Array.ext' (by simpa using hts)
   unfold Oper.wp
   rw [hrun,hx,hat]
   simp only [builtin,bu,hrun',bq,b9]
   exact ht.done hrr _ _ _ _ rfl hs
 ·rename_i k x0 k' y0
  obtain ⟨x,y,hx,hrx,hry⟩:=two rfl
  refine aX hd ht h (v:= .int k _) ?_ (.int _ _) hr1
  rw [hrun,hx,bV hrx,bV hry]
  simp [builtin,run_min_int2]
 ·rename_i k x0 k' y0
  obtain ⟨x,y,hx,hrx,hry⟩:=two rfl
  refine aX hd ht h (v:= .int k _) ?_ (.int _ _) hr1
  rw [hrun,hx,bV hrx,bV hry]
  simp [builtin,run_max_int2]
 ·exact hr1.elim
end
section
variable {U:Uni} {V:Env U} {P:Program} {X:Link V P} {c:Ctx} {tm:Array Value} {w:World} {σ:St U} {g:Gh U} {D:Nat->Option Nat}
theorem cS: ∀ {cs:List (PV U)} {j:Nat} {p:PV U},cs[j]? =some p-> ∀i∈p.ids,i∈PV.idsL cs:=by
 intro cs
 induction cs<;>grind [PV.idsL]
theorem dD: ∀ {cs:List (PV U)} {j:Nat} {p:PV U},PV.noObjL cs=true->cs[j]? =some p->p.noObj=true:=by
 intro cs
 induction cs<;>grind [PV.noObjL]
theorem Rep.plain {w':World} {N N':az} {g g':Gh U} {v:Value} {p:PV U} (h:Rep X w N g v p) (hw: ∀b o,b<w.heap.size-> ¬N b o->w'.cell? ⟨b,o,none⟩=w.cell? ⟨b,o,none⟩) (hN: ∀b o,b<w.heap.size->N' b o->N b o):
  p.noObj=true->(∀i∈p.ids,∀b,g.μ i=some b->g'.μ i=some b)->Rep X w' N' g' v p:=by
 have hcell: ∀a v,w.cell? a=some v-> ¬N a.block a.off->w'.cell? a=some v/\ ¬N' a.block a.off:=by
  grind [World.block_lt_of_cell?,pB]
 induction h with
 |undef v=>intro _ _;exact .undef v
 |int k n=>intro _ _;exact .int k n
 |bool b=>intro _ _;exact .bool b
 |str s=>intro _ _;exact .str s
 |sl A n c e l o val hl hc ho h1 h2 ih=>
  intro _ _
  refine .sl A n c e l o val hl hc ho (fun j x hx k p hp=> ?_) fun j x hx k p hp=>ih j x hx k p hp (X.eplain hp).1 (by rw [(X.eplain hp).2];simp)
  grind [Addr.add_block,Addr.add_off]
 |own i v val ver e val' hk hv he hs=>grind [PV.noObj]
 |agg vs cs hl h ih=>
  intro hn hi
  simp only [PV.noObj] at hn
  exact .agg vs cs hl fun j p hp=>ih j p hp (dD hn hp) fun i hi'=>hi i (by grind [PV.ids,cS])
 |tuple vs cs hl h ih=>
  intro hn hi
  simp only [PV.noObj] at hn
  exact .tuple vs cs hl fun j p hp=>ih j p hp (dD hn hp) fun i hi'=>hi i (by grind [PV.ids,cS])
 |ptr id off b hb=>intro _ hi;exact .ptr id off b (hi id (by simp [PV.ids]) b hb)
 |aptr id n b hb hn=>intro _ hi;exact .aptr id n b (hi id (by simp [PV.ids]) b hb) hn
 |mp id b hb=>intro _ hi;exact .mp id b (hi id (by simp [PV.ids]) b hb)
 |eptr e x off a val h1 h2 ih=>
  intro _ _
  refine .eptr e x off a val (fun k p hp=> ?_) fun k p hp=>ih k p hp (X.eplain hp).1 (by rw [(X.eplain hp).2];simp)
  grind [Addr.add_block,Addr.add_off]
 |any v h=>intro _ _;exact .any v h
 |pptr cs off a val h1 h2 ih=>
  intro hn hi
  simp only [PV.noObj] at hn
  refine .pptr cs off a val (fun k p hp=> ?_) fun k p hp=>ih k p hp (dD hn hp) fun i hi'=>hi i (by grind [PV.ids,cS])
  grind [Addr.add_block,Addr.add_off]
 |psl A n c m cs o val hl hc ho h1 h2 ih=>
  intro hn hi
  simp only [PV.noObj] at hn
  refine .psl A n c m cs o val hl hc ho (fun k p hp=> ?_) fun k p hp=>ih k p hp (dD hn hp) fun i hi'=>hi i (by grind [PV.ids,cS])
  grind [Addr.add_block,Addr.add_off]
 |optr i v j off val ver e val' hk hv he hs=>grind [PV.noObj]
 |func f a0s bs vs us ha hb h1 h2 i1 i2=>
  intro hn hi
  simp only [PV.noObj,aj] at hn
  exact .func f a0s bs vs us ha hb (fun j p hp=>i1 j p hp (dD hn.1 hp) fun i hi'=>hi i (by grind [PV.ids,cS]))
   (fun j p hp=>i2 j p hp (dD hn.2 hp) fun i hi'=>hi i (by grind [PV.ids,cS]))
 |iface t v p h ih=>intro hn hi;exact .iface t v p (ih hn hi)
 |nilIface=>intro _ _;exact .nilIface
 |nilPtr=>intro _ _;exact .nilPtr
 |nilFunc=>intro _ _;exact .nilFunc
structure Ent (U:Uni) where
 j:Nat
 e:U.E
 l:List (U.El e)
 val:Value
 u:Use
 Do:Option Nat
 src:Option Nat
structure KI (X:Link V P) (c:Ctx) (w:World) (g:Gh U) (D:Nat->Option Nat) (K:Kept U) (L:List (Ent U)):Prop where
 objs:K.objs=L.map fun x=>(x.j,⟨0,x.e,x.l⟩)
 uses:K.uses=L.map fun x=>(x.j,x.u)
 ok: ∀x∈L,ObOK X w (c.N g D) g x.e x.l x.val x.u x.Do/\ ∀b,x.Do=some b-> ∃i,x.src=some i/\D i=some b
 used:K.used=L.filterMap (·.src)
 nodup:K.used.Nodup
def RK (X:Link V P) (c:Ctx) (w:World) (σ:St U) (g:Gh U) (D:Nat->Option Nat) (K:Kept U) (L:List (Ent U)) (v:Value) (p:PV U):Prop:=
 (∃x∈L,p= .own x.j 0/\x.val=v)\/(∃i ob u,i∈K.read/\σ.o i=some ob/\p= .sl ob.e ob.l .none/\ObOK X w (c.N g D) g ob.e ob.l v u (D i))\/(p.noObj=true/\Rep X w (c.N g D) g v p)
theorem RK.mono {K K':Kept U} {L L':List (Ent U)} {v:Value} {p:PV U} (h:RK X c w σ g D K L v p) (hL: ∀x∈L,x∈L') (hK: ∀i∈K.read,i∈K'.read):RK X c w σ g D K' L' v p:=by
 rcases h with ⟨x,hx,h⟩|⟨i,ob,u,hi,h⟩|h
 ·exact .inl ⟨x,hL x hx,h⟩
 ·exact .inr (.inl ⟨i,ob,u,hK i hi,h⟩)
 ·exact .inr (.inr h)
theorem rG {i ver:Nat} {v:Value} (h:Sim X c tm w σ g D) (hv:Rep X w (c.N g D) g v (.own i ver)) {ob:Ob U} (ho:σ.o i=some ob) (hver:ob.ver=ver):ObOK X w (c.N g D) g ob.e ob.l v (σ.u i) (D i):=by
 obtain ⟨val,hk,hO⟩:=h.objs i ob ho
 cases hv with
 |own _ _ _ ver' e val' hk' hle he _=>
  grind
theorem ObOK.to {N:az} {e:U.E} {l:List (U.El e)} {val:Value} {u u':Use} {Do:Option Nat} {wr:Bool} (h:ObOK X w N g e l val u Do) (hu:u.to wr=some u'):ObOK X w N g e l val u' Do:=by
 obtain ⟨A,n,cp,h1,h2,h3,h4,h5⟩:=h.val
 refine ⟨A,n,cp,h1,h2,h3,h4, ?_⟩
 cases Do with
 |some b=>
  obtain ⟨h6,h7⟩:=h5
  refine ⟨fun e=> ?_,h7⟩
  subst e
  cases u<;>cases wr<;>simp [Use.to] at hu
 |none=>
  cases u<;>cases wr<;>simp [Use.to] at hu<;>subst hu<;>grind
theorem xV (h:Sim X c tm w σ g D) {t:Option (Nat×Bool)} {p q:PV U} {v:Value} {K K':Kept U} {L:List (Ent U)} (hv:Rep X w (c.N g D) g v p) (hK:KI X c w g D K L) (hr:gM σ t p K=some (q,K')):
  ∃L',KI X c w g D K' L'/\(∀x∈L,x∈L')/\(∀i∈K.read,i∈K'.read)/\RK X c w σ g D K' L' v q:=by
 have plain:qy t p K=some (q,K')-> ∃L',KI X c w g D K' L'/\(∀x∈L,x∈L')/\(∀i∈K.read,i∈K'.read)/\RK X c w σ g D K' L' v q:=by
  intro hh
  unfold qy at hh
  split at hh
  ·cases hb:p.noObj with
   |false=>grind
   |true=>
    rw [hb] at hh
    injection hh with hh
    injection hh with h1 h2
    subst h1;subst h2
    exact ⟨L,hK,fun _ h=>h,fun _ h=>h,.inr (.inr ⟨hb,hv⟩)⟩
  grind
 cases p with
 |own i ver=>
  simp only [gM] at hr
  split at hr
  case h_2=>cases hr
  rename_i ob hob
  cases hb:ac ob.ver ver with
  |false=>grind
  |true=>
   rw [hb] at hr
   have hO:=rG h hv hob (by simp_all)
   simp only [cond_true] at hr
   split at hr
   ·injection hr with hr
    injection hr with h1 h2
    subst h1;subst h2
    exact ⟨L,⟨hK.objs,hK.uses,hK.ok,hK.used,hK.nodup⟩,fun _ h=>h,fun i hi=>by simp [hi],.inr (.inl ⟨i,ob,_,by simp,hob,rfl,hO⟩)⟩
   ·rename_i j wr
    split at hr
    ·cases hr
    ·rename_i u hu
     cases hany:K.used.any (ac i) with
     |true=>grind
     |false=>
      rw [hany] at hr
      injection hr with hr
      injection hr with h1 h2
      subst h1;subst h2
      have hni:i∉K.used:=by
       intro hi
       have:K.used.any (ac i)=true:=List.any_eq_true.2 ⟨i,hi,by simp⟩
       grind
      refine ⟨⟨j,ob.e,ob.l,v,u,D i,some i⟩::L,⟨by simp [hK.objs],by simp [hK.uses],fun x hx=> ?_,by simp [hK.used], ?_⟩,fun x hx=>by simp [hx],fun _ h=>h,.inl ⟨_,List.mem_cons_self,rfl,rfl⟩⟩
      ·rcases cu.1 hx with rfl|hx
       ·exact ⟨hO.to hu,fun b hb=>⟨i,rfl,hb⟩⟩
       ·exact hK.ok x hx
      ·exact List.nodup_cons.2 ⟨hni,hK.nodup⟩
 |sl e l o=>
  have new: ∀ {j:Nat} {l':List (U.El e)} {u:Use},ObOK X w (c.N g D) g e l' v u none->q= .own j 0->K'=⟨(j,⟨0,e,l'⟩)::K.objs,(j,u)::K.uses,K.used,K.read⟩-> ∃L',KI X c w g D K' L'/\(∀x∈L,x∈L')/\(∀i∈K.read,i∈K'.read)/\RK X c w σ g D K' L' v q:=by
   intro j l' u hO h1 h2
   subst h1;subst h2
   refine ⟨⟨j,e,l',v,u,none,none⟩::L,⟨by simp [hK.objs],by simp [hK.uses],fun x hx=> ?_,by simp [hK.used],hK.nodup⟩,fun x hx=>by simp [hx],fun _ h=>h,.inl ⟨_,List.mem_cons_self,rfl,rfl⟩⟩
   rcases cu.1 hx with rfl|hx
   ·grind
   ·exact hK.ok x hx
  have hcells: ∀ {A n cp},v= .slice A n cp->n<=cp/\l.length=n/\ ∀ (j:Nat) x,l[j]? =some x-> ∀ (k:Nat) p,(V.cells e x)[k]? =some p-> ∃a v,A=some a/\w.cell? (a.add (j*X.esize e+k))=some v/\Rep X w (c.N g D) g v p/\((none:Option Nat)=none-> ¬ (c.N g D) a.block (a.off+(j*X.esize e+k))):=by
   intro A n cp hvv
   subst hvv
   cases hv<;>grind
  simp only [gM] at hr
  split at hr
  ·injection hr with hr
   injection hr with h1 h2
   subst h1;subst h2
   refine ⟨L,hK,fun _ h=>h,fun _ h=>h,.inr (.inr ⟨rfl, ?_⟩)⟩
   exact hv.less (.inr (.inr ⟨e,l,_,rfl,rfl⟩))
  ·cases hr
  ·cases hr
  ·cases hr
  ·rename_i j wr
   cases wr with
   |true=>cases hr
   |false=>
    simp only [cond_false] at hr
    injection hr with hr
    injection hr with h1 h2
    cases hv with
    |sl A n cp _ _ _ val hl hc ho r1 r2=>
     obtain ⟨a1,a2,a3⟩:=hcells rfl
     exact new (l':=l) ⟨A,n,cp,rfl,a2,a1,a3,by simp,fun _=>ho⟩ h1.symm h2.symm
  ·rename_i j wr
   injection hr with hr
   injection hr with h1 h2
   cases hv with
   |sl A n cp _ _ _ val hl hc ho r1 r2=>
    obtain ⟨rfl,rfl,rfl⟩:=ho
    exact new (l':=[]) ⟨none,0,0,rfl,rfl,b7 _,by simp,fun _=>⟨rfl,rfl,rfl⟩,fun _=>rfl⟩ h1.symm h2.symm
 |agg cs=>cases hr
 |tuple cs=>cases hr
 |optr i v j off=>cases hr
 |fresh e l=>cases hr
 |undef=>exact plain hr
 |int k n=>exact plain hr
 |bool b=>exact plain hr
 |str s=>exact plain hr
 |ptr id off=>exact plain hr
 |aptr id n=>exact plain hr
 |eptr e x off=>exact plain hr
 |any=>exact plain hr
 |pptr cs off=>exact plain hr
 |psl n m cs o=>exact plain hr
 |mp id=>exact plain hr
 |func f a b=>exact plain hr
 |iface t p=>exact plain hr
 |nilIface=>exact plain hr
 |nilPtr=>exact plain hr
 |nilFunc=>exact plain hr
theorem BF (h:Sim X c tm w σ g D): ∀ (rs:List (Nat×Option (Nat×Bool))) {K K':Kept U} {L:List (Ent U)} {l:List (Nat×PV U)},KI X c w g D K L->jc σ rs K=some (l,K')->
  ∃L',KI X c w g D K' L'/\(∀x∈L,x∈L')/\(∀i∈K.read,i∈K'.read)/\ ∀n p,(n,p)∈l->RK X c w σ g D K' L' (tm.getD n undef) p:=by
 intro rs
 induction rs with
 |nil=>
  grind [jc]
 |cons nt rs ih=>
  intro K K' L l hK hr
  obtain ⟨n,t⟩:=nt
  simp only [jc] at hr
  split at hr
  case h_2=>cases hr
  rename_i v K1 hv
  split at hr
  case h_2=>cases hr
  rename_i l' K2 hl
  injection hr with hr
  injection hr with h1 h2
  subst h1;subst h2
  obtain ⟨L1,k1,k2,k3,k4⟩:=xV h (h.regs n) hK hv
  obtain ⟨L2,m1,m2,m3,m4⟩:=ih k1 hl
  refine ⟨L2,m1,fun x hx=>m2 x (k2 x hx),fun i hi=>m3 i (k3 i hi),fun n' p hp=> ?_⟩
  rcases cu.1 hp with hp|hp
  ·injection hp with e1 e2
   subst e1;subst e2
   exact k4.mono m2 m3
  grind
theorem BE (h:Sim X c tm w σ g D): ∀ (ts:List (Option (Nat×Bool))) (cs:List (PV U)) (vs:Nat->Value) {K K':Kept U} {L:List (Ent U)} {l:List (PV U)},KI X c w g D K L->(∀ (j:Nat) p,cs[j]? =some p->Rep X w (c.N g D) g (vs j) p)->fM σ ts cs K=some (l,K')->
  ∃L',KI X c w g D K' L'/\(∀x∈L,x∈L')/\(∀i∈K.read,i∈K'.read)/\l.length=cs.length/\ ∀ (j:Nat) p,l[j]? =some p->RK X c w σ g D K' L' (vs j) p:=by
 intro ts
 induction ts with
 |nil=>
  grind [fM]
 |cons t ts ih=>
  intro cs vs K K' L l hK hc hr
  cases cs with
  |nil=>simp [fM] at hr
  |cons p cs=>
   simp only [fM] at hr
   split at hr
   case h_2=>cases hr
   rename_i v K1 hv
   split at hr
   case h_2=>cases hr
   rename_i l' K2 hl
   injection hr with hr
   injection hr with h1 h2
   subst h1;subst h2
   obtain ⟨L1,k1,k2,k3,k4⟩:=xV h (hc 0 p rfl) hK hv
   obtain ⟨L2,m1,m2,m3,m5,m4⟩:=ih cs (fun j=>vs (j+1)) k1 (fun j p hp=>hc (j+1) p (by grind)) hl
   refine ⟨L2,m1,fun x hx=>m2 x (k2 x hx),fun i hi=>m3 i (k3 i hi),by simp [m5],fun j q hq=> ?_⟩
   cases j with
   |zero=>simp at hq;subst hq;exact k4.mono m2 m3
   |succ j=>grind
def BK (X:Link V P) (c:Ctx) (w:World) (σ:St U) (g:Gh U) (D:Nat->Option Nat) (K:Kept U) (L:List (Ent U)) (id:Nat):Box U->Prop
 | .cells cs=> ∃k cur e,g.μ id=some k/\w.heap[k]? =some (.cells cur e (0,0))/\TailOK cur cs.length (c.ο k)/\ ∀ (j:Nat) p,cs[j]? =some p->RK X c w σ g D K L (cur.getD j undef) p
 | .map e l=> ∃k,g.μ id=some k/\BoxOK X w (c.N g D) g (c.ο k) k (.map e l)
theorem BK.mono {K K':Kept U} {L L':List (Ent U)} {id:Nat} {b:Box U} (h:BK X c w σ g D K L id b) (hL: ∀x∈L,x∈L') (hK: ∀i∈K.read,i∈K'.read):BK X c w σ g D K' L' id b:=by
 cases b with
 |cells cs=>obtain ⟨k,cur,e,h1,h2,h3,h4⟩:=h;exact ⟨k,cur,e,h1,h2,h3,fun j p hp=>(h4 j p hp).mono hL hK⟩
 |map e l=>exact h
theorem BC (h:Sim X c tm w σ g D): ∀ (bx:List (Nat×List (Option (Nat×Bool)))) {K K':Kept U} {L:List (Ent U)} {l:List (Nat×Box U)},KI X c w g D K L->dX σ bx K=some (l,K')->
  ∃L',KI X c w g D K' L'/\(∀x∈L,x∈L')/\(∀i∈K.read,i∈K'.read)/\ ∀n b,(n,b)∈l->BK X c w σ g D K' L' n b:=by
 intro bx
 induction bx with
 |nil=>
  grind [dX]
 |cons nt bx ih=>
  intro K K' L l hK hr
  obtain ⟨n,ts⟩:=nt
  simp only [dX] at hr
  split at hr
  ·rename_i cs hcs
   split at hr
   case h_2=>cases hr
   rename_i cs' K1 hv
   split at hr
   case h_2=>cases hr
   rename_i l' K2 hl
   injection hr with hr
   injection hr with h1 h2
   subst h1;subst h2
   obtain ⟨k,hk,cur,e,b1,b2,b3⟩:=h.boxes _ _ hcs
   obtain ⟨L1,k1,k2,k3,k5,k4⟩:=BE h ts cs (fun j=>cur.getD j undef) hK b3 hv
   obtain ⟨L2,m1,m2,m3,m4⟩:=ih k1 hl
   refine ⟨L2,m1,fun x hx=>m2 x (k2 x hx),fun i hi=>m3 i (k3 i hi),fun n' b hb=> ?_⟩
   rcases cu.1 hb with hb|hb
   ·injection hb with e1 e2
    subst e1;subst e2
    exact ⟨k,cur,e,hk,b1,k5▸b2,fun j p hp=>(k4 j p hp).mono m2 m3⟩
   grind
  ·rename_i e l0 hcs
   split at hr
   case h_2=>cases hr
   rename_i l' K2 hl
   injection hr with hr
   injection hr with h1 h2
   subst h1;subst h2
   obtain ⟨k,hk,hbx⟩:=h.boxes _ _ hcs
   obtain ⟨L2,m1,m2,m3,m4⟩:=ih hK hl
   refine ⟨L2,m1,m2,m3,fun n' b hb=> ?_⟩
   rcases cu.1 hb with hb|hb
   ·injection hb with e1 e2
    subst e1;subst e2
    exact ⟨k,hk,hbx⟩
   grind
  grind
end
section
variable {U:Uni} {V:Env U} {P:Program} {X:Link V P} {c:Ctx} {tm:Array Value} {w:World} {σ:St U} {g:Gh U} {D:Nat->Option Nat}
theorem lv {α:Type}: ∀ {l:List (Nat×α)} {n:Nat} {x:α},bw l n=some x->(n,x)∈l:=by
 intro l
 induction l with
 |nil=>intro n x h;cases h
 |cons a l ih=>
  grind [eV]
theorem qF {α:Type}: ∀ {l:List (Nat×α)} {n:Nat},bw l n=none-> ∀x,(n,x)∉l:=by
 intro l
 induction l<;>grind [eV]
theorem pY: ∀ {l:List Nat},gw l=true->l.Nodup:=by
 intro l
 induction l with
 |nil=>simp
 |cons n r ih=>
  intro h
  simp only [gw,aj,Bool.not_eq_true'] at h
  refine List.nodup_cons.2 ⟨fun hn=> ?_,ih h.2⟩
  have:r.any (ac n)=true:=List.any_eq_true.2 ⟨n,hn,by simp⟩
  grind
theorem FO {α:Type} {l:List (Nat×α)} (h:(l.map (·.1)).Nodup) {n:Nat} {x y:α} (hx:(n,x)∈l) (hy:(n,y)∈l):x=y:=by
 induction l<;>grind
theorem mL (h:Sim X c tm w σ g D) {A:Ann} {τ:St U} (hc:cR A σ=some τ): ∃g' D',Sim X c tm w τ g' D':=by
 unfold cR at hc
 split at hc
 case h_2=>cases hc
 rename_i rs K1 hR
 split at hc
 case h_2=>cases hc
 rename_i bs K2 hB
 have h0:KI X c w g D (⟨[],[],[],[]⟩:Kept U) []:=⟨rfl,rfl,by simp,rfl,List.nodup_nil⟩
 obtain ⟨L1,k1,_,_,r1⟩:=BF h A.regs h0 hR
 obtain ⟨L,k2,m2,m3,b2⟩:=BC h A.boxes k1 hB
 have r2: ∀n p,(n,p)∈rs->RK X c w σ g D K2 L (tm.getD n undef) p:=fun n p hp=>(r1 n p hp).mono m2 m3
 cases hb:(!(K2.used.any fun i=>K2.read.any (ac i))&&gw (K2.objs.map (·.1))&&(gw (bs.map (·.1))&&((PV.idsL (rs.map (·.2))++bs.flatMap (·.2.ids)).all fun i=>(bs.map (·.1)).any (ac i)))) with
 |false=>grind
 |true=>
 rw [hb] at hc
 injection hc with hc
 subst hc
 simp only [aj] at hb
 obtain ⟨⟨hur,hdo⟩,hdb,hids⟩:=hb
 have hur': ∀i,i∈K2.used->i∉K2.read:=by
  simp_all
 have hdo':(L.map (·.j)).Nodup:=by
  have:=pY hdo
  rw [k2.objs,List.map_map] at this
  exact this
 have hdb':=pY hdb
 have hids': ∀i,(i∈PV.idsL (rs.map (·.2))\/i∈bs.flatMap (·.2.ids))->i∈bs.map (·.1):=by
  intro i hi
  have:=bW.1 hids i (cP.2 hi)
  simp_all
 have huniq: ∀x∈L,∀y∈L,x.j=y.j->x=y:=by
  intro x hx y hy hxy
  have hn:(L.map fun x=>(x.j,x)).map (·.1)=L.map (·.j):=by simp
  exact FO (l:=L.map fun x=>(x.j,x)) (by grind) (ck.2 ⟨x,hx,rfl⟩) (ck.2 ⟨y,hy,by rw [hxy]⟩)
 let ent:Nat->Option (Ent U):=fun j=>L.find? fun x=>x.j==j
 have ent_mem: ∀x∈L,ent x.j=some x:=by
  intro x hx
  cases hf:ent x.j<;>grind
 have ent_some: ∀j x,ent j=some x->x∈L/\x.j=j:=fun j x hx=>⟨List.mem_of_find?_eq_some hx,by grind⟩
 let g':Gh U:={μ:=fun id=>if id∈bs.map (·.1) then g.μ id else none,κ:=fun j=>(ent j).map fun x=>(0,x.e,x.val)}
 let D':Nat->Option Nat:=fun j=>(ent j).bind (·.Do)
 have hD': ∀j b,D' j=some b-> ∃x∈L,x.j=j/\x.Do=some b/\ ∃i,x.src=some i/\D i=some b:=by
  intro j b hj
  cases he:ent j with
  |none=>grind
  |some x=>
   obtain ⟨hx,hxj⟩:=ent_some j x he
   have hDo:x.Do=some b:=by grind
   exact ⟨x,hx,hxj,hDo,(k2.ok x hx).2 b hDo⟩
 have hN: ∀b o,b<w.heap.size->(c.N g' D') b o->(c.N g D) b o:=by
  rintro b o _ (hn|⟨id,hid⟩|⟨j,hj⟩)
  ·exact .inl hn
  ·simp only [g'] at hid
   split at hid
   ·exact .inr (.inl ⟨id,hid⟩)
   grind
  ·obtain ⟨x,_,_,_,i,_,hi⟩:=hD' j b hj
   exact .inr (.inr ⟨i,hi⟩)
 have hw: ∀b o,b<w.heap.size-> ¬ (c.N g D) b o->w.cell? ⟨b,o,none⟩=w.cell? ⟨b,o,none⟩:=fun _ _ _ _=>rfl
 have src_used: ∀x∈L,∀i,x.src=some i->i∈K2.used:=by
  intro x hx i hi
  rw [k2.used]
  grind
 have src_inj: ∀x∈L,∀y∈L,∀i,x.src=some i->y.src=some i->x=y:=by
  have hnd:=k2.nodup
  rw [k2.used] at hnd
  intro x hx y hy i hxi hyi
  clear_value g' D'
  clear ent_mem ent_some hD' hN huniq hdo' r2 r1 b2 k2 m2 src_used
  induction L<;>grind
 have hrep: ∀v p,RK X c w σ g D K2 L v p->(∀i∈p.ids,i∈bs.map (·.1))->Rep X w (c.N g' D') g' v p:=by
  intro v p hv hi
  rcases hv with ⟨x,hx,rfl,rfl⟩|⟨i,ob,u,hir,hob,rfl,hO⟩|⟨hn,hr⟩
  ·have hO:=(k2.ok x hx).1
   obtain ⟨A,n,cp,hv,_⟩:=hO.val
   exact .own x.j 0 _ 0 x.e x.val (by grind) (b7 _) (fun _=>rfl) ⟨A,n,cp,hv⟩
  ·have hplain: ∀ {v:Value} {e:U.E} {x:U.El e} {k:Nat} {p:PV U},(V.cells e x)[k]? =some p->Rep X w (c.N g D) g v p->Rep X w (c.N g' D') g' v p:=
    fun hp hr=>hr.plain hw hN (X.eplain hp).1 (by rw [(X.eplain hp).2];simp)
   refine ObOK.rep (u:= .read) ?_
   obtain ⟨A,n,cp,h1,h2,h3,h4,h5⟩:=hO.val
   refine ⟨A,n,cp,h1,h2,h3,fun j x hx k p hp=> ?_,by simp⟩
   obtain ⟨b,v',hA,hcell,hr,hn⟩:=h4 j x hx k p hp
   refine ⟨b,v',hA,hcell,hplain hp hr,fun _=> ?_⟩
   have hlt:=World.block_lt_of_cell? w _ hcell
   rw [Addr.add_block] at hlt
   cases hDi:D i with
   |none=>grind
   |some b'=>
    rw [hDi] at h5
    obtain ⟨_,cur,hA',_⟩:=h5
    rw [hA] at hA'
    injection hA' with hA'
    subst hA'
    rintro (hn'|⟨id,hid⟩|⟨q,hq⟩)
    ·have h6:=c.n0 _ _ hn'
     rcases (h.dnew i b' hDi).2 with h7|h7<;>grind
    ·simp only [g'] at hid
     split at hid
     ·exact h.dbox i id b' hDi hid
     grind
    ·obtain ⟨y,hy,_,_,i',hi',hDi'⟩:=hD' q b' hq
     have:=h.dinj _ _ _ hDi' hDi
     grind
  ·exact hr.plain hw hN hn fun i hi' b hb=>by grind
 have hplain: ∀ {v:Value} {e:U.E} {x:U.El e} {k:Nat} {p:PV U},(V.cells e x)[k]? =some p->Rep X w (c.N g D) g v p->Rep X w (c.N g' D') g' v p:=
  fun hp hr=>hr.plain hw hN (X.eplain hp).1 (by rw [(X.eplain hp).2];simp)
 have hlook: ∀id b,bw bs id=some b->id∈bs.map (·.1):=fun id b hb=>List.mem_map_of_mem (f:=(·.1)) (lv hb)
 refine ⟨g',D',{nt:=h.nt,regs:=fun n=> ?_,boxes:=fun id b hb=> ?_,dom:=fun id k hk=> ?_,inj:=fun id id' k hk hk'=> ?_,new:=fun id k hk=> ?_,objs:=fun j ob ho=> ?_,nobj:=fun j ho=> ?_,dinj:=fun j j' b hb hb'=> ?_,dnew:=fun j b hb=> ?_,dbox:=fun j id b hb hm=> ?_,ext:=h.ext,gl:=h.gl,fix:=fun id k hk=> ?_}⟩
 ·unfold St.r
  simp only
  cases hl:bw rs n with
  |none=>exact .undef _
  |some p=>
   have hm:=lv hl
   grind [List.mem_iff_getElem?,List.mem_map_of_mem,cS]
 ·have hb':bw bs id=some b:=hb
  have hm:=lv hb'
  have hbk:=b2 id b hm
  have hin:=hlook id b hb'
  cases b with
  |cells cs=>
   obtain ⟨k,cur,e,q1,q2,q3,q4⟩:=hbk
   refine ⟨k,by grind,cur,e,q2,q3,fun j p hp=>hrep _ _ (q4 j p hp) fun i hi=>hids' i (.inr ?_)⟩
   grind [Box.ids,cS]
  |map e l=>
   obtain ⟨k,q1,en,cl,q2,q3,q4⟩:=hbk
   refine ⟨k,by grind,en,cl,q2,q3,fun j x t hx=> ?_⟩
   grind
 ·simp only [g'] at hk
  split at hk
  ·rename_i hin
   cases hl:bw bs id with
   |none=>
    grind [qF]
   |some b=>exact ⟨b,hl⟩
  grind
 ·simp only [g'] at hk hk'
  split at hk<;>split at hk'<;>first|cases hk|cases hk'|exact h.inj _ _ _ hk hk'
 ·simp only [g'] at hk
  split at hk
  ·exact h.new id k hk
  grind
 ·have ho':bw K2.objs j=some ob:=ho
  have hm:=lv ho'
  rw [k2.objs] at hm
  obtain ⟨x,hx,hx1⟩:=ck.1 hm
  injection hx1 with e1 e2
  subst e1;subst e2
  have hu:bw K2.uses x.j=some x.u:=by
   cases hl:bw K2.uses x.j with
   |none=>exact absurd (by rw [k2.uses];grind) (qF hl x.u)
   |some u'=>
    have hm':=lv hl
    rw [k2.uses] at hm'
    grind
  have hO:=(k2.ok x hx).1
  refine ⟨x.val,by grind, ?_⟩
  have hu':(⟨rs,bs,K2.objs,K2.uses⟩:St U).u x.j=x.u:=by grind [St.u]
  have hDe:D' x.j=x.Do:=by grind
  rw [hu',hDe]
  obtain ⟨A,n,cp,h1,h2,h3,h4,h5⟩:=hO.val
  refine ⟨A,n,cp,h1,h2,h3,fun j x' hx' k p hp=> ?_,h5⟩
  grind [World.block_lt_of_cell?,Addr.add_block]
 ·have hnone:ent j=none:=by
   cases he:ent j with
   |none=>rfl
   |some x=>
    obtain ⟨hx,hxj⟩:=ent_some j x he
    have ho':bw K2.objs j=none:=ho
    exact absurd (by rw [k2.objs];grind) (qF ho' ⟨0,x.e,x.l⟩)
  grind
 ·obtain ⟨x,hx,hxj,_,i,hi,hDi⟩:=hD' j b hb
  obtain ⟨y,hy,hyj,_,i',hi',hDi'⟩:=hD' j' b hb'
  have:=h.dinj _ _ _ hDi hDi'
  grind
 ·obtain ⟨_,_,_,_,i,_,hi⟩:=hD' j b hb
  exact h.dnew i b hi
 ·obtain ⟨_,_,_,_,i,_,hi⟩:=hD' j b hb
  simp only [g'] at hm
  split at hm
  ·exact h.dbox i id b hi hm
  grind
 ·simp only [g'] at hk
  split at hk
  ·exact h.fix id k hk
  grind
end
section
variable {U:Uni} {V:Env U} {P:Program} (X:Link V P)
def gB (U:Uni) (n:Nat) (ν:Nat->Nat):Gh U:=⟨fun k=>if k<n then some (ν k) else none,fun _=>none⟩
def NB (N0:az) (n:Nat) (ν:Nat->Nat) (δ:Nat->Option Nat):az:=fun b o=>N0 b o\/(∃k,k<n/\ν k=b)\/(∃j,δ j=some b)
def RepG (w:World) (N:az) (g:Gh U) (v:Value) (Do:Option Nat):PV U->Prop
 | .fresh e l=>ObOK X w N g e l v .wr Do
 |p=>Rep X w N g v p
def RepR (w:World) (N:az) (g:Gh U) (v:Value) (δ:Nat->Option Nat):PV U->Prop
 | .tuple ps=> ∃vs:Array Value,v= .tuple vs/\vs.size=ps.length/\ ∀ (j:Nat) p,ps[j]? =some p->RepG X w N g (vs.getD j undef) (δ j) p
 |p=>RepG X w N g v (δ 0) p
structure Bnd (w:World) (N0:az) (n:Nat) (ν:Nat->Nat) (δ:Nat->Option Nat):Prop where
 inj: ∀i j,i<n->j<n->ν i=ν j->i=j
 lt: ∀i,i<n->ν i<w.heap.size
 dlt: ∀j b,δ j=some b->b<w.heap.size
 dinj: ∀i j b,δ i=some b->δ j=some b->i=j
 dν: ∀j b,δ j=some b-> ∀i,i<n->ν i≠b
 n0: ∀b o,N0 b o->b<w.heap.size/\(∀i,i<n->ν i≠b)/\ ∀j,δ j≠some b
structure Given (w:World) (vs:Array Value) (N0:az) (ν:Nat->Nat) (δ:Nat->Option Nat) (ο:Nat->Array Value) (args:List (PV U)) (boxes:List (Box U)):Prop where
 bnd:Bnd w N0 boxes.length ν δ
 size:vs.size=args.length
 dom: ∀j b,δ j=some b->j<args.length
 glob: ∀b o,(b,o)∈X.gblk->w.heap[b]? =some o/\(∀i,i<boxes.length->ν i≠b)/\ ∀j,δ j≠some b
 args: ∀ (j:Nat) p,args[j]? =some p->RepG X w (NB N0 boxes.length ν δ) (gB U boxes.length ν) (vs.getD j undef) (δ j) p
 boxes: ∀ (k:Nat) b,boxes[k]? =some b->BoxOK X w (NB N0 boxes.length ν δ) (gB U boxes.length ν) (ο (ν k)) (ν k) b
 oz: ∀b,w.heap.size<=b->ο b= #[]
def iz (n m:Nat) (ν:Nat->Nat) (δ:Nat->Option Nat):List Nat:=(List.range n).map ν++(List.range m).filterMap δ
structure Back (w w':World) (N0:az) (ν:Nat->Nat) (δ:Nat->Option Nat) (ο:Nat->Array Value) (n m:Nat) (ν':Nat->Nat) (δ':Nat->Option Nat) (cs:List (Box U)):Prop where
 ext:Ext (iz n m ν δ) w w'
 le:n<=cs.length
 old: ∀i,i<n->ν' i=ν i
 new: ∀i,n<=i->i<cs.length->w.heap.size<=ν' i
 dnew: ∀j b,δ' j=some b->w.heap.size<=b\/ ∃i,δ i=some b
 bnd:Bnd w' N0 cs.length ν' δ'
 boxes: ∀ (k:Nat) b,cs[k]? =some b->BoxOK X w' (NB N0 cs.length ν' δ') (gB U cs.length ν') (ο (ν' k)) (ν' k) b
def Ret (w:World) (N0:az) (ν:Nat->Nat) (δ:Nat->Option Nat) (ο:Nat->Array Value) (n m:Nat) (out:Out U):Ending->World->Prop
 | .returned rv,w'=>match out with
  | .ret v cs=> ∃ν' δ',Back X w w' N0 ν δ ο n m ν' δ' cs/\RepR X w' (NB N0 cs.length ν' δ') (gB U cs.length ν') rv δ' v
  | .panic _ _=>False
 | .panicked chain,w'=>match out with
  | .ret _ _=>False
  | .panic v cs=>cs.length=n/\ ∃val,chain=[{v:=val,recovered:=false}]/\Back X w w' N0 ν δ ο n m ν (fun _=>none) cs/\Rep X w' (NB N0 n ν fun _=>none) (gB U n ν) val v
 | .outgrown,_=>False
def eG (CP:FuncId->Array Value->World->(Ending->World->Prop)->Prop):bA U:=fun f args boxes out=>
 (∃fn,P.funcs[f]? =some fn/\(fn.name== "runtime.NumGoroutine")=false/\fn.body.isNone=false)/\
 ∀ (w:World) (vs:Array Value) (N0:az) (ν:Nat->Nat) (δ:Nat->Option Nat) (ο:Nat->Array Value),Given X w vs N0 ν δ ο args boxes->CP f vs w (Ret X w N0 ν δ ο boxes.length args.length (out.full boxes))
def bL:bA U:=fun f args boxes out=>
 (∃fn,P.funcs[f]? =some fn/\(fn.name== "runtime.NumGoroutine")=false/\fn.body.isNone=false)/\
 ∀ (w:World) (vs:Array Value) (N0:az) (ν:Nat->Nat) (δ:Nat->Option Nat) (ο:Nat->Array Value),Given X w vs N0 ν δ ο args boxes->Calls P f vs w (Ret X w N0 ν δ ο boxes.length args.length (out.full boxes))
theorem Ret.full {X:Link V P} {w:World} {N0:az} {ν:Nat->Nat} {δ:Nat->Option Nat} {ο:Nat->Array Value} {boxes:List (Box U)} {m:Nat} {out:Out U} {e:Ending} {w':World} (h:Ret X w N0 ν δ ο boxes.length m out e w'):Ret X w N0 ν δ ο boxes.length m (out.full boxes) e w':=by
 cases out with
 |panic v cs=>exact h
 |ret v cs=>
  cases e with
  |returned rv=>
   obtain ⟨ν',δ',hb,hr⟩:=id h
   have:a7 boxes.length cs.length=true:=by simpa using hb.le
   grind [Out.full]
  |panicked ch=>exact h.elim
  |outgrown=>exact h.elim
variable {X} {c:Ctx} {tm:Array Value} {w:World} {σ:St U} {g:Gh U} {D:Nat->Option Nat}
theorem Sim.move (h:Sim X c tm w σ g D) {w':World} {σ':St U} {g':Gh U} {D':Nat->Option Nat} (chB chO:Nat->Prop)
  (hos:w'.os=w.os) (htape:w'.tape=w.tape) (hout:w'.output=w.output) (hsize:w.heap.size<=w'.heap.size)
  (hblk: ∀b,b<w.heap.size->(∀id,chB id->g.μ id≠some b)->(∀j,chO j->D j≠some b)->w'.heap[b]? =w.heap[b]?)
  (hr: ∀n,σ'.r n=σ.r n) (hle:g.le g')
  (hμ: ∀id k,g'.μ id=some k->g.μ id=some k\/(g.μ id=none/\w.heap.size<=k/\k<w'.heap.size))
  (hfix: ∀id k,g.μ id=none->g'.μ id=some k->c.fix id=none)
  (hμinj: ∀id id' k,g.μ id=none->g'.μ id=some k->g'.μ id'=some k->id=id')
  (hbold: ∀id,¬chB id->σ'.b id=σ.b id/\g'.μ id=g.μ id)
  (hbnew:(∀v p,Rep X w (c.N g D) g v p->Rep X w' (c.N g' D') g' v p)-> ∀id b,chB id->σ'.b id=some b-> ∃k,g'.μ id=some k/\BoxOK X w' (c.N g' D') g' (c.ο k) k b)
  (hbdom: ∀id k,chB id->g'.μ id=some k-> ∃b,σ'.b id=some b)
  (hD: ∀j b,D' j=some b->(¬chO j/\D j=some b)\/((∃i,chO i/\D i=some b)\/(w.heap.size<=b/\b<w'.heap.size)))
  (hdinj: ∀j j' b,chO j->D' j=some b->D' j'=some b->j=j')
  (hDμ: ∀j b,chO j->D' j=some b-> ∀id,g'.μ id≠some b)
  (hold: ∀j,¬chO j->σ'.o j=σ.o j/\σ'.u j=σ.u j/\D' j=D j/\g'.κ j=g.κ j)
  (hobj: ∀j ob,chO j->σ'.o j=some ob-> ∃val,g'.κ j=some (ob.ver,ob.e,val)/\ObOK X w' (c.N g' D') g' ob.e ob.l val (σ'.u j) (D' j))
  (hnobj: ∀j,chO j->σ'.o j=none->g'.κ j=none/\D' j=none):Sim X c tm w' σ' g' D':=by
 have hNold: ∀b o,b<w.heap.size->(c.N g' D') b o->(c.N g D) b o:=by
  rintro b o hlt (hn|⟨id,hid⟩|⟨j,hj⟩)
  ·exact .inl hn
  ·rcases hμ id b hid with h1|⟨_,h1,_⟩
   ·exact .inr (.inl ⟨id,h1⟩)
   ·omega
  ·rcases hD j b hj with ⟨_,hj'⟩|⟨i,_,hi⟩|hk
   ·exact .inr (.inr ⟨j,hj'⟩)
   ·exact .inr (.inr ⟨i,hi⟩)
   ·omega
 have hw: ∀b o,b<w.heap.size-> ¬ (c.N g D) b o->w'.cell? ⟨b,o,none⟩=w.cell? ⟨b,o,none⟩:=fun b o hlt hn=>by
  unfold World.cell?
  rw [hblk b hlt (fun id _ hid=>hn (.inr (.inl ⟨id,hid⟩))) fun j _ hj=>hn (.inr (.inr ⟨j,hj⟩))]
 exact
  {nt:=h.nt
   regs:=fun n=>by rw [hr];exact (h.regs n).mono X hw hNold hle
   boxes:=fun id b hb=>by
    by_cases hc:chB id
    ·exact hbnew (fun v p hp=>hp.mono X hw hNold hle) id b hc hb
    ·obtain ⟨h1,h2⟩:=hbold id hc
     rw [h1] at hb
     obtain ⟨k,hk,hbox⟩:=h.boxes id b hb
     exact ⟨k,h2▸hk,hbox.mono (hblk k (h.new id k hk).1 (fun id' hc' hid'=>hc (h.inj _ _ _ hk hid'▸hc')) fun j _ hj=>h.dbox j id k hj hk) hw hNold hle⟩
   dom:=fun id k hk=>by
    by_cases hc:chB id
    ·grind
    ·obtain ⟨h1,h2⟩:=hbold id hc
     rw [h1];exact h.dom id k (h2▸hk)
   inj:=fun id id' k hk hk'=>by
    rcases hμ id k hk with h1|⟨h1,_⟩
    ·rcases hμ id' k hk' with h2|⟨h2,_⟩
     ·exact h.inj _ _ _ h1 h2
     grind
    grind
   new:=fun id k hk=>by
    rcases hμ id k hk with h1|⟨_,h1,h2⟩
    ·have:=h.new id k h1;grind
    ·exact ⟨h2,.inr (dI h.ext.size h1)⟩
   objs:=fun j ob ho=>by
    by_cases hj:chO j
    ·grind
    ·obtain ⟨h1,h2,h3,h4⟩:=hold j hj
     rw [h1] at ho
     obtain ⟨val,hk,hob⟩:=h.objs j ob ho
     rw [h2,h3,h4]
     exact ⟨val,hk,hob.mono (fun k hk=>hblk k (h.dnew j k hk).1 (fun id _ hid=>h.dbox j id k hk hid) fun i hi hi'=>hj (h.dinj _ _ _ hi' hk▸hi)) hw hNold hle⟩
   nobj:=fun j ho=>by
    by_cases hj:chO j
    ·grind
    ·obtain ⟨h1,h2,h3,h4⟩:=hold j hj
     rw [h3,h4];exact h.nobj j (h1▸ho)
   dinj:=fun j j' b hb hb'=>by
    by_cases hj:chO j
    ·grind
    ·by_cases hj':chO j'
     ·grind
     ·rw [(hold j hj).2.2.1] at hb;rw [(hold j' hj').2.2.1] at hb'
      exact h.dinj _ _ _ hb hb'
   dnew:=fun j b hb=>by
    rcases hD j b hb with ⟨_,hj'⟩|⟨i,_,hi⟩|hk
    ·have:=h.dnew j b hj';grind
    ·have:=h.dnew i b hi;grind
    ·exact ⟨hk.2,.inr (dI h.ext.size hk.1)⟩
   dbox:=fun j id b hb hm=>by
    by_cases hj:chO j
    ·grind
    ·rw [(hold j hj).2.2.1] at hb
     rcases hμ id b hm with h1|⟨_,h1,_⟩
     ·exact h.dbox j id b hb h1
     ·have:=(h.dnew j b hb).1;omega
   ext:=⟨hos.trans h.ext.os,htape.trans h.ext.tape,hout.trans h.ext.output,dI h.ext.size hsize,fun b hlt hn=>by
    rw [hblk b (eJ hlt h.ext.size) (fun id _ hid=>by
     rcases (h.new id b hid).2 with h1|h1<;>grind) fun j _ hj=>by
     rcases (h.dnew j b hj).2 with h1|h1<;>grind]
    exact h.ext.block b hlt hn⟩
   gl:=h.gl
   fix:=fun id k hk=>by
    rcases hμ id k hk with h1|⟨h1,h2,_⟩
    ·exact h.fix id k h1
    ·exact .inr ⟨hfix id k h1 hk,dI h.ext.size h2⟩}
end
section
variable {U:Uni} {V:Env U} {P:Program} {X:Link V P} {K:bA U} {c:Ctx} {tm:Array Value} {w:World} {σ:St U} {g:Gh U} {D:Nat->Option Nat}
variable {r:MR U} {τ:St U} {fp gp:List Loc} {N:az}
theorem cq (keep:Bool) (ρ:Nat->Nat): ∀ (cs:List (PV U)),PV.renL keep ρ cs=cs.map (PV.ren keep ρ):=by
 intro cs
 induction cs<;>grind [PV.renL]
theorem Rep.ren {w':World} {N N':az} {g g':Gh U} {v:Value} {p:PV U} (h:Rep X w N g v p) (keep:Bool) (ρ:Nat->Nat) (hw: ∀b o,b<w.heap.size-> ¬N b o->w'.cell? ⟨b,o,none⟩=w.cell? ⟨b,o,none⟩) (hN: ∀b o,b<w.heap.size->N' b o->N b o)
  (hno:p.noObj=true\/ ∀i,g.κ i=none) (hμ: ∀i,i∈p.ids-> ∀b,g.μ i=some b->g'.μ (ρ i)=some b):Rep X w' N' g' v (p.ren keep ρ):=by
 have hcell: ∀a v,w.cell? a=some v-> ¬N a.block a.off->w'.cell? a=some v/\ ¬N' a.block a.off:=by
  grind [World.block_lt_of_cell?,pB]
 have hel: ∀ {v:Value} {e:U.E} {x:U.El e} {k:Nat} {p:PV U},(V.cells e x)[k]? =some p->Rep X w N g v p->Rep X w' N' g' v p:=fun hp hr=>hr.plain hw hN (X.eplain hp).1 (by rw [(X.eplain hp).2];simp)
 induction h with
 |undef v=>exact .undef v
 |int k n=>exact .int k n
 |bool b=>exact .bool b
 |str s=>exact .str s
 |sl A n cp e l o val hl hc ho h1 h2 ih=>
  have base: ∀o',(match o' with| .none=>True| .full=>n=cp| .nil=>A=none/\n=0/\cp=0| .void=>A=none| .sure=>A≠none)->Rep X w' N' g' (.slice A n cp) (.sl e l o'):=fun o' ho'=>by
   refine .sl A n cp e l o' val hl hc ho' (fun j x hx k p hp=> ?_) fun j x hx k p hp=>hel hp (h2 j x hx k p hp)
   grind [Addr.add_block,Addr.add_off]
  cases o with
  |none=>exact base .none trivial
  |full=>cases keep with
   |true=>exact base .full ho
   |false=>exact base .none trivial
  |void=>exact base .void ho
  |sure=>exact base .sure ho
  |nil=>cases keep with
   |true=>exact base .nil ho
   |false=>exact base .none trivial
 |own i v val ver e val' hk hv he hs=>
  grind [PV.noObj]
 |agg vs cs hl h ih=>
  simp only [PV.ren,cq]
  refine .agg vs _ (by grind) fun j p hp=> ?_
  grind [dD,PV.noObj,PV.ids,cS]
 |tuple vs cs hl h ih=>
  simp only [PV.ren,cq]
  refine .tuple vs _ (by grind) fun j p hp=> ?_
  grind [dD,PV.noObj,PV.ids,cS]
 |ptr id off b hb=>exact .ptr _ off b (hμ id (by simp [PV.ids]) b hb)
 |aptr id n b hb hn=>exact .aptr _ n b (hμ id (by simp [PV.ids]) b hb) hn
 |mp id b hb=>exact .mp _ b (hμ id (by simp [PV.ids]) b hb)
 |eptr e x off a val h1 h2 ih=>
  refine .eptr e x off a val (fun k p hp=> ?_) fun k p hp=>hel hp (h2 k p hp)
  grind [Addr.add_block,Addr.add_off]
 |any v h=>exact .any v h
 |pptr cs off a val h1 h2 ih=>
  simp only [PV.ren]
  refine .pptr _ off a val (fun k p hp=> ?_) fun k p hp=> ?_
  ·rw [cq,ej,fL] at hp
   obtain ⟨q,hq,rfl⟩:=hp
   grind [Addr.add_block,Addr.add_off]
  ·grind [dD,PV.noObj,PV.ids,cS,cq]
 |psl A n cp m cs o val hl hc ho h1 h2 ih=>
  simp only [PV.ren]
  refine .psl A n cp m _ o val (by rw [cq,e_];exact hl) hc ho (fun k p hp=> ?_) fun k p hp=> ?_
  ·rw [cq,ej,fL] at hp
   obtain ⟨q,hq,rfl⟩:=hp
   grind [Addr.add_block,Addr.add_off]
  ·grind [dD,PV.noObj,PV.ids,cS,cq]
 |optr i v j off val ver e val' hk hv he hs=>
  grind [PV.noObj]
 |func f a0s bs vs us ha hb h1 h2 i1 i2=>
  simp only [PV.ren,cq]
  refine .func f _ _ vs us (by grind) (by grind) (fun j p hp=> ?_) fun j p hp=> ?_
  all_goals grind [dD,PV.noObj,PV.ids,cS]
 |iface t v p h ih=>exact .iface t v _ (ih (hno.imp (fun h=>by simpa [PV.noObj] using h) id) fun i hi=>hμ i (by grind [PV.ids]))
 |nilIface=>exact .nilIface
 |nilPtr=>exact .nilPtr
 |nilFunc=>exact .nilFunc
theorem BoxOK.ren {w':World} {N N':az} {g g':Gh U} {t:Array Value} {k:Nat} {b:Box U} (h:BoxOK X w N g t k b) (keep:Bool) (ρ:Nat->Nat) (hk:w'.heap[k]? =w.heap[k]?) (hw: ∀b o,b<w.heap.size-> ¬N b o->w'.cell? ⟨b,o,none⟩=w.cell? ⟨b,o,none⟩) (hN: ∀b o,b<w.heap.size->N' b o->N b o)
  (hno:b.noObj=true\/ ∀i,g.κ i=none) (hμ: ∀i,i∈b.ids-> ∀b,g.μ i=some b->g'.μ (ρ i)=some b):BoxOK X w' N' g' t k (b.ren keep ρ):=by
 cases b with
 |cells cs=>
  obtain ⟨cur,e,h1,h2,h3⟩:=h
  simp only [Box.ren,cq]
  refine ⟨cur,e,hk▸h1,by rw [e_];exact h2,fun j p hp=> ?_⟩
  simp only [ej,fL] at hp
  obtain ⟨q,hq,rfl⟩:=hp
  exact (h3 j q hq).ren keep ρ hw hN (hno.imp (fun h=>dD (by simpa [Box.noObj] using h) hq) id) fun i hi=>hμ i (by grind [Box.ids,cS])
 |map e l=>
  obtain ⟨en,cl,h1,h2,h3⟩:=h
  refine ⟨en,cl,hk▸h1,h2,fun j x t hx=> ?_⟩
  obtain ⟨m,vs,a,b,d,e,f⟩:=h3 j x t hx
  exact ⟨m,vs,a,b,d,e,fun k p hp=>(f k p hp).plain hw hN (X.eplain hp).1 (by rw [(X.eplain hp).2];simp)⟩
theorem GY (ρ:Nat->Nat): ∀ (ks:List Bool) (cs:List (PV U)) (j:Nat),(PV.renK ρ ks cs)[j]? =(cs[j]?).map (PV.ren (ks.getD j false) ρ):=by
 intro ks
 induction ks with
 |nil=>intro cs j;simp [PV.renK,cq]
 |cons k ks ih=>
  intro cs j
  cases cs with
  |nil=>simp [PV.renK,PV.renL]
  |cons v r=>
   cases j with
   |zero=>simp [PV.renK]
   |succ j=>simpa [PV.renK] using ih r j
theorem GZ (ρ:Nat->Nat): ∀ (ks:List Bool) (cs:List (PV U)),(PV.renK ρ ks cs).length=cs.length:=by
 intro ks
 induction ks with
 |nil=>intro cs;simp [PV.renK,cq]
 |cons k ks ih=>
  intro cs
  cases cs with
  |nil=>simp [PV.renK,PV.renL]
  |cons v r=>simp [PV.renK,ih r]
theorem BoxOK.renK {w':World} {N N':az} {g g':Gh U} {t:Array Value} {k:Nat} {b:Box U} (h:BoxOK X w N g t k b) (ks:List Bool) (ρ:Nat->Nat) (hk:w'.heap[k]? =w.heap[k]?) (hw: ∀b o,b<w.heap.size-> ¬N b o->w'.cell? ⟨b,o,none⟩=w.cell? ⟨b,o,none⟩) (hN: ∀b o,b<w.heap.size->N' b o->N b o)
  (hno:b.noObj=true\/ ∀i,g.κ i=none) (hμ: ∀i,i∈b.ids-> ∀b,g.μ i=some b->g'.μ (ρ i)=some b):BoxOK X w' N' g' t k (b.renK ks ρ):=by
 cases b with
 |cells cs=>
  obtain ⟨cur,e,h1,h2,h3⟩:=h
  refine ⟨cur,e,hk▸h1,by rw [GZ];exact h2,fun j p hp=> ?_⟩
  rw [GY,fL] at hp
  obtain ⟨q,hq,rfl⟩:=hp
  exact (h3 j q hq).ren _ ρ hw hN (hno.imp (fun h=>dD (by simpa [Box.noObj] using h) hq) id) fun i hi=>hμ i (by grind [Box.ids,cS])
 |map e l=>exact BoxOK.ren (b:= .map e l) h false ρ hk hw hN hno hμ
theorem ObOK.turn {w':World} {N N':az} {g g':Gh U} {e:U.E} {l:List (U.El e)} {val:Value} {u:Use} {Do:Option Nat} (h:ObOK X w N g e l val u Do) (hk: ∀b,Do=some b->w'.heap[b]? =w.heap[b]?)
  (hw: ∀b o,b<w.heap.size-> ¬N b o->w'.cell? ⟨b,o,none⟩=w.cell? ⟨b,o,none⟩) (hN: ∀b o,b<w.heap.size->N' b o->N b o):ObOK X w' N' g' e l val u Do:=by
 obtain ⟨A,n,cp,hv,hl,hc,h1,h2⟩:=h.val
 refine ⟨A,n,cp,hv,hl,hc,fun j x hx k p hp=> ?_, ?_⟩
 ·obtain ⟨a,v,ha,hcell,hr,hn⟩:=h1 j x hx k p hp
  refine ⟨a,v,ha, ?_,hr.plain hw hN (X.eplain hp).1 (by rw [(X.eplain hp).2];simp),fun hD h'=> ?_⟩
  all_goals grind [World.cell?,Addr.add_block,Addr.add_off]
 grind
theorem uS: ∀ (gv:List Bool) (ps:List (PV U)) {σ:St U} {D:Nat->Option Nat} {k:List (PV U)->M U} {fp:List Loc},Sim X c tm w σ g D->(vs:Nat->Value)->(∀ (j:Nat) p,ps[j]? =some p->Rep X w (c.N g D) g (vs j) p)->(gz gv ps k).Rel K σ fp r τ gp->
  ∃qs σ' D' fp',(k qs).Rel K σ' fp' r τ gp/\Frozen X c tm w g σ D σ' D'/\qs.length=ps.length/\(∀ (j:Nat) p,qs[j]? =some p->Rep X w (c.N g D') g (vs j) p):=by
 intro gv
 induction gv with
 |nil=>
  intro ps σ D k fp h vs hv hr
  simp only [gz] at hr
  obtain ⟨qs,σ',D',fp',h1,h2,h3,h4,_⟩:=gA ps h vs hv hr
  grind
 |cons b gv ih=>
  intro ps σ D k fp h vs hv hr
  cases ps with
  |nil=>
   have hr':(k []).Rel K σ fp r τ gp:=by cases b<;>exact hr
   exact ⟨[],σ,D,fp,hr',.refl h,rfl,by simp⟩
  |cons p ps=>
   cases b with
   |true=>
    simp only [gz] at hr
    obtain ⟨qs,σ',D',fp',h1,h2,h3,h4⟩:=ih ps h (fun j=>vs (j+1)) (fun j p hp=>hv (j+1) p (by grind)) hr
    refine ⟨p::qs,σ',D',fp',h1,h2,by simp [h3],fun j q hq=> ?_⟩
    cases j with
    |zero=>simp at hq;subst hq;exact h2.rep (hv 0 p rfl)
    |succ j=>grind
   |false=>
    simp only [gz] at hr
    obtain ⟨q,σ1,D1,fp1,hr1,hF,hq,_⟩:=gC p h (hv 0 p rfl) hr
    obtain ⟨qs,σ',D',fp',h1,h2,h3,h4⟩:=ih ps hF.sim (fun j=>vs (j+1)) (fun j p hp=>hF.rep (hv (j+1) p (by grind))) hr1
    refine ⟨q::qs,σ',D',fp',h1,hF.trans h2,by simp [h3],fun j q' hq'=> ?_⟩
    cases j with
    |zero=>simp at hq';subst hq';exact h2.rep hq
    |succ j=>grind
theorem DG {b:Option (Box U)} {n:Nat} {cs:List (PV U)} (h:gD n b=some cs): ∃all,b=some (.cells all)/\n<=all.length/\cs=all.take n:=by
 unfold gD at h
 split at h
 ·rename_i all
  cases hc:a7 n all.length with
  |false=>rw [hc] at h;cases h
  |true=>rw [hc] at h;injection h with h;exact ⟨all,rfl,eI hc,h.symm⟩
 ·cases h
theorem Dy {q:Option Nat} {l:Nat}: ∀ (n:Nat) (todo:List Nat) (acc:List (Nat×Box U)) {k:List (Nat×Box U)->M U} {fp:List Loc},(∀x∈acc,∃b,σ.b x.1=some b/\b.cutIf (bH q x.1) l=some x.2)->(jq q l n todo acc k).Rel K σ fp r τ gp->
  ∃bs fp',(k bs).Rel K σ fp' r τ gp/\ ∀x∈bs,∃b,σ.b x.1=some b/\b.cutIf (bH q x.1) l=some x.2:=by
 intro n
 induction n with
 |zero=>intro todo acc k fp _ hr;exact hr.elim
 |succ n ih=>
  intro todo acc k fp hacc hr
  cases todo with
  |nil=>exact ⟨acc,fp,hr,hacc⟩
  |cons id todo=>
   simp only [jq] at hr
   split at hr
   ·exact ih _ _ hacc hr
   ·cases hs:bH q id with
    |false=>
     rw [hs] at hr
     simp only [cond_false,M.Rel] at hr
     split at hr
     ·rename_i b hb
      refine ih _ _ (fun x hx=> ?_) hr
      rcases cP.1 hx with hx|hx
      ·exact hacc x hx
      ·simp at hx;subst hx;exact ⟨b,hb,by rw [hs];rfl⟩
     ·exact hr.elim
    |true=>
     rw [hs] at hr
     simp only [cond_true,M.Rel] at hr
     split at hr
     ·rename_i cs hcs
      obtain ⟨all,hall,hle,rfl⟩:=DG hcs
      refine ih _ _ (fun x hx=> ?_) hr
      rcases cP.1 hx with hx|hx
      ·exact hacc x hx
      ·simp at hx;subst hx
       refine ⟨.cells all,hall, ?_⟩
       rw [hs]
       simp only [Box.cutIf,cond_true]
       rw [show a7 l all.length=true from Nat.ble_eq_true_of_le hle];rfl
     ·exact hr.elim
theorem Box.glue_nil (b:Box U):b.glue []=b:=by cases b<;>simp [Box.glue]
theorem sameId_iff {q:Option Nat} {id:Nat}:bH q id=true↔q=some id:=by
 cases q<;>simp [bH]
def e8 (X:Link V P) (w:World) (N:az) (g:Gh U) (ο:Nat->Array Value) (x:Nat×Box U):Prop:= ∃k,g.μ x.1=some k/\BoxOK X w N g (ο k) k x.2
theorem nG {ο:Nat->Array Value}: ∀ (bs:List (Nat×Box U)) {σ:St U} {D:Nat->Option Nat} {k:List (Nat×Box U)->M U} {fp:List Loc},Sim X c tm w σ g D->(∀x∈bs,e8 X w (c.N g D) g ο x)->(ew bs k).Rel K σ fp r τ gp->
  ∃qs σ' D' fp',(k qs).Rel K σ' fp' r τ gp/\Frozen X c tm w g σ D σ' D'/\qs.map (·.1)=bs.map (·.1)/\(∀x∈qs,e8 X w (c.N g D') g ο x):=by
 intro bs
 induction bs with
 |nil=>intro σ D k fp h _ hr;exact ⟨[],σ,D,fp,hr,.refl h,rfl,by simp⟩
 |cons x bs ih=>
  obtain ⟨id,b⟩:=x
  intro σ D k fp h hb hr
  cases b with
  |cells cs=>
   simp only [ew] at hr
   obtain ⟨kb,hk,cur,e,b1,b2,b3⟩:=hb (id,.cells cs) (by simp)
   obtain ⟨cs',σ1,D1,fp1,hr1,hF,hl,hcs,_⟩:=gA cs h (fun j=>cur.getD j undef) b3 hr
   obtain ⟨qs,σ',D',fp',h1,h2,h3,h4⟩:=ih hF.sim (fun x hx=>by
    obtain ⟨k,hk,hbx⟩:=hb x (by simp [hx])
    exact ⟨k,hk,hbx.mono rfl (fun _ _ _ _=>rfl) (fun b o _ hn=>by
     rcases hn with hn|hn|⟨i,hi⟩
     ·exact .inl hn
     ·exact .inr (.inl hn)
     ·exact .inr (.inr ⟨i,hF.D i b hi⟩)) (Gh.le.refl g)⟩) hr1
   refine ⟨(id,.cells cs')::qs,σ',D',fp',h1,hF.trans h2,by simp [h3],fun x hx=> ?_⟩
   rcases cu.1 hx with rfl|hx
   ·exact ⟨kb,hk,cur,e,b1,hl▸b2,fun j p hp=>h2.rep (hcs j p hp)⟩
   grind
  |map e l=>
   simp only [ew] at hr
   obtain ⟨qs,σ',D',fp',h1,h2,h3,h4⟩:=ih h (fun x hx=>hb x (by simp [hx])) hr
   refine ⟨(id,.map e l)::qs,σ',D',fp',h1,h2,by simp [h3],fun x hx=> ?_⟩
   rcases cu.1 hx with rfl|hx
   ·obtain ⟨k,hk,hbx⟩:=hb (id,.map e l) (by simp)
    exact ⟨k,hk,hbx.mono rfl (fun _ _ _ _=>rfl) (fun b o _ hn=>by
     rcases hn with hn|hn|⟨i,hi⟩
     ·exact .inl hn
     ·exact .inr (.inl hn)
     ·exact .inr (.inr ⟨i,h2.D i b hi⟩)) (Gh.le.refl g)⟩
   grind
end
section
variable {U:Uni} {V:Env U} {P:Program} {X:Link V P} {K:bA U} {c:Ctx} {tm:Array Value} {w:World} {σ:St U} {g:Gh U} {D:Nat->Option Nat}
variable {r:MR U} {τ:St U} {fp gp:List Loc} {N:az}
structure Spent (σ0 σ:St U) (G:List Nat):Prop where
 r: ∀n,σ.r n=σ0.r n
 b: ∀n,σ.b n=σ0.b n
 spent: ∀i∈G,∃ob,σ0.o i=some ob/\σ.o i=some ⟨ob.ver+1,ob.e,[]⟩/\σ.u i= .read
 other: ∀i,i∉G->σ.o i=σ0.o i/\σ.u i=σ0.u i
theorem Spent.refl (σ:St U):Spent σ σ []:=⟨fun _=>rfl,fun _=>rfl,by simp,fun _ _=>⟨rfl,rfl⟩⟩
theorem RepG.of {w:World} {g:Gh U} {v:Value} {p:PV U} (h:Rep X w N g v p):RepG X w N g v none p:=by
 cases p<;>first|exact h|cases h
theorem G5 {i:Nat} {ver:Nat} {w:World} {g:Gh U} {v:Value} (h:Rep X w N g v (.own i ver)) {nv:Nat} {e:U.E} {val:Value} (hk:g.κ i=some (nv,e,val)):ver<=nv:=by
 cases h<;>grind
theorem G4 {w:World} {g:Gh U} {v:Value} {e:U.E} {l:List (U.El e)} (h:Rep X w N g v (.sl e l .nil)):v= .slice none 0 0:=by
 cases h<;>grind
theorem uW (h:Sim X c tm w σ g D): ∀ (gv:List Bool) (ps:List (PV U)) {σ1:St U} {G0:List Nat} {k:List (PV U)->M U} {fp:List Loc} (vs:Nat->Value),Spent σ σ1 G0->
  (∀ (j:Nat) p,ps[j]? =some p->Rep X w (c.N g D) g (vs j) p)->(fQ gv ps k).Rel K σ1 fp r τ gp->
  ∃ (qs:List (PV U)) (σ':St U) (fp':List Loc) (G:List Nat) (δ:Nat->Option Nat),(k qs).Rel K σ' fp' r τ gp/\qs.length=ps.length/\Spent σ σ' (G++G0)/\(∀i∈G,i∉G0)/\(∀j b,δ j=some b->j<ps.length/\ ∃i∈G,D i=some b)/\
   (∀i j b,δ i=some b->δ j=some b->i=j)/\ ∀ (j:Nat) q,qs[j]? =some q->RepG X w (c.N g D) g (vs j) (δ j) q:=by
 intro gv
 have pass: ∀ (ps:List (PV U)) {σ1:St U} {G0:List Nat} {k:List (PV U)->M U} {fp:List Loc} (vs:Nat->Value),Spent σ σ1 G0->
   (∀ (j:Nat) p,ps[j]? =some p->Rep X w (c.N g D) g (vs j) p)->(k ps).Rel K σ1 fp r τ gp-> ∃ (qs:List (PV U)) (σ':St U) (fp':List Loc) (G:List Nat) (δ:Nat->Option Nat),(k qs).Rel K σ' fp' r τ gp/\qs.length=ps.length/\Spent σ σ' (G++G0)/\(∀i∈G,i∉G0)/\(∀j b,δ j=some b->j<ps.length/\ ∃i∈G,D i=some b)/\
   (∀i j b,δ i=some b->δ j=some b->i=j)/\ ∀ (j:Nat) q,qs[j]? =some q->RepG X w (c.N g D) g (vs j) (δ j) q:=by
  intro ps σ1 G0 k fp vs hs hv hr
  refine ⟨ps,σ1,fp,[],fun _=>none,hr,rfl,hs,by simp,by simp,by simp,fun j q hq=> ?_⟩
  exact RepG.of (hv j q hq)
 induction gv with
 |nil=>intro ps σ1 G0 k fp vs hs hv hr;exact pass ps vs hs hv (by cases ps<;>exact hr)
 |cons b gv ih=>
  intro ps σ1 G0 k fp vs hs hv hr
  cases ps with
  |nil=>exact pass [] vs hs hv (by cases b<;>exact hr)
  |cons p ps=>
   have step: ∀ {q:PV U} {σ2:St U} {G1:List Nat} {fp2:List Loc} {k':List (PV U)->M U} {δ0:Option Nat},k'=(fun rest=>k (q::rest))->Spent σ σ2 (G1++G0)->(∀i∈G1,i∉G0)->(∀b,δ0=some b-> ∃i∈G1,D i=some b)->RepG X w (c.N g D) g (vs 0) δ0 q->
     (fQ gv ps k').Rel K σ2 fp2 r τ gp-> ∃ (qs:List (PV U)) (σ':St U) (fp':List Loc) (G:List Nat) (δ:Nat->Option Nat),(k qs).Rel K σ' fp' r τ gp/\qs.length=(p::ps).length/\Spent σ σ' (G++G0)/\(∀i∈G,i∉G0)/\(∀j b,δ j=some b->j<(p::ps).length/\ ∃i∈G,D i=some b)/\
      (∀i j b,δ i=some b->δ j=some b->i=j)/\ ∀ (j:Nat) q,qs[j]? =some q->RepG X w (c.N g D) g (vs j) (δ j) q:=by
    intro q σ2 G1 fp2 k' δ0 hk hs2 hG1 hδ0 hq hr2
    subst hk
    obtain ⟨qs,σ',fp',G,δ,h1,h2,h3,h4,h5,h6,h7⟩:=ih ps (fun j=>vs (j+1)) hs2 (fun j p hp=>hv (j+1) p (by grind)) hr2
    refine ⟨q::qs,σ',fp',G++G1,fun j=>if j=0 then δ0 else δ (j-1),h1,by simp [h2],by grind,fun i hi=> ?_,fun j b hb=> ?_,fun i j b hb hb'=> ?_,fun j q' hq'=> ?_⟩
    ·grind
    ·grind
    ·simp only at hb hb'
     split at hb<;>split at hb'
     ·omega
     ·obtain ⟨i1,hi1,hD1⟩:=hδ0 b hb
      obtain ⟨_,i2,hi2,hD2⟩:=h5 _ b hb'
      have:=h.dinj _ _ _ hD1 hD2
      grind
     ·obtain ⟨i1,hi1,hD1⟩:=hδ0 b hb'
      obtain ⟨_,i2,hi2,hD2⟩:=h5 _ b hb
      have:=h.dinj _ _ _ hD1 hD2
      grind
     grind
    grind
   cases b with
   |false=>
    simp only [fQ] at hr
    have h0:=hv 0 p rfl
    refine step (δ0:=none) rfl (G1:=[]) hs (by simp) (by simp) (RepG.of h0) hr
   |true=>
    simp only [fQ] at hr
    split at hr
    ·rename_i i ver
     obtain ⟨ob,fp2,hob,hver,hr2⟩:=gT hr
     simp only [M.Rel] at hr2
     have h0:=hv 0 _ rfl
     by_cases hG:i∈G0
     ·obtain ⟨ob0,ho0,ho1,_⟩:=hs.spent i hG
      rw [ho1] at hob
      injection hob with hob
      subst hob
      obtain ⟨val,hk,_⟩:=h.objs i ob0 ho0
      have:=G5 h0 hk
      grind
     ·obtain ⟨q1,q2⟩:=hs.other i hG
      rw [q2] at hr2
      rw [q1] at hob
      have hO:=rG h h0 hob hver
      cases hu:σ.u i with
      |read=>rw [hu] at hr2;exact hr2.elim
      |app=>rw [hu] at hr2;exact hr2.elim
      |wr=>
       rw [hu] at hr2 hO
       refine step (G1:=[i]) (δ0:=D i) (q:= .fresh ob.e ob.l) (σ2:=(σ1.setO i ⟨ob.ver+1,ob.e,[]⟩).setU i .read) rfl ⟨hs.r,hs.b,fun j hj=> ?_,fun j hj=> ?_⟩ (fun j hj=>by grind) (fun b hb=>⟨i,by simp,hb⟩) hO hr2
       ·simp only [List.cons_append,List.nil_append,cu] at hj
        by_cases hji:j=i
        ·subst hji
         exact ⟨ob,hob,by simp,by simp⟩
        ·obtain ⟨ob',a1,a2,a3⟩:=hs.spent j (hj.resolve_left hji)
         exact ⟨ob',a1,by simpa [Ne.symm hji] using a2,by simpa [Ne.symm hji] using a3⟩
       ·simp only [List.cons_append,List.nil_append,cu,not_or] at hj
        obtain ⟨a1,a2⟩:=hs.other j hj.2
        exact ⟨by simpa [Ne.symm hj.1] using a1,by simpa [Ne.symm hj.1] using a2⟩
    ·rename_i e
     have h0:=hv 0 _ rfl
     refine step (δ0:=none) (q:= .fresh e []) rfl (G1:=[]) hs (by simp) (by simp) ?_ hr
     exact ⟨none,0,0,G4 h0,rfl,b7 _,by simp,fun _=>⟨rfl,rfl,rfl⟩,fun h=>by cases h⟩
    ·exact hr.elim
theorem yH {q:Option Nat} {n:Nat} {rs:List (PV U)}: ∀ (l:List (Nat×Box U)) {σ:St U} {m:M U} {fp:List Loc},(l.map (·.1)).Nodup->(∀id∈l.map (·.1),q=some id-> ∃b,σ.b id=some b/\rs=b.rest n)->(gP q n l m).Rel K σ fp r τ gp->
  ∃σ' fp',m.Rel K σ' fp' r τ gp/\(∀n,σ'.r n=σ.r n)/\(∀i,σ'.o i=σ.o i)/\(∀i,σ'.u i=σ.u i)/\(∀id,id∉l.map (·.1)->σ'.b id=σ.b id)/\ ∀x∈l,σ'.b x.1=some (x.2.glue (bif bH q x.1 then rs else [])):=by
 intro l
 induction l with
 |nil=>intro σ m fp _ _ hr;exact ⟨σ,fp,hr,fun _=>rfl,fun _=>rfl,fun _=>rfl,fun _ _=>rfl,by simp⟩
 |cons x l ih=>
  obtain ⟨id,b⟩:=x
  intro σ m fp hnd hq hr
  rw [ek,List.nodup_cons] at hnd
  have step: ∀ {B:Box U} {fp1:List Loc},B=b.glue (bif bH q id then rs else [])->(gP q n l m).Rel K (σ.setB id B) fp1 r τ gp->
    ∃σ' fp',m.Rel K σ' fp' r τ gp/\(∀n,σ'.r n=σ.r n)/\(∀i,σ'.o i=σ.o i)/\(∀i,σ'.u i=σ.u i)/\(∀id',id'∉id::l.map (·.1)->σ'.b id'=σ.b id')/\ ∀x∈(id,b)::l,σ'.b x.1=some (x.2.glue (bif bH q x.1 then rs else [])):=by
   intro B fp1 hB hr1
   obtain ⟨σ',fp',h1,h2,h3,h4,h5,h6⟩:=ih hnd.2 (fun i hi hqi=>by
    have hne:id≠i:=fun e=>hnd.1 (e▸hi)
    obtain ⟨b',e1,e2⟩:=hq i (List.mem_cons_of_mem _ hi) hqi
    exact ⟨b',by rw [St.setB_b,if_neg hne];exact e1,e2⟩) hr1
   refine ⟨σ',fp',h1,h2,h3,h4,fun id' hid=> ?_,fun y hy=> ?_⟩
   ·simp only [cu,not_or] at hid
    rw [h5 id' hid.2,St.setB_b,if_neg (Ne.symm hid.1)]
   ·rcases cu.1 hy with rfl|hy
    ·rw [h5 id hnd.1,St.setB_b,if_pos rfl,hB]
    ·exact h6 y hy
  rw [ek]
  cases hs:bH q id with
  |false=>
   simp only [gP,hs,cond_false,M.Rel] at hr
   exact step (by rw [hs,cond_false,Box.glue_nil]) hr
  |true=>
   simp only [gP,hs,cond_true] at hr
   split at hr
   ·rename_i cs
    obtain ⟨σ1,hset,hr⟩:=hr
    obtain ⟨all,e1,e2,e3,rfl⟩:=St.setH_inv hset
    obtain ⟨b',f1,f2⟩:=hq id (by simp) (sameId_iff.1 hs)
    rw [e1] at f1
    injection f1 with f1
    subst f1
    exact step (by rw [hs,cond_true,f2];rfl) hr
   ·exact hr.elim
theorem Du: ∀ (l:List Nat) {m:M U} {fp:List Loc},(nF l m).Rel K σ fp r τ gp->(∀id∈l,σ.b id=none/\id<1000000)/\ ∃fp',m.Rel K σ fp' r τ gp:=by
 intro l
 induction l with
 |nil=>intro m fp hr;exact ⟨by simp,fp,hr⟩
 |cons id l ih=>
  intro m fp hr
  simp only [nF,M.Rel] at hr
  split at hr
  ·rename_i hb
   cases hlt:cG id 1000000 with
   |false=>rw [hlt] at hr;exact hr.elim
   |true=>
   rw [hlt] at hr
   obtain ⟨h1,h2⟩:=ih hr
   simp_all
  ·exact hr.elim
theorem rd: ∀ {l:List Nat} {i:Nat},i∈l->l[aS l i]? =some i/\aS l i<l.length:=by
 intro l
 induction l with
 |nil=>simp
 |cons m l ih=>
  intro i h
  simp only [aS]
  cases hb:ac m i with
  |true=>
   simp_all
  |false=>
   have hne:i≠m:=fun e=>by simp_all
   grind
theorem n8: ∀ {l:List Nat},l.Nodup-> ∀ {j i:Nat},l[j]? =some i->aS l i=j:=by
 intro l
 induction l with
 |nil=>simp
 |cons m l ih=>
  intro hn j i h
  simp only [List.nodup_cons] at hn
  simp only [aS]
  cases j with
  |zero=>simp_all
  |succ j=>
   have h':l[j]? =some i:=by grind
   have hne:m≠i:=fun e=>hn.1 (e▸dk h')
   have hb:ac m i=false:=by
    cases hq:ac m i<;>simp_all
   grind
theorem qX: ∀ (n s k:Nat),k<n->(bz s n)[k]? =some (s+k):=by
 intro n
 induction n<;>grind [bz]
theorem nY: ∀ (n s:Nat),(bz s n).length=n:=by
 intro n
 induction n<;>grind [bz]
theorem FQ: ∀ (n s:Nat),(bz s n).Nodup/\ ∀i∈bz s n,s<=i:=by
 intro n
 induction n<;>grind [bz]
end
section
variable {U:Uni} {V:Env U} {P:Program} {X:Link V P} {K:bA U} {c:Ctx} {tm:Array Value} {w:World} {σ:St U} {g:Gh U} {D:Nat->Option Nat}
def dg (N:az) (n:Nat) (ν:Nat->Nat) (δ:Nat->Option Nat):az:=fun b o=>N b o/\(∀k,k<n->ν k≠b)/\ ∀j,δ j≠some b
theorem tL {N:az} {n:Nat} {ν:Nat->Nat} {δ:Nat->Option Nat} (h1: ∀k o,k<n->N (ν k) o) (h2: ∀j b o,δ j=some b->N b o):NB (dg N n ν δ) n ν δ=N:=by
 funext b o
 apply propext
 constructor
 ·rintro (h|⟨k,hk,rfl⟩|⟨j,hj⟩)
  ·exact h.1
  all_goals grind
 ·intro h
  by_cases ha: ∃k,k<n/\ν k=b
  ·exact .inr (.inl ha)
  ·by_cases hb: ∃j,δ j=some b
   ·exact .inr (.inr hb)
   ·exact .inl ⟨h,fun k hk e=>ha ⟨k,hk,e⟩,fun j e=>hb ⟨j,e⟩⟩
theorem tn (h:Sim X c tm w σ g D) {b o:Nat} (hn:(c.N g D) b o):b<w.heap.size:=by
 rcases hn with hn|⟨id,hid⟩|⟨i,hi⟩
 ·exact eJ (c.n0 _ _ hn).1 h.ext.size
 ·exact (h.new id b hid).1
 ·exact (h.dnew i b hi).1
theorem Sim.called (h:Sim X c tm w σ g D) {w':World} {σ':St U} {ids new G:List Nat} {ν ν':Nat->Nat} {δ δ':Nat->Option Nat} {cs:List (Box U)} {m d:Nat} {fo:Option (Ob U)} {fval:Value} {fD:Option Nat} {ο':Nat->Array Value} {R:Nat->List (PV U)}
  (hnd:(ids++new).Nodup) (hlen:(ids++new).length=cs.length) (hν: ∀ (k:Nat) id,ids[k]? =some id->g.μ id=some (ν k)) (hnew: ∀id∈new,σ.b id=none) (hlow: ∀id∈new,id<1000000)
  (hδ: ∀j b,δ j=some b-> ∃i∈G,D i=some b)
  (hG: ∀i∈G,∃ob,σ.o i=some ob/\(fo=none\/i≠d->σ'.o i=some ⟨ob.ver+1,ob.e,[]⟩/\σ'.u i= .read))
  (hother: ∀i,i∉G->(fo=none\/i≠d)->σ'.o i=σ.o i/\σ'.u i=σ.u i)
  (hfo: ∀ob,fo=some ob->σ'.o d=some ob/\σ'.u d= .wr/\(∀ob0,σ.o d=some ob0->ob0.ver<ob.ver)/\ObOK X w' (NB (dg (c.N g D) ids.length ν δ) cs.length ν' δ') (gB U cs.length ν') ob.e ob.l fval .wr fD)
  (hfD: ∀b,fD=some b-> ∃j,δ' j=some b) (hfN:fo=none->fD=none)
  (hr: ∀n,σ'.r n=σ.r n) (hbo: ∀id,id∉ids++new->σ'.b id=σ.b id) (hbn: ∀ (k:Nat) id b,(ids++new)[k]? =some id->cs[k]? =some b->σ'.b id=some ((b.ren true fun i=>(ids++new).getD i 0).glue (R id)))
  (hglue: ∀ (N':az) (g':Gh U),(∀v p,Rep X w (c.N g D) g v p->Rep X w' N' g' v p)-> ∀ (k:Nat) id b,(ids++new)[k]? =some id->k<cs.length->BoxOK X w' N' g' (ο' (ν' k)) (ν' k) b->BoxOK X w' N' g' (c.ο (ν' k)) (ν' k) (b.glue (R id)))
  (back:Back X w w' (dg (c.N g D) ids.length ν δ) ν δ ο' ids.length m ν' δ' cs):
  ∃g' D',Sim X c tm w' σ' g' D'/\(∀v p,Rep X w' (NB (dg (c.N g D) ids.length ν δ) cs.length ν' δ') (gB U cs.length ν') v p->Rep X w' (c.N g' D') g' v (p.ren true fun i=>(ids++new).getD i 0))/\
   ∀ob,fo=some ob->g'.κ d=some (ob.ver,ob.e,fval):=by
 have hin: ∀id,id∈ids++new-> ∃k,k<cs.length/\(ids++new)[k]? =some id/\aS (ids++new) id=k:=by
  intro id hid
  obtain ⟨h1,h2⟩:=rd hid
  grind
 have hidsν: ∀id∈ids,g.μ id=some (ν' (aS (ids++new) id)):=by
  intro id hid
  obtain ⟨k,hk⟩:=List.mem_iff_getElem?.1 hid
  have hk2:(ids++new)[k]? =some id:=by grind
  rw [n8 hnd hk2,back.old k (bS.1 hk).1]
  grind
 have hfree: ∀id∈new,g.μ id=none:=fun id hid=>h.free (hnew id hid)
 have hnewν: ∀id∈new,w.heap.size<=ν' (aS (ids++new) id)/\ids.length<=aS (ids++new) id:=by
  intro id hid
  obtain ⟨k,hk⟩:=List.mem_iff_getElem?.1 hid
  have hk2:(ids++new)[ids.length+k]? =some id:=by grind
  rw [n8 hnd hk2]
  have:=(bS.1 hk2).1
  exact ⟨back.new _ (by omega) (by omega),by omega⟩
 let g':Gh U:={μ:=fun id=>if id∈ids++new then some (ν' (aS (ids++new) id)) else g.μ id,κ:=fun j=>if j=d/\fo.isSome=true then fo.map (fun ob=>(ob.ver,ob.e,fval)) else if j∈G then (σ.o j).map (fun ob=>(ob.ver+1,ob.e,.slice none 0 0)) else g.κ j}
 let D':Nat->Option Nat:=fun j=>if j=d/\fo.isSome=true then fD else if j∈G then none else D j
 have hμin: ∀id,id∈ids++new->g'.μ id=some (ν' (aS (ids++new) id)):=fun id hid=>by grind
 have hμout: ∀id,id∉ids++new->g'.μ id=g.μ id:=fun id hid=>by grind
 have hlt': ∀id,id∈ids++new->aS (ids++new) id<cs.length:=fun id hid=>by grind
 have hκ: ∀i ver e val,g.κ i=some (ver,e,val)-> ∃ob,σ.o i=some ob/\ob.ver=ver:=by
  intro i ver e val hk
  cases ho:σ.o i with
  |none=>have:=(h.nobj i ho).1;grind
  |some ob=>
   obtain ⟨v1,h1,_⟩:=h.objs i ob ho
   grind
 have hle:g.le g':=by
  refine ⟨fun id b hb=> ?_,fun i ver e val hk=> ?_⟩
  all_goals grind [Option.isSome_iff_exists]
 have hDd: ∀j b,D' j=some b->(j=d/\fo.isSome=true/\fD=some b)\/(¬ (j=d/\fo.isSome=true)/\j∉G/\D j=some b):=by
  grind
 have hboxb: ∀k,k<ids.length-> ∃id,ids[k]? =some id/\g.μ id=some (ν k):=fun k hk=>⟨ids[k],bP hk,hν k _ (bP hk)⟩
 have hsub: ∀b o,(c.N g' D') b o->(NB (dg (c.N g D) ids.length ν δ) cs.length ν' δ') b o:=by
  rintro b o (hn|⟨id,hid⟩|⟨j,hj⟩)
  ·refine .inl ⟨.inl hn,fun k hk e=> ?_,fun j e=> ?_⟩
   ·obtain ⟨id,_,hid⟩:=hboxb k hk
    rw [e] at hid
    have h1:=c.n0 _ _ hn
    rcases (h.new id b hid).2 with h2|h2<;>grind
   ·obtain ⟨i,_,hi⟩:=hδ j b e
    have h1:=c.n0 _ _ hn
    rcases (h.dnew i b hi).2 with h2|h2<;>grind
  ·by_cases hm:id∈ids++new
   ·rw [hμin id hm] at hid
    injection hid with hid
    exact .inr (.inl ⟨_,hlt' id hm,hid⟩)
   ·rw [hμout id hm] at hid
    refine .inl ⟨.inr (.inl ⟨id,hid⟩),fun k hk e=> ?_,fun j e=> ?_⟩
    ·obtain ⟨id',hid',hμ'⟩:=hboxb k hk
     rw [e] at hμ'
     have:=h.inj _ _ _ hid hμ'
     grind
    ·obtain ⟨i,_,hi⟩:=hδ j b e
     exact h.dbox i id b hi hid
  ·rcases hDd j b hj with ⟨_,_,hf⟩|⟨_,hjG,hDj⟩
   ·obtain ⟨q,hq⟩:=hfD b hf
    exact .inr (.inr ⟨q,hq⟩)
   ·refine .inl ⟨.inr (.inr ⟨j,hDj⟩),fun k hk e=> ?_,fun q e=> ?_⟩
    ·obtain ⟨id',hid',hμ'⟩:=hboxb k hk
     rw [e] at hμ'
     exact h.dbox j id' b hDj hμ'
    ·obtain ⟨i,hi,hDi⟩:=hδ q b e
     have:=h.dinj _ _ _ hDj hDi
     grind
 have htrans: ∀v p,Rep X w' (NB (dg (c.N g D) ids.length ν δ) cs.length ν' δ') (gB U cs.length ν') v p->Rep X w' (c.N g' D') g' v (p.ren true fun i=>(ids++new).getD i 0):=by
  intro v p hp
  refine hp.ren true _ (fun _ _ _ _=>rfl) (fun b o _ hn=>hsub b o hn) (.inr fun _=>rfl) fun i hi b hb=> ?_
  grind [gB,n8]
 refine ⟨g',D',h.move (fun id=>id∈ids++new) (fun j=>j∈G\/(j=d/\fo.isSome=true)) back.ext.os back.ext.tape back.ext.output back.ext.size (fun b hb h1 h2=> ?_) hr hle (fun id k hk=> ?_) (fun id k h1 hk=> ?_) (fun id id' k h1 hk hk'=> ?_) (fun id hid=>⟨hbo id hid,hμout id hid⟩)
  (fun hmono id b hid hb=> ?_) (fun id k hid hk=> ?_) (fun j b hb=> ?_) (fun j j' b hj hb hb'=> ?_) (fun j b hj hb id hid=> ?_) (fun j hj=> ?_) (fun j ob hj ho=> ?_) (fun j hj ho=> ?_),htrans,fun ob hob=> ?_⟩
 ·refine back.ext.block b hb fun hm=> ?_
  rcases cP.1 hm with hm|hm<;>grind
 ·by_cases hid:id∈ids++new
  ·rw [hμin id hid] at hk
   injection hk with hk
   rcases cP.1 hid with h1|h1
   ·grind
   ·refine .inr ⟨hfree id h1, ?_, ?_⟩
    ·grind
    ·rw [<-hk];exact back.bnd.lt _ (hlt' id hid)
  grind
 ·by_cases hid:id∈ids++new
  ·rcases cP.1 hid with h2|h2
   ·grind
   ·have:=hlow id h2
    cases hf:c.fix id with
    |none=>rfl
    |some k=>have:=(c.low id k hf).1;omega
  grind
 ·by_cases hid:id∈ids++new
  ·rw [hμin id hid] at hk
   injection hk with hk
   by_cases hid':id'∈ids++new
   ·rw [hμin id' hid'] at hk'
    injection hk' with hk'
    have hp:=back.bnd.inj _ _ (hlt' id hid) (hlt' id' hid') (hk.trans hk'.symm)
    grind
   ·rw [hμout id' hid'] at hk'
    exfalso
    rcases cP.1 hid with h2|h2
    ·grind
    ·have:=(hnewν id h2).1
     have:=(h.new id' k hk').1
     omega
  grind
 ·obtain ⟨k,hk,hget,hpl⟩:=hin id hid
  refine ⟨_,hμin id hid, ?_⟩
  have hcs:cs[k]? =some cs[k]:=bP hk
  have:=hbn k id _ hget hcs
  rw [this] at hb
  injection hb with hb
  subst hb
  rw [hpl]
  refine hglue _ _ hmono k id _ hget hk ?_
  refine (back.boxes k _ hcs).ren true _ rfl (fun _ _ _ _=>rfl) (fun b o _ hn=>hsub b o hn) (.inr fun _=>rfl) fun i hi b hb=> ?_
  simp only [gB] at hb
  split at hb<;>grind [dk,n8]
 ·obtain ⟨k,hk',hget,_⟩:=hin id hid
  exact ⟨_,hbn k id _ hget (bP hk')⟩
 ·rcases hDd j b hb with ⟨hj,hs,hf⟩|⟨h1,h2,h3⟩
  ·obtain ⟨q,hq⟩:=hfD b hf
   rcases back.dnew q b hq with h1|⟨q',h1⟩
   ·exact .inr (.inr ⟨h1,back.bnd.dlt q b hq⟩)
   grind
  grind
 ·rcases hDd j b hb with ⟨hj1,hs,hf⟩|⟨h1,h2,h3⟩
  ·rcases hDd j' b hb' with ⟨hj1',_,_⟩|⟨h1',h2',h3'⟩
   ·omega
   ·exfalso
    obtain ⟨q,hq⟩:=hfD b hf
    rcases back.dnew q b hq with h4|⟨q',h4⟩
    ·have:=(h.dnew j' b h3').1;omega
    ·obtain ⟨i,hi,hDi⟩:=hδ q' b h4
     have:=h.dinj _ _ _ h3' hDi
     grind
  grind
 ·rcases hDd j b hb with ⟨hj1,hs,hf⟩|⟨h1,h2,h3⟩
  ·obtain ⟨q,hq⟩:=hfD b hf
   by_cases hm:id∈ids++new
   ·rw [hμin id hm] at hid
    injection hid with hid
    exact back.bnd.dν q b hq _ (hlt' id hm) hid
   ·rw [hμout id hm] at hid
    rcases back.dnew q b hq with h4|⟨q',h4⟩
    ·have:=(h.new id b hid).1;omega
    ·obtain ⟨i,hi,hDi⟩:=hδ q' b h4
     exact h.dbox i id b hDi hid
  grind
 ·have h1:j∉G:=fun h=>hj (.inl h)
  have h2: ¬ (j=d/\fo.isSome=true):=fun h=>hj (.inr h)
  have h3:fo=none\/j≠d:=by
   cases hfo':fo<;>grind
  grind
 ·by_cases hjd:j=d/\fo.isSome=true
  ·obtain ⟨ob',hfo'⟩:=Option.isSome_iff_exists.1 hjd.2
   obtain ⟨a1,a2,a3,a4⟩:=hfo ob' hfo'
   obtain ⟨rfl,hs⟩:=hjd
   rw [a1] at ho
   injection ho with ho
   subst ho
   refine ⟨fval,by grind, ?_⟩
   rw [a2,show D' j=fD by grind]
   exact a4.turn (fun _ _=>rfl) (fun _ _ _ _=>rfl) (fun b o _ hn=>hsub b o hn)
  ·have hjG:j∈G:=hj.resolve_right hjd
   have h3:fo=none\/j≠d:=by
    cases hfo':fo<;>grind
   obtain ⟨ob0,b1,b2⟩:=hG j hjG
   obtain ⟨b2,b3⟩:=b2 h3
   rw [b2] at ho
   injection ho with ho
   subst ho
   refine ⟨.slice none 0 0,by grind, ?_⟩
   rw [b3,show D' j=none by grind]
   exact ⟨none,0,0,rfl,rfl,b7 _,by simp,by simp⟩
 ·exfalso
  by_cases hjd:j=d/\fo.isSome=true
  ·grind [Option.isSome_iff_exists]
  ·have hjG:j∈G:=hj.resolve_right hjd
   have h3:fo=none\/j≠d:=by
    cases hfo':fo<;>grind
   grind
 grind
end
section
variable {U:Uni} {V:Env U} {P:Program} {X:Link V P} {K:bA U} {c:Ctx} {tm:Array Value} {a:Act} {w:World} {σ:St U} {g:Gh U} {D:Nat->Option Nat}
variable {next:Act->World->Prop} {Q:Exit->Act->World->Prop} {r:MR U} {τ:St U} {fp gp:List Loc} {N:az}
variable {dst:Option Tmp} {ty:TypeId} {pos:String} {after:Array Edge} {gd:Option (Nat×Bool)}
def PV.noFresh:PV U->Prop
 | .tuple ps=>ps.all PV.notFresh=true
 |p=>p.notFresh=true
theorem IM {d:Nat}: ∀ (ps:List (PV U)) {k:List (PV U)->M U} {fp:List Loc},(l8 d ps k).Rel K σ fp r τ gp->
  (∃fp',(k ps).Rel K σ fp' r τ gp/\ps.all PV.notFresh=true)\/
  ∃e l nv fp' pre post,(k (pre++ .own d nv::post)).Rel K ((σ.setO d ⟨nv,e,l⟩).setU d .wr) fp' r τ gp/\(∀ob,σ.o d=some ob->ob.ver<nv)/\ps=pre++ .fresh e l::post/\pre.all PV.notFresh=true/\post.all PV.notFresh=true:=by
 intro ps
 induction ps with
 |nil=>intro k fp hr;exact .inl ⟨fp,hr,rfl⟩
 |cons p ps ih=>
  intro k fp hr
  have other:p.notFresh=true->(l8 d ps fun r=>k (p::r)).Rel K σ fp r τ gp->((∃fp',(k (p::ps)).Rel K σ fp' r τ gp/\(p::ps).all PV.notFresh=true)\/
     ∃e l nv fp' pre post,(k (pre++ .own d nv::post)).Rel K ((σ.setO d ⟨nv,e,l⟩).setU d .wr) fp' r τ gp/\(∀ob,σ.o d=some ob->ob.ver<nv)/\(p::ps)=pre++ .fresh e l::post/\pre.all PV.notFresh=true/\post.all PV.notFresh=true):=fun hp hr'=>by
   grind
  cases p with
  |fresh e l=>
   simp only [l8] at hr
   cases hb:ps.all PV.notFresh with
   |false=>rw [hb] at hr;exact hr.elim
   |true=>
    rw [hb] at hr
    simp only [cond_true,M.Rel] at hr
    split at hr
    ·rename_i ob hob
     exact .inr ⟨e,l,ob.ver+1,_,[],ps,hr,fun ob' h=>by grind,rfl,rfl,hb⟩
    ·rename_i hob
     exact .inr ⟨e,l,0,_,[],ps,hr,(fun ob' h=>by grind),rfl,rfl,hb⟩
  |_=>exact other rfl hr
theorem IN {d:Nat} {p:PV U} {k:PV U->M U} {fp:List Loc} (hr:(oE d p k).Rel K σ fp r τ gp):
  (∃fp',(k p).Rel K σ fp' r τ gp/\p.noFresh)\/
  ∃e l nv fp',(∀ob,σ.o d=some ob->ob.ver<nv)/\((p= .fresh e l/\(k (.own d nv)).Rel K ((σ.setO d ⟨nv,e,l⟩).setU d .wr) fp' r τ gp)\/
   ∃pre post,p= .tuple (pre++ .fresh e l::post)/\(k (.tuple (pre++ .own d nv::post))).Rel K ((σ.setO d ⟨nv,e,l⟩).setU d .wr) fp' r τ gp/\pre.all PV.notFresh=true/\post.all PV.notFresh=true):=by
 cases p with
 |fresh e l=>
  grind [oE,M.Rel]
 |tuple ps=>
  simp only [oE] at hr
  rcases IM ps hr with ⟨fp',h1,h2⟩|⟨e,l,nv,fp',pre,post,h1,h2,h3,h4,h5⟩
  ·exact .inl ⟨fp',h1,h2⟩
  grind
 |_=>exact .inl ⟨_,hr,rfl⟩
theorem RepG.rep {v:Value} {Do:Option Nat} {p:PV U} (h:RepG X w N g v Do p) (hp:p.notFresh=true):Rep X w N g v p:=by
 cases p<;>first|exact h|cases hp
theorem lX {keep:Bool} {ρ:Nat->Nat} (p:PV U):(p.ren keep ρ).notFresh=p.notFresh:=by
 cases p with
 |sl e l o=>cases o<;>cases keep<;>rfl
 |_=>rfl
theorem xR {keep:Bool} {ρ:Nat->Nat} {p:PV U} {e:U.E} {l:List (U.El e)} (h:p.ren keep ρ= .fresh e l):p= .fresh e l:=by
 cases p with
 |fresh e' l'=>exact h
 |sl e l o=>cases o<;>cases keep<;>cases h
 |_=>cases h
theorem G3 {keep:Bool} {ρ:Nat->Nat} {p:PV U} {l:List (PV U)} (h:p.ren keep ρ= .tuple l): ∃ps,p= .tuple ps/\l=ps.map (PV.ren keep ρ):=by
 cases p with
 |tuple ps=>grind [PV.ren,cq]
 |sl e l o=>cases o<;>cases keep<;>cases h
 |_=>cases h
theorem RepG.ren {w':World} {N':az} {g':Gh U} {v:Value} {Do:Option Nat} {p:PV U} (h:RepG X w N g v Do p) (keep:Bool) (ρ:Nat->Nat) (hno:p.noObj=true) (hμ: ∀i,i∈p.ids-> ∀b,g.μ i=some b->g'.μ (ρ i)=some b):RepG X w N g' v Do (p.ren keep ρ):=by
 by_cases hp:p.notFresh=true
 ·have:=(h.rep hp).ren (g':=g') (N':=N) (w':=w) keep ρ (fun _ _ _ _=>rfl) (fun _ _ _ h=>h) (.inl hno) hμ
  have hq:(p.ren keep ρ).notFresh=true:=by rw [lX];exact hp
  generalize p.ren keep ρ=q at this hq
  cases q<;>first|exact this|cases hq
 ·cases p with
  |fresh e l=>exact ObOK.turn h (fun _ _=>rfl) (fun _ _ _ _=>rfl) (fun _ _ _ h=>h)
  |_=>exact absurd rfl hp
theorem rQ {f:FuncId} {fn:Func} (hf:P.funcs[f]? =some fn) (hn:(fn.name== "runtime.NumGoroutine")=false) (hb:fn.body.isNone=false) (args:Array Value) (w:World):(callFunc f args).run P w= .ok (.enter f args) w:=by
 grind [callFunc,bu,run_program,bq,b9]
theorem Hq {x:Operand} {cl:Call} (hc:cl.callee= .value x) {f:FuncId} {a0s bs:Array Value} (he:a.eval x= .func (.func f) a0s bs) (w:World):
  (execOp a.eval ⟨dst,.call cl,ty,pos,after,gd⟩).run P w=(callFunc f (a0s++cl.args.map a.eval++bs)).run P w:=by
 grind [execOp,resolve,Deferred.ofValue,invoke]
theorem uV {xs:Array Value} {l:List Value} (j:Nat) (h:xs.toList=l):xs.getD j undef=l.getD j undef:=by
 grind [ct]
theorem xS {xs ys:List Value} {ps qs:List (PV U)} (hl:xs.length=ps.length) (h1: ∀ (j:Nat) p,ps[j]? =some p->Rep X w N g (xs.getD j undef) p) (h2: ∀ (j:Nat) p,qs[j]? =some p->Rep X w N g (ys.getD j undef) p):
  ∀ (j:Nat) p,(ps++qs)[j]? =some p->Rep X w N g ((xs++ys).getD j undef) p:=by
 grind
end
set_option maxHeartbeats 1000000
section
variable {U:Uni} {V:Env U} {P:Program} {X:Link V P} {c:Ctx} {a:Act} {w:World} {σ:St U} {g:Gh U} {D:Nat->Option Nat}
variable {next:Act->World->Prop} {Q:Exit->Act->World->Prop} {r:MR U} {τ:St U} {fp gp:List Loc} {N:az}
theorem js {all:List (PV U)} {bs:List (Nat×Box U)} (h:eQ all bs=true):PV.noObjL all=true/\(∀x∈bs,x.2.noObj=true)/\(bs.map (·.1)).Nodup/\(∀i∈PV.idsL all,i∈bs.map (·.1))/\ ∀x∈bs,∀i∈x.2.ids,i∈bs.map (·.1):=by
 unfold eQ at h
 simp only [aj] at h
 obtain ⟨h1,h2,h3,h4⟩:=h
 have hin: ∀i,i∈PV.idsL all++bs.flatMap (·.2.ids)->i∈bs.map (·.1):=by
  intro i hi
  obtain ⟨j,hj,hij⟩:=List.any_eq_true.1 (bW.1 h4 i hi)
  simp_all
 grind [pY]
theorem wq {g:Gh U} {ο:Nat->Array Value} {bs:List (Nat×Box U)} (hb: ∀x∈bs,e8 X w N g ο x): ∃ν:Nat->Nat,∀ (k:Nat) id,(bs.map (·.1))[k]? =some id->g.μ id=some (ν k):=by
 refine ⟨fun k=>(g.μ ((bs.map (·.1)).getD k 0)).getD 0,fun k id hid=> ?_⟩
 have hm:=dk hid
 obtain ⟨x,hx,rfl⟩:=ck.1 hm
 obtain ⟨kb,hk,_⟩:=hb x hx
 grind
theorem nI {tm:Array Value} (h:Sim X c tm w σ g D) (keep:Bool) {qs:List (PV U)} {bs:List (Nat×Box U)} {vs:Array Value} {δ:Nat->Option Nat} {ο:Nat->Array Value} (hoz: ∀b,w.heap.size<=b->ο b= #[]) {G:List Nat} (hsz:vs.size=qs.length) (hb: ∀x∈bs,e8 X w (c.N g D) g ο x) (hh:eQ qs bs=true)
  (hδ: ∀j b,δ j=some b->j<qs.length/\ ∃i∈G,D i=some b) (hδi: ∀i j b,δ i=some b->δ j=some b->i=j) (hq: ∀ (j:Nat) q,qs[j]? =some q->RepG X w (c.N g D) g (vs.getD j undef) (δ j) q)
  {ν:Nat->Nat} (hν: ∀ (k:Nat) id,(bs.map (·.1))[k]? =some id->g.μ id=some (ν k)) {F:Nat×Box U->Box U}
  (hF: ∀x,x.2.noObj=true-> ∀ (g':Gh U) (t:Array Value) (k:Nat),(∀i,i∈x.2.ids-> ∀b,g.μ i=some b->g'.μ (aS (bs.map (·.1)) i)=some b)->BoxOK X w (c.N g D) g t k x.2->BoxOK X w (c.N g D) g' t k (F x)):
  NB (dg (c.N g D) bs.length ν δ) bs.length ν δ=c.N g D/\
   Given X w vs (dg (c.N g D) bs.length ν δ) ν δ ο (PV.renL keep (aS (bs.map (·.1))) qs) (bs.map F):=by
 obtain ⟨h1,h2,h3,h4,h5⟩:=js hh
 have hget: ∀k,k<bs.length-> ∃id,(bs.map (·.1))[k]? =some id/\g.μ id=some (ν k):=fun k hk=>⟨_,bP (by grind),hν k _ (bP (by grind))⟩
 have hNB:NB (dg (c.N g D) bs.length ν δ) bs.length ν δ=c.N g D:=tL (fun k o hk=>by
  obtain ⟨id,_,hid⟩:=hget k hk
  exact .inr (.inl ⟨id,hid⟩)) fun j b o hj=>by
  obtain ⟨_,i,_,hi⟩:=hδ j b hj
  exact .inr (.inr ⟨i,hi⟩)
 have hμ: ∀i,i∈bs.map (·.1)-> ∀b,g.μ i=some b->(gB U bs.length ν).μ (aS (bs.map (·.1)) i)=some b:=by
  grind [rd,gB]
 refine ⟨hNB,⟨fun i j hi hj e=> ?_,fun i hi=> ?_,fun j b hj=> ?_,hδi,fun j b hj i hi e=> ?_,fun b o hn=>⟨tn h hn.1,by simpa using hn.2.1,hn.2.2⟩⟩,by simp [cq,hsz],fun j b hj=>by grind [cq],fun b o hb'=>⟨(h.glob hb').1,fun i hi e=> ?_,fun j hj=> ?_⟩,fun j p hp=> ?_,fun k b hb'=> ?_,hoz⟩
 ·simp only [e_] at hi hj
  obtain ⟨id,q1,q2⟩:=hget i hi
  obtain ⟨id',q3,q4⟩:=hget j hj
  rw [e] at q2
  have:=h.inj _ _ _ q2 q4
  grind [List.getElem?_inj]
 ·simp only [e_] at hi
  obtain ⟨id,q1,q2⟩:=hget i hi
  exact (h.new id _ q2).1
 ·obtain ⟨_,i,_,hi⟩:=hδ j b hj
  exact (h.dnew i b hi).1
 ·simp only [e_] at hi
  obtain ⟨id,q1,q2⟩:=hget i hi
  obtain ⟨_,i',_,hi'⟩:=hδ j b hj
  rw [e] at q2
  exact h.dbox i' id b hi' q2
 ·simp only [e_] at hi
  obtain ⟨id,_,q2⟩:=hget i hi
  exact (h.glob hb').2.1 id (e▸q2)
 ·obtain ⟨_,i,_,hi⟩:=hδ j b hj
  exact (h.glob hb').2.2 i hi
 ·simp only [e_,hNB]
  rw [cq,ej,fL] at hp
  obtain ⟨q,hq',rfl⟩:=hp
  exact (hq j q hq').ren (w':=w) (N':=c.N g D) keep _ (dD h1 hq') fun i hi b hb=>hμ i (h4 i (cS hq' i hi)) b hb
 ·simp only [e_,hNB]
  rw [ej,fL] at hb'
  obtain ⟨x,hx,rfl⟩:=hb'
  have hxm:=dk hx
  obtain ⟨kb,hk,hbx⟩:=hb x hxm
  grind
variable {dst:Option Tmp} {ty:TypeId} {pos:String} {after:Array Edge} {gd:Option (Nat×Bool)}
theorem wn {w:World} {v:Value} {δ:Nat->Option Nat} {p:PV U} {N:az} {g:Gh U} (h:RepR X w N g v δ p) (hp:p.noFresh):Rep X w N g v p:=by
 cases p with
 |tuple ps=>
  obtain ⟨vs,rfl,hl,hh⟩:=h
  exact .tuple vs ps hl fun j q hq=>(hh j q hq).rep (bW.1 hp q (dk hq))
 |fresh e l=>cases hp
 |_=>exact h
theorem G2 {keep:Bool} {ρ:Nat->Nat} {p:PV U} (h:(p.ren keep ρ).noFresh):p.noFresh:=by
 cases p with
 |tuple ps=>
  grind [PV.ren,cq,PV.noFresh,lX]
 |sl e l o=>rfl
 |fresh e l=>exact h
 |_=>rfl
mutual
theorem rD {k:Bool} {ρ ρ':Nat->Nat}: ∀ (v:PV U),v.stb=true->(∀i∈v.ids,ρ' (ρ i)=i)->(v.ren k ρ).ren true ρ'=v
 | .ptr id off,_,h=>by simp only [PV.ren];rw [h id (by simp [PV.ids])]
 | .aptr id n,_,h=>by simp only [PV.ren];rw [h id (by simp [PV.ids])]
 | .mp id,_,h=>by simp only [PV.ren];rw [h id (by simp [PV.ids])]
 | .agg cs,hs,h=>by simp only [PV.ren];rw [gL cs (by simpa [PV.stb] using hs) (by simpa [PV.ids] using h)]
 | .tuple cs,hs,h=>by simp only [PV.ren];rw [gL cs (by simpa [PV.stb] using hs) (by simpa [PV.ids] using h)]
 | .func f a b,hs,h=>by
  simp only [PV.stb,aj] at hs
  simp only [PV.ids,cP] at h
  simp only [PV.ren]
  rw [gL a hs.1 fun i hi=>h i (.inl hi),gL b hs.2 fun i hi=>h i (.inr hi)]
 | .iface t v,hs,h=>by simp only [PV.ren];rw [rD v (by simpa [PV.stb] using hs) (by simpa [PV.ids] using h)]
 | .any,_,_=>rfl
 | .pptr cs off,hs,h=>by simp only [PV.ren];rw [gL cs (by simpa [PV.stb] using hs) (by simpa [PV.ids] using h)]
 | .psl n m cs o,hs,h=>by simp only [PV.ren];rw [gL cs (by simpa [PV.stb] using hs) (by simpa [PV.ids] using h)]
 | .sl e l o,hs,_=>by cases o<;>first|rfl|cases hs
 | .undef,_,_=>rfl
 | .int ..,_,_=>rfl
 | .bool _,_,_=>rfl
 | .str _,_,_=>rfl
 | .own ..,hs,_=>by cases hs
 | .fresh ..,hs,_=>by cases hs
 | .eptr ..,_,_=>rfl
 | .optr ..,hs,_=>by cases hs
 | .nilIface,_,_=>rfl
 | .nilPtr,_,_=>rfl
 | .nilFunc,_,_=>rfl
theorem gL {k:Bool} {ρ ρ':Nat->Nat}: ∀ (l:List (PV U)),PV.stbL l=true->(∀i∈PV.idsL l,ρ' (ρ i)=i)->PV.renL true ρ' (PV.renL k ρ l)=l
 |[],_,_=>rfl
 |v::r,hs,h=>by
  simp only [PV.stbL,aj] at hs
  simp only [PV.idsL,cP] at h
  simp only [PV.renL]
  rw [rD v hs.1 fun i hi=>h i (.inl hi),gL r hs.2 fun i hi=>h i (.inr hi)]
end
theorem rC {ρ ρ':Nat->Nat}: ∀ {ks:List Bool} (l:List (PV U)),PV.stbL l=true->(∀i∈PV.idsL l,ρ' (ρ i)=i)->PV.renL true ρ' (PV.renK ρ ks l)=l
 |[],l,hs,h=>gL l hs h
 |_::_,[],_,_=>rfl
 |k::ks,v::r,hs,h=>by
  simp only [PV.stbL,aj] at hs
  simp only [PV.idsL,cP] at h
  simp only [PV.renK,PV.renL]
  rw [rD v hs.1 fun i hi=>h i (.inl hi),rC r hs.2 fun i hi=>h i (.inr hi)]
theorem Bt {ρ ρ':Nat->Nat} {ks:List Bool} {b:Box U} (hs:b.stb=true) (h: ∀i∈b.ids,ρ' (ρ i)=i):(b.renK ks ρ).ren true ρ'=b:=by
 cases b with
 |map e l=>cases hs
 |cells cs=>simp only [Box.renK,Box.ren];rw [rC cs hs h]
mutual
theorem uT: ∀ (v:PV U) (k:PV U->M U),v.stb=true->frz v k=k v
 | .agg cs,k,hs=>by rw [frz,jo cs _ (by simpa [PV.stb] using hs)]
 | .tuple cs,k,hs=>by rw [frz,jo cs _ (by simpa [PV.stb] using hs)]
 | .func f a b,k,hs=>by
  simp only [PV.stb,aj] at hs
  rw [frz,jo a _ hs.1,jo b _ hs.2]
 | .iface t v,k,hs=>by rw [frz,uT v _ (by simpa [PV.stb] using hs)]
 | .own ..,_,hs=>by cases hs
 | .sl ..,_,_=>by simp only [frz]
 | .undef,_,_=>by simp only [frz]
 | .int ..,_,_=>by simp only [frz]
 | .bool _,_,_=>by simp only [frz]
 | .str _,_,_=>by simp only [frz]
 | .fresh ..,_,hs=>by cases hs
 | .ptr ..,_,_=>by simp only [frz]
 | .aptr ..,_,_=>by simp only [frz]
 | .mp _,_,_=>by simp only [frz]
 | .eptr ..,_,_=>by simp only [frz]
 | .any,_,_=>by simp only [frz]
 | .pptr ..,_,_=>by simp only [frz]
 | .psl ..,_,_=>by simp only [frz]
 | .optr ..,_,hs=>by cases hs
 | .nilIface,_,_=>by simp only [frz]
 | .nilPtr,_,_=>by simp only [frz]
 | .nilFunc,_,_=>by simp only [frz]
theorem jo: ∀ (l:List (PV U)) (k:List (PV U)->M U),PV.stbL l=true->d6 l k=k l
 |[],_,_=>by rw [d6]
 |v::r,k,hs=>by
  simp only [PV.stbL,aj] at hs
  rw [d6,uT v _ hs.1,jo r _ hs.2]
end
theorem uR: ∀ {bs:List (Nat×Box U)} (k:List (Nat×Box U)->M U),(bs.all fun x=>x.2.stb)=true->ew bs k=k bs
 |[],_,_=>rfl
 |(id,.cells cs)::r,k,h=>by
  simp only [List.all_cons,aj] at h
  rw [ew,jo cs _ h.1,uR _ h.2]
 |(id,.map e l)::r,k,h=>by
  simp only [List.all_cons,aj] at h
  cases h.1
theorem GC {K:bA U} {q:Option Nat} {bs:List (Nat×Box U)} {ρ:Nat->Nat} {cs:List (Box U)} {m:M U} {σ:St U} {fp:List Loc} (hnd:(bs.map (·.1)).Nodup) (hb: ∀x∈bs,bH q x.1=false->σ.b x.1=some x.2) (hr:(n5 q bs ρ cs m).Rel K σ fp r τ gp):
  ∃σ' fp',m.Rel K σ' fp' r τ gp/\(∀n,σ'.r n=σ.r n)/\(∀i,σ'.o i=σ.o i)/\(∀i,σ'.u i=σ.u i)/\(∀id,id∉bs.map (·.1)->σ'.b id=σ.b id)/\
   ((cs=[]/\ ∀id,σ'.b id=σ.b id)\/ ∃kd n a id g,cs=[.cells (.int kd n::a)]/\bs[n.toNat]? =some (id,.cells g)/\a.length<=g.length/\bH q id=false/\σ'.b id=some (.cells (a.map (PV.ren true ρ)++g.drop a.length))/\ ∀i,i≠id->σ'.b i=σ.b i):=by
 unfold n5 at hr
 split at hr
 ·exact ⟨σ,fp,hr,fun _=>rfl,fun _=>rfl,fun _=>rfl,fun _ _=>rfl,.inl ⟨rfl,fun _=>rfl⟩⟩
 ·rename_i kd n a
  split at hr
  ·rename_i id g hbs
   cases hc:a7 a.length g.length&& !bH q id with
   |false=>rw [hc] at hr;exact hr.elim
   |true=>
    rw [hc] at hr
    simp only [aj,Bool.not_eq_true'] at hc
    obtain ⟨σ1,hs,hr⟩:=hr
    obtain ⟨all,e1,e2,e3,rfl⟩:=St.setH_inv hs
    have hm:=dk hbs
    rw [hb _ hm hc.2] at e1
    injection e1 with e1
    injection e1 with e1
    subst e1
    refine ⟨_,_,hr,fun _=>rfl,fun _=>rfl,fun _=>rfl,fun i hi=> ?_,.inr ⟨kd,n,a,id,g,rfl,hbs,eI hc.1,hc.2,by simp,fun i hi=> ?_⟩⟩
    ·have:id≠i:=fun e=>hi (e▸List.mem_map_of_mem (f:=(·.1)) hm)
     simp_all
    ·simp [Ne.symm hi]
  ·exact hr.elim
 ·exact hr.elim
theorem Dv {ο:Nat->Array Value} (bs:List (Nat×Box U)) {σ:St U} {D:Nat->Option Nat} {k:List (Nat×Box U)->M U} {fp:List Loc} {tm:Array Value} {K:bA U} (h:Sim X c tm w σ g D) (hb: ∀x∈bs,e8 X w (c.N g D) g ο x) (hr:(ew bs k).Rel K σ fp r τ gp):
  ∃qs σ' D' fp',(k qs).Rel K σ' fp' r τ gp/\Frozen X c tm w g σ D σ' D'/\qs.map (·.1)=bs.map (·.1)/\(∀x∈qs,e8 X w (c.N g D') g ο x)/\((bs.all fun x=>x.2.stb)=true->qs=bs/\σ'=σ):=by
 by_cases hp:(bs.all fun x=>x.2.stb)=true
 ·rw [uR _ hp] at hr
  exact ⟨bs,σ,D,fp,hr,.refl h,rfl,hb,fun _=>⟨rfl,rfl⟩⟩
 ·obtain ⟨qs,σ',D',fp',h1,h2,h3,h4⟩:=nG bs h hb hr
  grind
def fe (w:World) (ο:Nat->Array Value) (l:Nat) (kq:Option Nat) (b:Nat):Array Value:=if kq=some b then (match w.heap[b]? with|some (.cells cur _ _)=>(cur.toList.drop l).toArray|_=>ο b) else ο b
theorem um {tm:Array Value} (h:Sim X c tm w σ g D) {q:Option Nat} {l id k:Nat} (hk:g.μ id=some k) (hs:bH q id=false):fe w c.ο l (q.bind g.μ) k=c.ο k:=by
 have hne:q.bind g.μ≠some k:=by
  intro e
  cases q with
  |none=>simp at e
  |some j=>
   simp only [bB] at e
   have:=h.inj _ _ _ e hk
   grind [sameId_iff]
 grind [fe]
theorem ul {tm:Array Value} (h:Sim X c tm w σ g D) {q:Option Nat} {l id:Nat} {b b':Box U} (hb:σ.b id=some b) (hc:b.cutIf (bH q id) l=some b'):e8 X w (c.N g D) g (fe w c.ο l (q.bind g.μ)) (id,b'):=by
 obtain ⟨k,hk,hbx⟩:=h.boxes id b hb
 refine ⟨k,hk, ?_⟩
 cases hs:bH q id with
 |false=>
  rw [hs] at hc
  simp only [Box.cutIf,cond_false,Option.some.injEq] at hc
  grind [um]
 |true=>
  rw [hs] at hc
  rw [sameId_iff] at hs
  subst hs
  cases b with
  |map e l=>cases hc
  |cells cs=>
   simp only [Box.cutIf,cond_true] at hc
   cases hle:a7 l cs.length with
   |false=>grind
   |true=>
    rw [hle] at hc
    simp only [cond_true,Option.some.injEq] at hc
    subst hc
    have hle':l<=cs.length:=by simp_all
    obtain ⟨cur,e,h1,⟨h2,h3⟩,h4⟩:=hbx
    refine ⟨cur,e,h1, ?_,fun j p hp=>h4 j p ?_⟩
    ·simp only [fe,bB,hk,if_true,h1]
     refine ⟨by grind,fun j hj=> ?_⟩
     simp only [List.length_take,Nat.min_eq_left hle']
     simp
    grind
theorem DE {tm:Array Value} (h:Sim X c tm w σ g D) {w':World} {N':az} {g':Gh U} (hmono: ∀v p,Rep X w (c.N g D) g v p->Rep X w' N' g' v p) {q:Option Nat} {l id k:Nat} {bF bC b:Box U} {rs:List (PV U)} (hk:g.μ id=some k) (hb:σ.b id=some bF)
  (hrs:q=some id->rs=bF.rest l) (hcut:bF.cutIf (bH q id) l=some bC) (hB:BoxOK X w' N' g' (fe w c.ο l (q.bind g.μ) k) k b):BoxOK X w' N' g' (c.ο k) k (b.glue (bif bH q id then rs else [])):=by
 cases hs:bH q id with
 |false=>
  grind [um,Box.glue_nil]
 |true=>
  rw [hs] at hcut
  rw [sameId_iff] at hs
  subst hs
  have hrs:=hrs rfl
  subst hrs
  cases bF with
  |map e l=>cases hcut
  |cells cs=>
   simp only [Box.cutIf,cond_true] at hcut
   cases hle:a7 l cs.length with
   |false=>grind
   |true=>
    have hle':l<=cs.length:=by simp_all
    obtain ⟨k',hk',cur,e,h1,⟨h2,h3⟩,h4⟩:=h.boxes id _ hb
    rw [hk] at hk'
    injection hk' with hk'
    subst hk'
    simp only [fe,bB,hk,if_true,h1] at hB
    cases b with
    |map e l=>exact hB
    |cells cs'=>
     obtain ⟨cur',e',b1,⟨b2,b3⟩,b4⟩:=hB
     have hsz:((cur.toList.drop l).toArray).size=cs.length+(c.ο k).size-l:=by simp [h2]
     have hget: ∀j,j<((cur.toList.drop l).toArray).size->((cur.toList.drop l).toArray).getD j undef=cur.getD (l+j) undef:=fun j _=>by simp
     simp only [cond_true,Box.rest,Box.glue]
     refine ⟨cur',e',b1,⟨by grind,fun j hj=> ?_⟩,fun j p hp=> ?_⟩
     ·have hi:cs.length-l+j<((cur.toList.drop l).toArray).size:=by omega
      grind
     grind
theorem DD {t:Bool} {l:Nat} {b b':Box U} {rs:List (PV U)} (h:b.cutIf t l=some b') (hr:t=true->rs=b.rest l):b'.glue (bif t then rs else [])=b:=by
 cases t with
 |false=>
  simp_all [Box.cutIf,Box.glue_nil]
 |true=>
  rw [hr rfl]
  cases b with
  |map e l=>cases h
  |cells cs=>
   simp only [Box.cutIf,cond_true] at h
   cases hle:a7 l cs.length with
   |false=>grind
   |true=>
    rw [hle] at h
    simp only [cond_true,Option.some.injEq] at h
    subst h
    simp [Box.glue,Box.rest]
theorem tK {lim:FuncId->Nat} {kb:FuncId->List Bool} {CP:FuncId->Array Value->World->(Ending->World->Prop)->Prop} (hCP: ∀ {f vs w} {R R':Ending->World->Prop},CP f vs w R->(∀e w,R e w->R' e w)->CP f vs w R') (h:Sim X c a.tmps w σ g D) {give:List Bool} {p:PV U} {ps:List (PV U)} {fv:Value} {xs:Array Value} (hp:Rep X w (c.N g D) g fv p) (hxl:ps.length=xs.size)
  (hx: ∀ (j:Nat) q,ps[j]? =some q->Rep X w (c.N g D) g (xs.getD j undef) q) {o:Oper} (ho:o.dst=dst) (hd:aW c.nt o=true) (hr:(eM lim kb give dst p ps).Rel (eG X CP) σ fp r τ gp) (ht:Then X c a r τ next Q):
  ∃f a0s bs,fv= .func (.func f) a0s bs/\(∃fn,P.funcs[f]? =some fn/\(fn.name== "runtime.NumGoroutine")=false/\fn.body.isNone=false)/\
   CP f (a0s++xs++bs) w fun
    | .returned v,w''=>next (a.put dst v) w''
    | .panicked chain,w''=>Q (.panic chain) a w''
    | .outgrown,_=>LetsOut Q:=by
 unfold eM at hr
 split at hr
 case h_2=>exact hr.elim
 rename_i gid first caps
 cases hp with
 |func _ _ _ a0s bs ha hb hf1 hf2=>
 refine ⟨gid,a0s,bs,rfl, ?_⟩
 have hall: ∀ (j:Nat) q,(first++ps++caps)[j]? =some q->Rep X w (c.N g D) g ((a0s++xs++bs).getD j undef) q:=by
  have h1:=xS (X:=X) (w:=w) (N:=c.N g D) (g:=g) (xs:=a0s.toList) (ys:=xs.toList) (ps:=first) (qs:=ps) (by omega) (fun j p hp=>by simp_all) (fun j p hp=>by simp_all)
  have h2:=xS (X:=X) (w:=w) (N:=c.N g D) (g:=g) (xs:=a0s.toList++xs.toList) (ys:=bs.toList) (ps:=first++ps) (qs:=caps) (by grind) h1 (fun j p hp=>by simp_all)
  grind [uV]
 have hsz:(a0s++xs++bs).size=(first++ps++caps).length:=by grind
 generalize a0s++xs++bs=vs at hall hsz
 generalize first++ps++caps=all at hr hall hsz
 obtain ⟨q1,σ1,D1,fp1,hr1,hF1,hl1,hq1⟩:=uS give all h (fun j=>vs.getD j undef) hall hr
 dsimp only at hr1
 generalize uk (lim gid) q1=q at hr1
 generalize lim gid=l at hr1
 obtain ⟨bs1,fp2,hr2,hb1⟩:=Dy 100 _ [] (by simp) hr1
 obtain ⟨bs2,σ2,D2,fp3,hr3,hF2,hkeys,hb2,hplain⟩:=Dv (ο:=fe w c.ο l (q.bind g.μ)) bs1 hF1.sim (fun x hx=>by
  obtain ⟨b,e1,e2⟩:=hb1 x hx
  exact ul hF1.sim e1 e2) hr2
 have h2:=hF2.sim
 obtain ⟨qs,σ3,fp4,G,δ,hr4,hl4,hSp,_,hδ,hδi,hqs⟩:=uW h2 give q1 (fun j=>vs.getD j undef) (.refl σ2) (fun j p hp=>hF2.rep (hq1 j p hp)) hr3
 rw [ei] at hSp
 generalize hqin:ri q (bs2.map (·.1))=qin at hr4
 cases hh:eQ qs bs2 with
 |false=>rw [hh] at hr4;exact hr4.elim
 |true=>
 cases qin with
 |false=>rw [hh] at hr4;exact hr4.elim
 |true=>
 rw [hh] at hr4
 obtain ⟨out,⟨hfn,hOK⟩,hr5⟩:=hr4
 refine ⟨hfn, ?_⟩
 obtain ⟨ν,hν⟩:=wq hb2
 have hoz: ∀b,w.heap.size<=b->fe w c.ο l (q.bind g.μ) b= #[]:=fun b hb=>by
  have hne:q.bind g.μ≠some b:=by
   intro e
   cases q with
   |none=>simp at e
   |some j=>
    simp only [bB] at e
    have:=(h2.new _ _ e).1
    omega
  simp only [fe]
  rw [if_neg hne]
  exact c.oz b (dI h2.ext.size hb)
 have hgiven:=(nI h2 false hoz (vs:=vs) (by omega) hb2 hh (fun j b hj=>by rw [hl4];exact hδ j b hj) hδi hqs hν (F:=fun b=>b.2.renK (bif bH q b.1 then kb gid else []) (aS (bs2.map (·.1)))) fun x hx g' t k hμ hbx=>hbx.renK _ _ rfl (fun _ _ _ _=>rfl) (fun _ _ _ h=>h) (.inl hx) hμ).2
 have hnd:=(js hh).2.2.1
 have hcalls:=hOK w vs _ ν δ _ hgiven
 have hqm: ∀j,q=some j->j∈bs2.map (·.1):=fun j hj=>by
  subst hj
  simp only [ri] at hqin
  obtain ⟨i,hi,he⟩:=List.any_eq_true.1 hqin
  have:j=i:=by simpa using he
  grind
 have hbxs: ∀id∈bs2.map (·.1),∃bF bC,σ2.b id=some bF/\bF.cutIf (bH q id) l=some bC:=fun id hid=>by
  rw [hkeys] at hid
  obtain ⟨x,hx,rfl⟩:=ck.1 hid
  obtain ⟨b,e1,e2⟩:=hb1 x hx
  exact ⟨b,x.2,(hF2.same.b _).trans e1,e2⟩
 obtain ⟨rs,hrs2⟩: ∃rs:List (PV U),∀id bF,σ2.b id=some bF->q=some id->rs=bF.rest l:=by
  cases q with
  |none=>simp
  |some j=>
   cases hj:σ2.b j with
   |none=>grind
   |some b=>exact ⟨b.rest l,fun id bF hb h=>by grind⟩
 have hrsq: ∀id∈bs2.map (·.1),q=some id-> ∃b,σ3.b id=some b/\rs=b.rest l:=fun id hid hq=>by
  obtain ⟨bF,_,e1,_⟩:=hbxs id hid
  exact ⟨bF,(hSp.b id).trans e1,hrs2 id bF e1 hq⟩
 have hnl:bs2.length=(bs2.map (·.1)).length:=by simp
 have state: ∀ {w':World} {cs:List (Box U)} {σ':St U} {fo:Option (Ob U)} {fval:Value} {fD:Option Nat} {ν':Nat->Nat} {δ':Nat->Option Nat} {new:List Nat} {d:Nat},(bs2.map (·.1)++new).Nodup->(bs2.map (·.1)++new).length=cs.length->(∀id∈new,σ2.b id=none)->(∀id∈new,id<1000000)->
   (∀i,(fo=none\/i≠d)->σ'.o i=σ3.o i/\σ'.u i=σ3.u i)->
   (∀ob,fo=some ob->σ'.o d=some ob/\σ'.u d= .wr/\(∀ob0,σ3.o d=some ob0->ob0.ver<ob.ver)/\ObOK X w' (NB (dg (c.N g D2) bs2.length ν δ) cs.length ν' δ') (gB U cs.length ν') ob.e ob.l fval .wr fD)->
   (∀b,fD=some b-> ∃j,δ' j=some b)->(fo=none->fD=none)->(∀n,σ'.r n=σ3.r n)->(∀id,id∉bs2.map (·.1)++new->σ'.b id=σ3.b id)->
   (∀ (k:Nat) id b,(bs2.map (·.1)++new)[k]? =some id->cs[k]? =some b->σ'.b id=some ((b.ren true fun i=>(bs2.map (·.1)++new).getD i 0).glue (bif bH q id then rs else [])))->
   Back X w w' (dg (c.N g D2) bs2.length ν δ) ν δ (fe w c.ο l (q.bind g.μ)) bs2.length qs.length ν' δ' cs->
   ∃g' D',Sim X c a.tmps w' σ' g' D'/\(∀v p,Rep X w' (NB (dg (c.N g D2) bs2.length ν δ) cs.length ν' δ') (gB U cs.length ν') v p->Rep X w' (c.N g' D') g' v (p.ren true fun i=>(bs2.map (·.1)++new).getD i 0))/\
    ∀ob,fo=some ob->g'.κ d=some (ob.ver,ob.e,fval):=by
  intro w' cs σ' fo fval fD ν' δ' new d k1 k2 k3 klow k4 k5 k6 k7 k8 k9 k10 k11
  rw [hnl] at k5 k11 ⊢
  refine h2.called (G:=G) k1 k2 hν k3 klow (fun j b hj=>(hδ j b hj).2) (fun i hi=> ?_) (fun i hi hc=> ?_) (fun ob hob=> ?_) k6 k7 (fun n=>(k8 n).trans (hSp.r n)) (fun id hid=>(k9 id hid).trans (hSp.b id)) k10 (fun N' g' hmono k id b hk hlt hB=> ?_) k11
  ·obtain ⟨ob,e1,e2,e3⟩:=hSp.spent i hi
   grind
  ·obtain ⟨e1,e2⟩:=hSp.other i hi
   grind
  ·obtain ⟨e1,e2,e3,e4⟩:=k5 ob hob
   refine ⟨e1,e2,fun ob0 h0=> ?_,e4⟩
   by_cases hdG:d∈G
   ·obtain ⟨ob1,f1,f2,_⟩:=hSp.spent d hdG
    grind
   ·exact e3 ob0 ((hSp.other d hdG).1.trans h0)
  ·by_cases hkl:k<(bs2.map (·.1)).length
   ·rw [List.getElem?_append_left hkl] at hk
    obtain ⟨bF,bC,e1,e2⟩:=hbxs id (dk hk)
    refine DE h2 hmono ?_ e1 (hrs2 id bF e1) e2 hB
    rw [k11.old k hkl]
    grind
   ·have hid:id∈new:=by
     grind
    have hsq:bH q id=false:=by
     grind [sameId_iff]
    have hge:w.heap.size<=ν' k:=k11.new k (by omega) hlt
    rw [hsq,cond_false,Box.glue_nil,c.oz _ (dI h2.ext.size hge)]
    grind
 have hlren:(PV.renL false (aS (bs2.map (·.1))) qs).length=qs.length:=by simp [cq]
 refine hCP hcalls fun e w' hret=> ?_
 rw [e_,hlren] at hret
 cases e with
 |outgrown=>exact hret.elim
 |returned rv=>
  cases out with
  |panic v cs=>exact hret.elim
  |ret v cs=>
   simp only at hr5
   cases hble:a7 (bs2.map (·.1)).length cs.length with
   |false=>
    rw [hble] at hr5
    simp only [cond_false] at hr5
    generalize hgv:(bs2.map fun b=>b.2.renK (bif bH q b.1 then kb gid else []) (aS (bs2.map (·.1))))=gv at hret
    have hgvl:gv.length=(bs2.map (·.1)).length:=by rw [<-hgv];simp
    have hful:Out.full gv (.ret v cs)= .ret v (iF gv cs):=by
     grind [Out.full]
    rw [hful] at hret
    obtain ⟨ν',δ',hback,hrep⟩:=hret
    have main:v.noFresh->(bif bs1.all fun x=>x.2.stb then n5 q bs1 (fun i=>(bs2.map (·.1)++bz ((dst.getD 0+1)*1000) (cs.length-(bs2.map (·.1)).length)).getD i 0) cs (put dst (PV.ren true (fun i=>(bs2.map (·.1)++bz ((dst.getD 0+1)*1000) (cs.length-(bs2.map (·.1)).length)).getD i 0) v)) else .fail:M U).Rel (eG X CP) σ3 fp4 r τ gp->next (a.put dst rv) w':=by
     intro hnf hr5
     have hcl:cs.length-(bs2.map (·.1)).length=0:=by
      grind [Nat.ble_eq_true_of_le]
     rw [hcl] at hr5
     simp only [bz,ei] at hr5
     cases hpl:bs1.all fun x=>x.2.stb with
     |false=>rw [hpl] at hr5;exact hr5.elim
     |true=>
     rw [hpl] at hr5
     simp only [cond_true] at hr5
     obtain ⟨hbb,hss⟩:=hplain hpl
     subst hbb
     have hσ: ∀id,σ3.b id=σ1.b id:=fun id=>by rw [hSp.b,hss]
     have hbx: ∀x∈bs2,∃b,σ3.b x.1=some b/\b.cutIf (bH q x.1) l=some x.2:=fun x hx=>by
      grind
     obtain ⟨σ4,fp6,hr6,s1,s2,s3,s4,hcase⟩:=GC hnd (fun x hx hs=>by
      obtain ⟨b,e1,e2⟩:=hbx x hx
      rw [hs] at e2
      simp only [Box.cutIf,cond_false,Option.some.injEq] at e2
      rw [e1,e2]) hr5
     have hpi: ∀i∈bs2.map (·.1),(fun i=>(bs2.map (·.1)).getD i 0) (aS (bs2.map (·.1)) i)=i:=fun i hi=>by
      grind [rd]
     have hids:=(js hh).2.2.2.2
     have same: ∀ (k:Nat) id b,(bs2.map (·.1))[k]? =some id->gv[k]? =some b->σ4.b id=σ3.b id->σ4.b id=some ((b.ren true fun i=>(bs2.map (·.1)).getD i 0).glue (bif bH q id then rs else [])):=by
      intro k id b hk hb hsame
      rw [ej,fL] at hk
      obtain ⟨y,hy,rfl⟩:=hk
      rw [<-hgv,ej,hy] at hb
      injection hb with hb
      have hym:=dk hy
      have hb:Box.renK _ _ y.2=b:=hb
      subst hb
      obtain ⟨b0,e1,e2⟩:=hbx y hym
      rw [Bt (bW.1 hpl y hym) fun i hi=>hpi i (hids y hym i hi),DD e2 fun hs=>hrs2 _ _ (by grind) (sameId_iff.1 hs),hsame]
      exact e1
     obtain ⟨g',D',hs,htr,_⟩:=state (new:=[]) (fo:=none) (fval:=undef) (fD:=none) (d:=0) (σ':=σ4) (cs:=iF gv cs) (by simpa using hnd) (by rw [ei,<-hgvl];unfold iF;split<;>(try split)<;>simp) (by simp) (by simp) (fun i _=>⟨s2 i,s3 i⟩) (by simp) (by simp) (fun _=>rfl) s1 (fun id hid=>s4 id (by simpa using hid)) (fun k id b hk hb=>by
      rw [ei] at hk ⊢
      rcases hcase with ⟨rfl,hall⟩|⟨kd,n,pa,pid,pg,rfl,hbs,hle,hsq,hpb,hoth⟩
      ·exact same k id b hk hb (hall id)
      ·have hgn:gv[n.toNat]? =some (.cells (PV.renK (aS (bs2.map (·.1))) [] pg)):=by
        grind [Box.renK]
       have hidn:(bs2.map (·.1))[n.toNat]? =some pid:=by rw [ej,hbs];rfl
       simp only [iF,hgn] at hb
       by_cases hkn:k=n.toNat
       ·subst hkn
        rw [hk] at hidn
        injection hidn with hidn
        subst hidn
        have hlt:n.toNat<gv.length:=(bS.1 hgn).1
        rw [List.getElem?_set_self hlt] at hb
        injection hb with hb
        subst hb
        rw [hsq,cond_false,Box.glue_nil,hpb]
        have hst:PV.renL true (fun i=>(bs2.map (·.1)).getD i 0) (PV.renK (aS (bs2.map (·.1))) [] pg)=pg:=by
         have hym:=dk hbs
         exact rC pg (bW.1 hpl _ hym) fun i hi=>hpi i (hids _ hym i hi)
        grind [cq,Box.ren,List.map_drop]
       grind [List.getElem?_inj]) (by omega)
     have hpl2:(iF gv cs).length=gv.length:=by unfold iF;split<;>(try split)<;>simp
     have hrep:RepR X w' _ _ rv δ' v:=hrep
     have hv:=htr _ _ (wn hrep hnf)
     rw [ei] at hv
     obtain ⟨e1,e2⟩:=jQ hr6
     subst e2
     have:=hs.putAct (o:=o) hd hv
     rw [ho] at this
     exact ht.done e1 _ _ _ _ this.2 this.1
    split at hr5
    ·exact hr5.elim
    ·exact hr5.elim
    ·rename_i h1 h2
     refine main ?_ hr5
     cases v with
     |tuple vs=>grind
     |fresh e l=>grind
     |sl e l o=>rfl
     |_=>rfl
   |true=>
   rw [hble] at hr5
   simp only [cond_true] at hr5
   have hful:Out.full (bs2.map fun b=>b.2.renK (bif bH q b.1 then kb gid else []) (aS (bs2.map (·.1)))) (.ret v cs)= .ret v cs:=by
    grind [Out.full]
   rw [hful] at hret
   obtain ⟨ν',δ',hback,hrep⟩:=hret
   have hle:(bs2.map (·.1)).length<=cs.length:=by simpa using hble
   obtain ⟨hfree,fp5,hr6⟩:=Du _ hr5
   generalize hnew:bz ((dst.getD 0+1)*1000) (cs.length-(bs2.map (·.1)).length)=new at hr6 hfree
   have hnl2:new.length=cs.length-(bs2.map (·.1)).length:=by grind [nY]
   have hnn:new.Nodup:=by grind [FQ]
   have hfree': ∀id∈new,σ2.b id=none:=fun id hid=>(hSp.b id).symm.trans (hfree id hid).1
   have hlow': ∀id∈new,id<1000000:=fun id hid=>(hfree id hid).2
   have hnd2:(bs2.map (·.1)++new).Nodup:=by
    grind
   have hlen2:(bs2.map (·.1)++new).length=cs.length:=by grind
   have hzip:((bs2.map (·.1)++new).zip (cs.map (Box.ren true fun i=>(bs2.map (·.1)++new).getD i 0))).map (·.1)=bs2.map (·.1)++new:=List.map_fst_zip (Nat.le_of_eq (by rw [hlen2];simp))
   obtain ⟨σ4,fp6,hr7,s1,s2,s3,s4,s5⟩:=yH (rs:=rs) _ (by grind) (fun id hid hq=>hrsq id (hqm id hq) hq) hr6
   have hbn: ∀ (k:Nat) id b,(bs2.map (·.1)++new)[k]? =some id->cs[k]? =some b->σ4.b id=some ((b.ren true fun i=>(bs2.map (·.1)++new).getD i 0).glue (bif bH q id then rs else [])):=by
    intro k id b hk hb
    exact s5 (id,b.ren true fun i=>(bs2.map (·.1)++new).getD i 0) (dk (i:=k) (by grind))
   have hbo: ∀id,id∉bs2.map (·.1)++new->σ4.b id=σ3.b id:=fun id hid=>s4 id (by rw [hzip];exact hid)
   rcases IN hr7 with ⟨fp7,hr8,hnf⟩|⟨e,l,nv,fp7,hver,hcase⟩
   ·obtain ⟨g',D',hs,htr,_⟩:=state (fo:=none) (fval:=undef) (fD:=none) (d:=0) hnd2 hlen2 hfree' hlow' (fun i _=>⟨s2 i,s3 i⟩) (by simp) (by simp) (fun _=>rfl) s1 hbo hbn hback
    have hv:=htr _ _ (wn hrep (G2 hnf))
    obtain ⟨e1,e2⟩:=jQ hr8
    subst e2
    have:=hs.putAct (o:=o) hd hv
    rw [ho] at this
    exact ht.done e1 _ _ _ _ this.2 this.1
   ·
    have fin: ∀ {fval:Value} {fD:Option Nat} {q:PV U},ObOK X w' (NB (dg (c.N g D2) bs2.length ν δ) cs.length ν' δ') (gB U cs.length ν') e l fval .wr fD->(∀b,fD=some b-> ∃j,δ' j=some b)->(put dst q).Rel (eG X CP) ((σ4.setO (dst.getD 0) ⟨nv,e,l⟩).setU (dst.getD 0) .wr) fp7 r τ gp->
      (∀g' D',(∀v p,Rep X w' (NB (dg (c.N g D2) bs2.length ν δ) cs.length ν' δ') (gB U cs.length ν') v p->Rep X w' (c.N g' D') g' v (p.ren true fun i=>(bs2.map (·.1)++new).getD i 0))->g'.κ (dst.getD 0)=some (nv,e,fval)->Rep X w' (c.N g' D') g' rv q)->next (a.put dst rv) w':=by
     intro fval fD q hO hfD hput hq
     obtain ⟨g',D',hs,htr,hκ⟩:=state (fo:=some ⟨nv,e,l⟩) (fval:=fval) (fD:=fD) (d:=dst.getD 0) (σ':=(σ4.setO (dst.getD 0) ⟨nv,e,l⟩).setU (dst.getD 0) .wr) hnd2 hlen2 hfree' hlow' (fun i hi=>by
       have hi':dst.getD 0≠i:=by grind
       simp [hi',s2 i,s3 i]) (fun ob hob=>by
       injection hob with hob
       subst hob
       exact ⟨by simp,by simp,fun ob0 h0=>hver ob0 ((s2 _).trans h0),hO⟩) hfD (by simp) (fun n=>by simpa using s1 n) (fun id hid=>by simpa using hbo id hid) (fun k id b hk hb=>by simpa using hbn k id b hk hb) hback
     obtain ⟨e1,e2⟩:=jQ hput
     subst e2
     have:=hs.putAct (o:=o) hd (hq g' D' htr (hκ _ rfl))
     rw [ho] at this
     exact ht.done e1 _ _ _ _ this.2 this.1
    rcases hcase with ⟨hv,hr8⟩|⟨pre,post,hv,hr8,hpre,hpost⟩
    ·have hv':=xR hv
     subst hv'
     have hO:ObOK X w' (NB (dg (c.N g D2) bs2.length ν δ) cs.length ν' δ') (gB U cs.length ν') e l rv .wr (δ' 0):=hrep
     exact fin hO (fun b hb=>⟨0,hb⟩) hr8 fun g' D' _ hκ=>by
      obtain ⟨A,n,cp,hval,_⟩:=hO.val
      exact .own _ nv rv nv e rv hκ (b7 _) (fun _=>rfl) ⟨A,n,cp,hval⟩
    ·obtain ⟨pvs,rfl,hpvs⟩:=G3 hv
     obtain ⟨arr,rfl,harrl,harr⟩:=hrep
     have hlenp:pvs.length=pre.length+1+post.length:=by
      have:=congrArg dH hpvs;simp at this;omega
     have hj:pre.length<pvs.length:=by omega
     have hgetj:(pvs.map (PV.ren true fun i=>(bs2.map (·.1)++new).getD i 0))[pre.length]? =some (.fresh e l):=by
      grind
     have hpj:pvs[pre.length]? =some (.fresh e l):=by
      grind [xR]
     have hO:=harr _ _ hpj
     refine fin hO (fun b hb=>⟨pre.length,hb⟩) hr8 fun g' D' htr hκ=> ?_
     refine .tuple arr _ (by grind) fun j q hq=> ?_
     obtain ⟨A,n,cp,hval,_⟩:=(show ObOK X w' _ _ e l (arr.getD pre.length undef) .wr (δ' pre.length) from hO).val
     have hothers: ∀ (j:Nat) q,j≠pre.length->(pre++ .fresh e l::post)[j]? =some q->Rep X w' (c.N g' D') g' (arr.getD j undef) q:=by
      intro j q hne hq
      have hq':=hq
      rw [hpvs,ej,fL] at hq
      obtain ⟨q0,hq0,rfl⟩:=hq
      refine htr _ _ ((harr j q0 hq0).rep ?_)
      rw [<-lX (keep:=true) (ρ:=fun i=>(bs2.map (·.1)++new).getD i 0)]
      by_cases hjl:j<pre.length
      ·grind
      ·rw [fJ (by omega)] at hq'
       obtain ⟨k,hk⟩: ∃k,j-pre.length=k+1:=⟨j-pre.length-1,by omega⟩
       grind
     by_cases hjp:j=pre.length
     ·subst hjp
      rw [fJ (b7 _)] at hq
      simp at hq
      subst hq
      exact .own _ nv _ nv e _ hκ (b7 _) (fun _=>rfl) ⟨A,n,cp,hval⟩
     ·refine hothers j q hjp ?_
      by_cases hjl:j<pre.length
      ·grind
      ·rw [fJ (by omega)] at hq ⊢
       grind
 |panicked chain=>
  cases out with
  |ret v cs=>
   exfalso
   unfold Out.full at hret
   dsimp only at hret
   revert hret
   cases a7 (bs2.map fun b=>b.2.renK (bif bH q b.1 then kb gid else []) (aS (bs2.map (·.1)))).length cs.length<;>exact id
  |panic v cs=>
   obtain ⟨hcl,val,rfl,hback,hrep⟩:=hret
   simp only at hr5
   cases hble:ac (bs2.map (·.1)).length cs.length with
   |false=>rw [hble] at hr5;exact hr5.elim
   |true=>
   rw [hble] at hr5
   simp only [cond_true] at hr5
   have hle:(bs2.map (·.1)).length=cs.length:=by omega
   have hzip:((bs2.map (·.1)).zip (cs.map (Box.ren true fun i=>(bs2.map (·.1)).getD i 0))).map (·.1)=bs2.map (·.1):=List.map_fst_zip (Nat.le_of_eq (by simpa using hle))
   obtain ⟨σ4,fp6,hr7,s1,s2,s3,s4,s5⟩:=yH (rs:=rs) _ (by rw [hzip];exact hnd) (fun id hid hq=>hrsq id (hqm id hq) hq) hr5
   obtain ⟨e1,e2,_⟩:=hr7
   subst e2
   obtain ⟨g',D',hs,htr,_⟩:=state (new:=[]) (fo:=none) (fval:=undef) (fD:=none) (d:=0) (cs:=cs) (ν':=ν) (δ':=fun _=>none) (by simpa using hnd) (by simpa using hle) (by simp) (by simp) (fun i _=>⟨s2 i,s3 i⟩) (by simp) (by simp) (fun _=>rfl) s1
    (fun id hid=>by
     grind) (fun k id b hk hb=>by
     rw [ei] at hk ⊢
     exact s5 (id,b.ren true fun i=>(bs2.map (·.1)).getD i 0) (dk (i:=k) (by grind))) hback
   rw [hcl] at htr
   have hv:=htr _ _ hrep
   rw [ei] at hv
   exact ht.raise _ e1 w' g' D' val hv hs
theorem tJ {lim:FuncId->Nat} {kb:FuncId->List Bool} (h:Sim X c a.tmps w σ g D) {give:List Bool} {p:PV U} {ps:List (PV U)} {fv:Value} {xs:Array Value} (hp:Rep X w (c.N g D) g fv p) (hxl:ps.length=xs.size)
  (hx: ∀ (j:Nat) q,ps[j]? =some q->Rep X w (c.N g D) g (xs.getD j undef) q) {o:Oper} (ho:o.dst=dst) (hd:aW c.nt o=true) (hr:(eM lim kb give dst p ps).Rel (bL X) σ fp r τ gp) (ht:Then X c a r τ next Q):
  ∃f a0s bs,fv= .func (.func f) a0s bs/\(∃fn,P.funcs[f]? =some fn/\(fn.name== "runtime.NumGoroutine")=false/\fn.body.isNone=false)/\
   Calls P f (a0s++xs++bs) w fun
    | .returned v,w''=>next (a.put dst v) w''
    | .panicked chain,w''=>Q (.panic chain) a w''
    | .outgrown,_=>LetsOut Q:=
 tK (CP:=Calls P) (fun hc hm=>hc.mono hm) h hp hxl hx ho hd hr ht
end
section
variable {U:Uni} {V:Env U} {P:Program} {X:Link V P} {S:Side U} {c:Ctx} {a:Act} {w:World} {σ:St U} {g:Gh U} {D:Nat->Option Nat}
variable {next:Act->World->Prop} {Q:Exit->Act->World->Prop} {r:MR U} {τ:St U} {fp gp:List Loc} {N:az}
variable {dst:Option Tmp} {ty:TypeId} {pos:String} {after:Array Edge} {gd:Option (Nat×Bool)}
def gh (X:Link V P):Prop:= ∀ (f:FuncId) (ps:List (PV U)) (e:U.E) (l l':List (U.El e)),V.inpl f ps e l=some l'->
 (∃fn,P.funcs[f]? =some fn/\(fn.name== "runtime.NumGoroutine")=false/\fn.body.isNone=false)/\
 ∀ (w:World) (vs:Array Value) (N0:az) (δ:Nat->Option Nat) (ο:Nat->Array Value),Given X w vs N0 (fun _=>0) δ ο (.fresh e l::ps) []->(∀j,j≠0->δ j=none)->Calls P f vs w fun
  | .returned rv,w'=>rv= .tuple #[]/\Ext (iz 0 (ps.length+1) (fun _=>0) δ) w w'/\ObOK X w' (NB N0 0 (fun _=>0) δ) (gB U 0 fun _=>0) e l' (vs.getD 0 undef) .wr (δ 0)
  |_,_=>False
theorem DM (hI:gh X) (h:Sim X c a.tmps w σ g D) {f:FuncId} {x:PV U} {ps:List (PV U)} {xs:Array Value} (hxl:ps.length+1=xs.size) (hx:Rep X w (c.N g D) g (xs.getD 0 undef) x)
  (hps: ∀ (j:Nat) q,ps[j]? =some q->Rep X w (c.N g D) g (xs.getD (j+1) undef) q) {o:Oper} (ho:o.dst=dst) (hd:aW c.nt o=true) (hr:(qj V dst f x ps).Rel (bL X) σ fp r τ gp) (ht:Then X c a r τ next Q):
  (∃fn,P.funcs[f]? =some fn/\(fn.name== "runtime.NumGoroutine")=false/\fn.body.isNone=false)/\Calls P f xs w fun
   | .returned v,w''=>next (a.put dst v) w''
   | .panicked chain,w''=>Q (.panic chain) a w''
   | .outgrown,_=>LetsOut Q:=by
 unfold qj at hr
 split at hr
 case h_2=>exact hr.elim
 rename_i i ver
 obtain ⟨ob,fp1,hob,hver,hr1⟩:=gT hr
 simp only [M.Rel] at hr1
 have hO:=rG h hx hob hver
 cases hu:σ.u i with
 |read=>rw [hu] at hr1;exact hr1.elim
 |app=>rw [hu] at hr1;exact hr1.elim
 |wr=>
 rw [hu] at hr1 hO
 dsimp only at hr1
 cases hb:(PV.noObjL ps&&(PV.idsL ps).isEmpty&&ps.all PV.notFresh) with
 |false=>rw [hb] at hr1;exact hr1.elim
 |true=>
 rw [hb] at hr1
 simp only [aj] at hb
 obtain ⟨⟨hno,hids⟩,hnf⟩:=hb
 have hids':PV.idsL ps=[]:=by grind
 obtain ⟨l',hl',hr2⟩:=hr1
 obtain ⟨h1,h2⟩:=hI _ _ _ _ _ hl'
 refine ⟨h1, ?_⟩
 let δ:Nat->Option Nat:=fun j=>if j=0 then D i else none
 have hδ: ∀j b,δ j=some b->j=0/\D i=some b:=by
  grind
 have hNB:NB (dg (c.N g D) 0 (fun _=>0) δ) 0 (fun _=>0) δ=c.N g D:=tL (fun k o hk=>by omega) fun j b o hj=> .inr (.inr ⟨i,(hδ j b hj).2⟩)
 have hgiven:Given X w xs (dg (c.N g D) 0 (fun _=>0) δ) (fun _=>0) δ (fun _=> #[]) (.fresh ob.e ob.l::ps) []:=by
  refine ⟨⟨fun i j hi=>by simp at hi,fun i hi=>by simp at hi,fun j b hj=>(h.dnew i b (hδ j b hj).2).1,fun p q b hp hq=>by grind,fun j b hj i hi=>by simp at hi,fun b o hn=>⟨tn h hn.1,by simp,hn.2.2⟩⟩,by grind,fun j b hj=>by grind,fun b o hb=>⟨(h.glob hb).1,by simp,fun j hj=>(h.glob hb).2.2 i (hδ j b hj).2⟩,fun j p hp=> ?_,by simp,fun _ _=>rfl⟩
  simp only [List.length_nil,hNB]
  cases j with
  |zero=>
   simp at hp
   subst hp
   exact hO.turn (fun _ _=>rfl) (fun _ _ _ _=>rfl) (fun _ _ _ h=>h)
  |succ j=>
   have hp':ps[j]? =some p:=by grind
   have hrep:=(hps j p hp').plain (g':=gB U 0 fun _=>0) (w':=w) (N':=c.N g D) (fun _ _ _ _=>rfl) (fun _ _ _ h=>h) (dD hno hp') fun i hi b hb=>by
    have:=cS hp' i hi
    grind
   grind [RepG.of]
 refine (h2 w xs _ δ _ hgiven fun j hj=>by grind).mono fun e w' he=> ?_
 cases e with
 |returned rv=>
  obtain ⟨rfl,hext,hO'⟩:=he
  rw [hNB] at hO'
  have hs:Sim X c a.tmps w' (σ.setO i ⟨ob.ver,ob.e,l'⟩) g D:=by
   obtain ⟨val,hkap,hOo⟩:=h.objs i ob hob
   have hval:xs.getD 0 undef=val:=by
    have h0:=hx
    generalize xs.getD 0 undef=v0 at h0
    cases h0<;>grind
   have hblk: ∀b,b<w.heap.size->D i≠some b->w'.heap[b]? =w.heap[b]? :=fun b hb hne=>hext.block b hb fun hm=>by
    grind [iz]
   refine h.objsTurn (fun j=>j=i) hext.os hext.tape hext.output hext.size (fun b hb hne=>hblk b hb (hne i rfl)) (fun _=>rfl) (fun _=>rfl) rfl (Gh.le.refl g) (fun j b hj=> ?_) (fun j j' b _ hj hj'=>h.dinj _ _ _ hj hj') (fun j hj=>⟨by grind [St.setO_o],rfl,rfl,rfl⟩) (fun j ob' hj ho'=> ?_) (fun j hj ho'=>by simp_all)
   ·grind
   ·subst hj
    rw [St.setO_o,if_pos rfl] at ho'
    injection ho' with ho'
    subst ho'
    refine ⟨val,hkap, ?_⟩
    rw [hval] at hO'
    simp only [St.setO_u,hu]
    have hDe:δ 0=D j:=by rfl
    rw [hDe] at hO'
    exact hO'.mono (fun _ _=>rfl) (fun _ _ _ _=>rfl) (fun _ _ _ h=>h) ⟨fun id b hb=>by simp [gB] at hb,fun i ver e val hk=>by simp [gB] at hk⟩
  obtain ⟨e1,e2⟩:=jQ hr2
  subst e2
  have:=hs.putAct (o:=o) hd (v:= .tuple #[]) (p:= .tuple []) (.tuple #[] [] rfl (by simp))
  rw [ho] at this
  exact ht.done e1 _ _ _ _ this.2 this.1
 |panicked ch=>exact he.elim
 |outgrown=>exact he.elim
theorem F5 (hI:gh X) {cl:Call} {f:Operand} (hc:cl.callee= .value f) (hd:aW c.nt ⟨dst,.call cl,ty,pos,after,gd⟩=true) (h:Sim X c a.tmps w σ g D) (hr:(bh V S ⟨dst,.call cl,ty,pos,after,gd⟩).Rel (bL X) σ fp r τ gp)
  (ht:Then X c a r τ next Q):(⟨dst,.call cl,ty,pos,after,gd⟩:Oper).wp P a w next Q:=by
 obtain ⟨callee,args,ats⟩:=cl
 simp only at hc
 subst hc
 simp only [bh] at hr
 obtain ⟨p,fp1,hp,hr1⟩:=bv h hr
 obtain ⟨ps,fp2,hl,hps,hr2⟩:=lc h hr1
 have hargs: ∀ (j:Nat) q,ps[j]? =some q->Rep X w (c.N g D) g ((args.map a.eval).getD j undef) q:=fun j q hq=>by
  simp_all
 have hsz:ps.length=(args.map a.eval).size:=by grind
 have fin: ∀ {gid:FuncId} {a0s bs:Array Value},a.eval f= .func (.func gid) a0s bs->(∃fn,P.funcs[gid]? =some fn/\(fn.name== "runtime.NumGoroutine")=false/\fn.body.isNone=false)->Calls P gid (a0s++args.map a.eval++bs) w (fun
    | .returned v,w''=>next (a.put dst v) w''
    | .panicked chain,w''=>Q (.panic chain) a w''
    | .outgrown,_=>LetsOut Q)->(⟨dst,.call ⟨.value f,args,ats⟩,ty,pos,after,gd⟩:Oper).wp P a w next Q:=by
  intro gid a0s bs he hfn hcalls
  obtain ⟨fn,f1,f2,f3⟩:=hfn
  unfold Oper.wp
  rw [Hq rfl he,rQ f1 f2 f3]
  exact hcalls
 split at hr2
 ·rename_i gid x rest hin
  have hx0:=hargs 0 x rfl
  obtain ⟨h1,h2⟩:=DM hI h (o:=⟨dst,.call ⟨.value f,args,ats⟩,ty,pos,after,gd⟩) (xs:=args.map a.eval) (by omega) hx0 (fun j q hq=>hargs (j+1) q (by grind)) rfl hd hr2 ht
  generalize he:a.eval f=fv at hp
  cases hp<;>grind
 ·obtain ⟨gid,a0s,bs,he,hfn,hcalls⟩:=tJ h (o:=⟨dst,.call ⟨.value f,args,ats⟩,ty,pos,after,gd⟩) hp hsz hargs rfl hd hr2 ht
  exact fin he hfn hcalls
theorem Hn {x:Operand} {nm:String} {args:Array Operand} {ats:Array TypeId} {t:TypeId} {v:Value} {f:FuncId} (he:a.eval x= .iface t v) (hm: ∀w,(method (P.types.size+Made.depth) t v nm).run P w= .ok (f,v) w) (w:World):
  (execOp a.eval ⟨dst,.call ⟨.invoke x nm,args,ats⟩,ty,pos,after,gd⟩).run P w=(callFunc f (#[v]++args.map a.eval)).run P w:=by
 have e1:(#[Value.iface t v]++args.map a.eval)[0]? =some (.iface t v):=by rw [Array.getElem?_append_left (Nat.zero_lt_one)];rfl
 have e2:(#[Value.iface t v]++args.map a.eval).extract 1 (#[Value.iface t v]++args.map a.eval).size=args.map a.eval:=by
  apply Array.ext'
  simp only [Array.toList_extract,Array.toList_append,Array.size_append]
  simp [List.extract]
  exact List.take_of_length_le (by simp)
 simp only [execOp,resolve,invoke,bu,b9,bq,he,e1,e2,callMethod,run_program,hm]
theorem Gb {x:Operand} {nm:String} {args:Array Operand} {ats:Array TypeId} (hd:aW c.nt ⟨dst,.call ⟨.invoke x nm,args,ats⟩,ty,pos,after,gd⟩=true) (h:Sim X c a.tmps w σ g D) (hr:(bh V S ⟨dst,.call ⟨.invoke x nm,args,ats⟩,ty,pos,after,gd⟩).Rel (bL X) σ fp r τ gp)
  (ht:Then X c a r τ next Q):(⟨dst,.call ⟨.invoke x nm,args,ats⟩,ty,pos,after,gd⟩:Oper).wp P a w next Q:=by
 simp only [bh] at hr
 obtain ⟨p,fp1,hp,hr1⟩:=bv h hr
 obtain ⟨ps,fp2,hl,hps,hr2⟩:=lc h hr1
 have hargs: ∀ (j:Nat) q,ps[j]? =some q->Rep X w (c.N g D) g ((args.map a.eval).getD j undef) q:=fun j q hq=>by
  simp_all
 have hsz:ps.length=(args.map a.eval).size:=by grind
 split at hr2
 case h_2=>exact hr2.elim
 rename_i t v
 split at hr2
 case h_2=>exact hr2.elim
 rename_i f hf
 generalize he:a.eval x=ev at hp
 cases hp with
 |iface _ u _ hu=>
  have hfr:Rep X w (c.N g D) g (.func (.func f) #[] #[]) (.func f [] []):= .func f [] [] #[] #[] rfl rfl (by simp) (by simp)
  obtain ⟨gid,a0s,bs,he',⟨fn,f1,f2,f3⟩,hcalls⟩:=tJ h (o:=⟨dst,.call ⟨.invoke x nm,args,ats⟩,ty,pos,after,gd⟩) (xs:= #[u]++args.map a.eval) hfr (by simp [hsz];omega) (fun j q hq=>by
   cases j with
   |zero=>
    simp at hq;subst hq
    rw [ct,Array.getElem?_append_left (Nat.zero_lt_one)]
    exact hu
   |succ j=>
    have:=hargs j q (by simpa using hq)
    rw [show (#[u]++args.map a.eval).getD (j+1) undef=(args.map a.eval).getD j undef by rw [ct,ct,Array.getElem?_append_right (by show 1<=j+1;omega)];rfl]
    exact this) rfl hd hr2 ht
  injection he' with e1 e2 e3
  injection e1 with e1
  subst e1;subst e2;subst e3
  unfold Oper.wp
  rw [Hn he (X.inv _ _ _ hf u),rQ f1 f2 f3]
  rw [Array.empty_append,Array.append_empty] at hcalls
  exact hcalls
end
section
variable {U:Uni} {V:Env U} {P:Program} {X:Link V P} {K:bA U} {S:Side U} {c:Ctx} {a:Act} {w:World} {σ:St U} {g:Gh U} {D:Nat->Option Nat}
variable {next:Act->World->Prop} {Q:Exit->Act->World->Prop} {r:MR U} {τ:St U} {fp gp:List Loc} {N:az}
variable {dst:Option Tmp} {ty:TypeId} {pos:String} {after:Array Edge} {gd:Option (Nat×Bool)}
theorem Gi {t:TypeId} (hd:aW c.nt ⟨dst,.makeMap t none,ty,pos,after,gd⟩=true) (h:Sim X c a.tmps w σ g D) (hr:(bh V S ⟨dst,.makeMap t none,ty,pos,after,gd⟩).Rel K σ fp r τ gp)
  (ht:Then X c a r τ next Q):(⟨dst,.makeMap t none,ty,pos,after,gd⟩:Oper).wp P a w next Q:=by
 simp only [bh] at hr
 split at hr
 case h_2=>exact hr.elim
 rename_i d e he
 simp only [M.Rel] at hr
 split at hr
 case h_2=>exact hr.elim
 rename_i hfree
 obtain ⟨h1,h2,_⟩:=hr
 subst h2
 have hs:=h.newBox hfree (c.free (nq hd)) (o:= .map #[] 0) (b:= .map e []) ⟨#[],0,heap_alloc_new w _,rfl,by simp⟩
 obtain ⟨h3,h4⟩:=hs.putAct (o:=⟨some d,.makeMap t none,ty,pos,after,gd⟩) hd (p:= .mp d) (.mp d w.heap.size (by simp [Gh.put]))
 unfold Oper.wp
 have hrun:(execOp a.eval ⟨some d,.makeMap t none,ty,pos,after,gd⟩).run P w= .ok (.value (.map (some w.heap.size))) (w.alloc (.map #[] 0)):=by
  rfl
 rw [hrun]
 exact ht.done h1 _ _ _ _ h4 h3
structure KeyT (P:Program) (kt:TypeId) (n:Nat) (fs:Array Field):Prop where
 und:P.underlying kt=some (.struct fs)
 stood:P.stoodInHeld kt=false
 size:fs.size=n
 ints: ∀ (i:Nat) (f:Field),fs[i]? =some f->f.name≠ "_" /\f.offset=i/\ ∃k,P.underlying f.type=some (.int k)
theorem wk {t:TypeId} {e:U.E} (X:Link V P) (h:V.isMt t e=true):(∃b i,P.underlying t=some (.map (X.etid e) b)/\P.info? b=some i/\i.zero=some (.bool false))/\(∃fs,KeyT P (X.etid e) (X.esize e) fs)/\
  ∀x y,∃b,PV.eqvI (V.cells e x) (V.cells e y)=some b:=by
 unfold Env.isMt at h
 split at h
 ·rename_i e' he
  split at h
  ·rename_i hh
   subst hh
   refine ⟨wg X he, ?_⟩
   unfold Env.mty at he
   split at he
   ·rename_i row aO
    obtain ⟨⟨fs,h1,h2,h3,h4⟩,h5⟩:=X.keyT t row _ aO he
    exact ⟨⟨fs,h1,h2,h3,h4⟩,h5⟩
   grind
  simp_all
 simp_all
theorem ye {kt:TypeId} {n:Nat} {fs:Array Field} (hk:KeyT P kt n fs) (em:Bool) (d:Nat) (vs:Array Value) (hs:vs.size=n) (w:World):
  (Instr.checkKey em (d+2) kt (.agg vs)).run P w= .ok () w:=by
 simp only [Instr.checkKey,bu,run_underlying hk.und,bq]
 rw [<-Array.forIn_toList]
 have hf: ∀f∈fs.toList,f.name≠ "_" /\(∃v,vs[f.offset]? =some v)/\ ∃k,P.underlying f.type=some (.int k):=by
  intro f hf
  obtain ⟨i,hi⟩:=List.mem_iff_getElem?.1 hf
  have hi':fs[i]? =some f:=by grind
  obtain ⟨h1,h2,h3⟩:=hk.ints i f hi'
  have hlt:i<vs.size:=by rw [hs,<-hk.size];grind
  simp_all
 generalize fs.toList=l at hf
 induction l with
 |nil=>simp
 |cons f l ih=>
  obtain ⟨h1,⟨v,hv⟩,k,hk'⟩:=hf f (by simp)
  have:=ih fun f hf'=>hf f (by simp [hf'])
  simp only [List.forIn_cons,bu,h1,ne_eq,not_false_eq_true,if_true,rT hk' hv,bq,Instr.checkKey,run_underlying hk',b9]
  exact this
def fI (X:Link V P) (w:World) (N:az) (g:Gh U) (e:U.E) (x:U.El e) (k:Value):Prop:= ∃vs,k= .agg vs/\vs.size=X.esize e/\ ∀ (j:Nat) p,(V.cells e x)[j]? =some p->Rep X w N g (vs.getD j undef) p
theorem Hl {e:U.E} {fs:Array Field} (hk:KeyT P (X.etid e) (X.esize e) fs) {x y:U.El e} {u v:Value} (hx:fI X w N g e x u) (hy:fI X w N g e y v) {b:Bool} (hb:PV.eqvI (V.cells e x) (V.cells e y)=some b):
  (Op.equal (X.etid e) u v).run P w= .ok b w:=by
 obtain ⟨xs,rfl,hxl,hxs⟩:=hx
 obtain ⟨ys,rfl,hyl,hys⟩:=hy
 have hF:P.fieldsOf (X.etid e)=fs:=by simp [Program.fieldsOf,hk.und]
 show (Op.equalIn (9998+1+1) (X.etid e) (.agg xs) (.agg ys)).run P w=_
 rw [run_equalIn_struct w (9998+1) _ xs ys (by rw [hF];exact hk.und) hk.stood,hF]
 exact yf (X:=X) (g:=g) (N:=N) 9998 xs ys fs.toList _ _ 0 b hb (by rw [X.len];simpa using hk.size) (fun i p hi=>by
  simp only [b8];exact ⟨hxs i p hi,by rw [hxl,<-X.len e x];grind⟩) (fun i p hi=>by
  simp only [b8];exact ⟨hys i p hi,by rw [hyl,<-X.len e y];grind⟩) (fun i f hf=>by
  have:=hk.ints i f (by grind);grind)
theorem yi {e:U.E} {fs:Array Field} (hk:KeyT P (X.etid e) (X.esize e) fs) (htot: ∀x y,∃b,PV.eqvI (V.cells e x) (V.cells e y)=some b) {x:U.El e} {u:Value} (hx:fI X w N g e x u) (b:Bool):
  ∀ (l:List (U.El e×Bool)) (en:List MapEntry) (i:Nat),en.length=l.length->(∀ (j:Nat) y t,l[j]? =some (y,t)-> ∃m,en[j]? =some m/\m.val= .bool t/\fI X w N g e y m.key)->
  (cW V e l x=none/\dV V e l x b=l++[(x,b)]/\(Instr.findAsking (X.etid e) u en i).run P w= .ok none w)\/
  ∃j y t,l[j]? =some (y,t)/\dC V e y x=true/\cW V e l x=some t/\dV V e l x b=l.set j (y,b)/\(Instr.findAsking (X.etid e) u en i).run P w= .ok (some (i+j,.bool t)) w:=by
 intro l
 induction l with
 |nil=>
  intro en i hl _
  have:en=[]:=List.eq_nil_of_length_eq_zero hl
  subst this
  exact .inl ⟨rfl,rfl,rfl⟩
 |cons yt l ih=>
  intro en i hl hen
  obtain ⟨y,t⟩:=yt
  cases en with
  |nil=>simp at hl
  |cons m en=>
   obtain ⟨m',hm,hmv,hmk⟩:=hen 0 y t rfl
   simp at hm
   subst hm
   obtain ⟨bb,hbb⟩:=htot x y
   obtain ⟨bc,hbc⟩:=htot y x
   have hsym:bb=bc:=by
    have key: ∀ (a0s bs:List (PV U)) (p q:Bool),PV.eqvI a0s bs=some p->PV.eqvI bs a0s=some q->p=q:=by
     intro a0s
     induction a0s with
     |nil=>grind [PV.eqvI]
     |cons z a0s ih2=>
      intro bs p q h1 h2
      obtain ⟨hlen,hh⟩:=kZ h1
      cases bs with
      |nil=>grind
      |cons z' bs=>
       obtain ⟨k,m1,m2,rfl,rfl⟩:=hh 0 z z' rfl rfl
       grind [PV.eqvI]
    grind
   have heq:=Hl (w:=w) hk hx hmk hbb
   have hel:dC V e y x=bb:=by grind [dC]
   simp only [Instr.findAsking,bu,heq,bq]
   cases bb with
   |true=>
    refine .inr ⟨0,y,t,rfl,hel,by simp [cW,hel],by simp [dV,hel], ?_⟩
    simp [hmv]
   |false=>
    rcases ih en (i+1) (by grind) (fun j y t hj=>hen (j+1) y t (by grind)) with ⟨h1,h2,h3⟩|⟨j,y',t',h1,h2,h3,h4,h5⟩
    ·grind [cW,dV]
    ·refine .inr ⟨j+1,y',t',by grind,h2,by simp [cW,hel,h3],by simp [dV,hel,h4], ?_⟩
     grind
theorem zi (h:Sim X c a.tmps w σ g D) {t:TypeId} {m key:PV U} {mv kv:Value} {k:(id:Nat)->(e:U.E)->List (U.El e×Bool)->U.El e->M U} (hm:Rep X w (c.N g D) g mv m) (hk:Rep X w (c.N g D) g kv key) (hr:(oG V t m key k).Rel K σ fp r τ gp):
  ∃id e l x fp' kb,(k id e l x).Rel K σ fp' r τ gp/\mv= .map (some kb)/\g.μ id=some kb/\σ.b id=some (.map e l)/\V.isMt t e=true/\fI X w (c.N g D) g e x kv/\BoxOK X w (c.N g D) g (c.ο kb) kb (.map e l):=by
 unfold oG at hr
 split at hr
 ·rename_i id cs
  simp only [M.Rel] at hr
  split at hr
  ·rename_i e l hb
   cases hE:V.isMt t e with
   |false=>rw [hE] at hr;exact hr.elim
   |true=>
    rw [hE] at hr
    simp only [cond_true] at hr
    split at hr
    ·rename_i x hx
     obtain ⟨kb,hkb,hbox⟩:=h.boxes _ _ hb
     obtain ⟨t1,t2,t3⟩:=X.toEl _ _ _ hx
     cases hm with
     |mp _ b hb2=>
      rw [hb2] at hkb
      injection hkb with hkb
      subst hkb
      cases hk with
      |agg vs _ hl hh=>
       refine ⟨id,e,l,x,_,b,hr,rfl,hb2,hb,hE,⟨vs,rfl,hl.trans t1,fun j p hp=> ?_⟩,hbox⟩
       have hj:j<cs.length:=by have:=(bS.1 hp).1;rw [X.len] at this;omega
       obtain ⟨q,hq,hless⟩:=t3 j _ (bP hj)
       rw [hp] at hq
       injection hq with hq
       subst hq
       exact (hh j _ (bP hj)).less hless
    ·exact hr.elim
  ·exact hr.elim
 ·exact hr.elim
theorem yj {e:U.E} {fs:Array Field} (hk:KeyT P (X.etid e) (X.esize e) fs) (u:Value) (en:List MapEntry) (w:World):(Instr.findKey (X.etid e) u en).run P w=(Instr.findAsking (X.etid e) u en 0).run P w:=by
 cases en with
 |nil=>simp [Instr.findKey,run_underlying hk.und,Instr.findNow,Instr.findAsking]
 |cons m en=>
  have:Instr.findNow (.struct fs) u (m::en) 0=none:=by
   rfl
  simp only [Instr.findKey,bu,run_underlying hk.und,bq,this]
theorem we {kb:Nat} {e:U.E} {l:List (U.El e×Bool)} {t:Array Value} (hb:BoxOK X w N g t kb (.map e l)): ∃en cl,w.heap[kb]? =some (.map en cl)/\en.toList.length=l.length/\
  ∀ (j:Nat) y t,l[j]? =some (y,t)-> ∃m,en.toList[j]? =some m/\m.val= .bool t/\fI X w N g e y m.key:=by
 obtain ⟨en,cl,h1,h2,h3⟩:=hb
 refine ⟨en,cl,h1,by omega,fun j y t hj=> ?_⟩
 obtain ⟨m,vs,e1,e2,e3,e4,e5⟩:=h3 j y t hj
 exact ⟨m,by grind,e2,vs,e3,e4,e5⟩
theorem Ge {t:TypeId} {m x:Operand} {ok:Bool} (hd:aW c.nt ⟨dst,.lookup t m x ok,ty,pos,after,gd⟩=true) (h:Sim X c a.tmps w σ g D) (hr:(bh V S ⟨dst,.lookup t m x ok,ty,pos,after,gd⟩).Rel K σ fp r τ gp)
  (ht:Then X c a r τ next Q):(⟨dst,.lookup t m x ok,ty,pos,after,gd⟩:Oper).wp P a w next Q:=by
 obtain ⟨p,fp1,hp,hr1⟩:=bv h hr
 obtain ⟨q,fp2,hq,hr2⟩:=bv h hr1
 obtain ⟨id,e,l,y,fp3,kb,hr3,hmv,hμ,hbx,hE,hkey,hbox⟩:=zi h hp hq hr2
 obtain ⟨⟨vb,i,hu,hi,hz⟩,⟨fs,hT⟩,htot⟩:=wk X hE
 obtain ⟨en,cl,hblk,hlen,hent⟩:=we hbox
 obtain ⟨vs,hkv,hvs,_⟩:=hkey
 have hck:=ye (P:=P) hT en.isEmpty 9998 vs hvs w
 have hzv:(zeroValue vb).run P w= .ok (.bool false) w:=by simp_all [zeroValue,typeInfo]
 have hrun0: ∀ {res:Option (Nat×Value)},(Instr.findAsking (X.etid e) (a.eval x) en.toList 0).run P w= .ok res w->(execOp a.eval ⟨dst,.lookup t m x ok,ty,pos,after,gd⟩).run P w=
   .ok (.value (match res with|some (_,v)=>if ok then .tuple #[v,.bool true] else v|none=>if ok then .tuple #[.bool false,.bool false] else .bool false)) w:=by
  intro res hres
  rw [<-yj hT] at hres
  simp only [execOp,Instr.lookup,bu,run_underlying hu,bq,hmv,rR hblk,b9]
  rw [hkv] at hres ⊢
  rw [show (10000:Nat)=9998+2 from rfl,hck]
  simp only [bq,hres]
  cases res<;>simp_all
 rcases yi (w:=w) hT htot (b:=true) ⟨vs,hkv,hvs,‹_›⟩ l en.toList 0 hlen hent with ⟨h1,_,h3⟩|⟨j,y',t',h1,_,h2,_,h3⟩
 ·rw [h1] at hr3
  refine aX hd ht h (hrun0 h3) ?_ hr3
  cases ok with
  |true=>
   refine .tuple _ _ rfl fun j p hp=> ?_
   match j,hp with
   |0,hp=>simp at hp;subst hp;exact .bool _
   |1,hp=>simp at hp;subst hp;exact .bool _
  |false=>exact .bool _
 ·rw [h2] at hr3
  refine aX hd ht h (hrun0 h3) ?_ hr3
  cases ok with
  |true=>
   refine .tuple _ _ rfl fun j p hp=> ?_
   match j,hp with
   |0,hp=>simp at hp;subst hp;exact .bool _
   |1,hp=>simp at hp;subst hp;exact .bool _
  |false=>exact .bool _
theorem uL: ∀ {a0s bs:List (PV U)},PV.eqvI a0s bs=some true->a0s=bs:=by
 intro a0s
 induction a0s with
 |nil=>grind [PV.eqvI]
 |cons z a0s ih=>
  intro bs h
  obtain ⟨hlen,hh⟩:=kZ h
  cases bs with
  |nil=>grind
  |cons z' bs=>
   obtain ⟨k,m1,m2,rfl,rfl⟩:=hh 0 z z' rfl rfl
   grind [PV.eqvI]
theorem Em {e:U.E} {x y:U.El e} {u v:Value} (hx:fI X w N g e x u) (hy:fI X w N g e y v) (he:PV.eqvI (V.cells e y) (V.cells e x)=some true):(Instr.keyThatStays v u).run P w= .ok u w:=by
 obtain ⟨xs,rfl,hxl,hxs⟩:=hx
 obtain ⟨ys,rfl,hyl,hys⟩:=hy
 have heq:=uL he
 obtain ⟨_,hints⟩:=kZ he
 have hsame:Instr.sameBits (9999+1) (.agg ys) (.agg xs)=true:=by
  simp only [Instr.sameBits,aj,bW]
  refine ⟨by grind,fun z hz=> ?_⟩
  obtain ⟨j,hj⟩:=List.mem_iff_getElem?.1 hz
  obtain ⟨a1,a2⟩:=z
  rw [List.getElem?_zip_eq_some] at hj
  obtain ⟨h1,h2⟩:=hj
  simp only [Array.getElem?_toList] at h1 h2
  have hlt:j<(V.cells e x).length:=by rw [X.len,<-hxl];grind
  have hc:=bP hlt
  have hc':(V.cells e y)[j]? =some (V.cells e x)[j]:=by grind
  obtain ⟨k,m1,m2,e1,e2⟩:=hints j _ _ hc' hc
  have r1:=hys j _ hc'
  have r2:=hxs j _ hc
  rw [e1] at r1 r2
  have q1:=bV r1
  have q2:=bV r2
  simp_all [Instr.sameBits]
 simp_all [Instr.keyThatStays]
theorem Gj {t:TypeId} {m x y:Operand} (h:Sim X c a.tmps w σ g D) (hr:(bh V S ⟨dst,.mapUpdate t m x y,ty,pos,after,gd⟩).Rel K σ fp r τ gp)
  (ht:Then X c a r τ next Q):(⟨dst,.mapUpdate t m x y,ty,pos,after,gd⟩:Oper).wp P a w next Q:=by
 cases hdst:dst with
 |some d=>subst hdst;exact hr.elim
 |none=>
 subst hdst
 have hdst:(none:Option Tmp)=none:=rfl
 obtain ⟨p,fp1,hp,hr1⟩:=bv h hr
 obtain ⟨q,fp2,hq,hr2⟩:=bv h hr1
 obtain ⟨z,fp3,hz,hr3⟩:=bv h hr2
 split at hr3
 case h_2=>exact hr3.elim
 rename_i b
 have hzv:=fZ hz
 obtain ⟨id,e,l,k,fp4,kb,hr4,hmv,hμ,hbx,hE,hkey,hbox⟩:=zi h hp hq hr3
 obtain ⟨e1,e2,_⟩:=hr4
 subst e2
 obtain ⟨⟨vb,i,hu,hi,hzr⟩,⟨fs,hT⟩,htot⟩:=wk X hE
 obtain ⟨en,cl,hblk,hlen,hent⟩:=we hbox
 have hkey':=hkey
 obtain ⟨vs,hkv,hvs,hvr⟩:=hkey
 have hck:=ye (P:=P) hT false 9998 vs hvs w
 have hlt:kb<w.heap.size:=(Array.getElem?_eq_some_iff.1 hblk).1
 have hw: ∀ (o:Obj) b o',b<w.heap.size-> ¬ (c.N g D) b o'->({w with heap:=w.heap.setIfInBounds kb o}:World).cell? ⟨b,o',none⟩=w.cell? ⟨b,o',none⟩:=fun o b o' _ hn=>by
  have:kb≠b:=fun e=>hn (.inr (.inl ⟨id,e▸hμ⟩))
  grind [World.cell?]
 have fin: ∀ {en':Array MapEntry} {cl':Nat},(Instr.mapUpdate t (a.eval m) (a.eval x) (a.eval y)).run P w= .ok () {w with heap:=w.heap.setIfInBounds kb (.map en' cl')}->en'.size=(dV V e l k b).length->
   (∀ (j:Nat) y t,(dV V e l k b)[j]? =some (y,t)-> ∃m,en'[j]? =some m/\m.val= .bool t/\fI X w (c.N g D) g e y m.key)->(⟨none,.mapUpdate t m x y,ty,pos,after,gd⟩:Oper).wp P a w next Q:=by
  intro en' cl' hrun hsz hen
  have hs:=h.setBox hμ (w':={w with heap:=w.heap.setIfInBounds kb (.map en' cl')}) (b:= .map e (dV V e l k b)) rfl rfl rfl (by simp) (fun b' hb'=>by grind) ⟨en',cl',by simp_all,hsz,fun j y t hj=>by
   obtain ⟨m,f1,f2,vs',f3,f4,f5⟩:=hen j y t hj
   exact ⟨m,vs',f1,f2,f3,f4,fun q p hp=>(f5 q p hp).mono X (hw _) (fun _ _ _ h=>h) (Gh.le.refl g)⟩⟩
  exact wp_skip ht hdst hs (by simp [execOp,hrun]) e1
 have base: ∀ {res:Option (Nat×Value)},(Instr.findAsking (X.etid e) (a.eval x) en.toList 0).run P w= .ok res w->(Instr.mapUpdate t (a.eval m) (a.eval x) (a.eval y)).run P w=
   (match res with
    |some (i,_)=>(do let key<-Instr.keyThatStays (((en[i]?).map (·.key)).getD (a.eval x)) (a.eval x);setObj kb (.map (en.modify i fun e=>{e with key,val:=a.eval y}) cl):Sem Unit).run P w
    |none=>(setObj kb (.map (en.push {key:=a.eval x,val:=a.eval y,born:=cl}) (cl+1))).run P w):=by
  intro res hres
  rw [<-yj hT] at hres
  simp only [Instr.mapUpdate,bu,run_underlying hu,bq,hmv,rR hblk]
  grind [bq,bu]
 rcases yi (w:=w) hT htot (b:=b) hkey' l en.toList 0 hlen hent with ⟨h1,h2,h3⟩|⟨j,y',t',h1,hEq,h2,h4,h3⟩
 ·refine fin ((base h3).trans (yk _ hblk)) (by grind) fun j y1 t1 hj=> ?_
  rw [h2] at hj
  by_cases hjl:j<l.length
  ·grind
  ·rw [fJ (by omega)] at hj
   have hj0:j-l.length=0:=by
    grind
   rw [hj0] at hj
   simp at hj
   obtain ⟨rfl,rfl⟩:=hj
   have hje:j=en.size:=by grind
   subst hje
   exact ⟨{key:=a.eval x,val:=a.eval y,born:=cl},by simp,hzv,hkey'⟩
 ·obtain ⟨m1,f1,f2,f3⟩:=hent j y' t' h1
  rw [b8] at h3
  have hm1:en[j]? =some m1:=by grind
  have hst:(Instr.keyThatStays (((en[j]?).map (·.key)).getD (a.eval x)) (a.eval x)).run P w= .ok (a.eval x) w:=by
   grind [Em,dC]
  refine fin ((base h3).trans ?_) (en':=en.modify j fun e=>{e with key:=a.eval x,val:=a.eval y}) (cl':=cl) (by grind) fun q y1 t1 hq=> ?_
  ·grind [bu,bq,yk]
  ·rw [h4,List.getElem?_set] at hq
   rw [Array.getElem?_modify]
   by_cases hjq:j=q
   ·subst hjq
    rw [if_pos rfl] at hq ⊢
    split at hq
    case isFalse=>cases hq
    injection hq with hq
    injection hq with g1 g2
    subst g1;subst g2
    refine ⟨_,by rw [hm1];rfl,hzv, ?_⟩
    obtain ⟨bb,hbb⟩:=htot y' k
    unfold dC at hEq
    rw [hbb] at hEq
    simp only at hEq
    subst hEq
    refine ⟨vs,hkv,hvs,fun j p hp=>hvr j p ?_⟩
    grind [uL]
   grind
end
section
variable {U:Uni} {K:bA U} {R:Type} {C:Oracle U R}
theorem St.setR_self (σ:St U) (n:Nat) {v:PV U} (h:σ.r n=v):σ.eqv (σ.setR n v):=by
 intro k
 by_cases hk:(Loc.wr n).W k
 ·have hk:k= .r n:=hk
  subst hk;simp [St.at_,h]
 ·rw [(σ.setR_at n v).2 k hk]
theorem d4 (hC:C.Tells K): ∀ (m:M U) {σ σ0:St U} {fp:List Loc} {κ:MR U->St U->List Loc->Option R} {x:R},m.cps C σ fp κ=some x->σ0.eqv σ->
  ∃r τ0 τ gp,m.Rel K σ0 fp r τ0 gp/\τ0.eqv τ/\κ r τ gp=some x:=by
 intro m
 induction m with
 |done=>intro σ σ0 fp κ x h he;exact ⟨_,_,_,_,⟨rfl,rfl,rfl⟩,he,h⟩
 |fail=>intro σ σ0 fp κ x h he;cases h
 |raise v=>intro σ σ0 fp κ x h he;exact ⟨_,_,_,_,⟨rfl,rfl,rfl⟩,he,h⟩
 |out o=>intro σ σ0 fp κ x h he;exact ⟨_,_,_,_,⟨rfl,rfl,rfl⟩,he,h⟩
 |getR n k ih=>
  intro σ σ0 fp κ x h he
  obtain ⟨r,τ0,τ,gp,hr,ht,hk⟩:=ih _ h he
  exact ⟨r,τ0,τ,gp,by simp only [M.Rel];rw [he.r n];exact hr,ht,hk⟩
 |setR n v m ih=>
  intro σ σ0 fp κ x h he
  exact ih h (he.setR n v)
 |getB n k ih=>
  intro σ σ0 fp κ x h he
  obtain ⟨r,τ0,τ,gp,hr,ht,hk⟩:=ih _ h he
  exact ⟨r,τ0,τ,gp,by simp only [M.Rel];rw [he.b n];exact hr,ht,hk⟩
 |setB n v m ih=>
  intro σ σ0 fp κ x h he
  exact ih h (he.setB n v)
 |getT n i k ih=>
  intro σ σ0 fp κ x h he
  obtain ⟨r,τ0,τ,gp,hr,ht,hk⟩:=ih _ h he
  exact ⟨r,τ0,τ,gp,by simp only [M.Rel];rw [he.b n];exact hr,ht,hk⟩
 |getH n i k ih=>
  intro σ σ0 fp κ x h he
  obtain ⟨r,τ0,τ,gp,hr,ht,hk⟩:=ih _ h he
  exact ⟨r,τ0,τ,gp,by simp only [M.Rel];rw [he.b n];exact hr,ht,hk⟩
 |setH n i cs m ih=>
  intro σ σ0 fp κ x h he
  simp only [M.cps] at h
  split at h
  ·rename_i σ1 hs
   obtain ⟨σ2,h2,he2⟩:=he.setH hs
   obtain ⟨r,τ0,τ,gp,hr,ht,hk⟩:=ih h he2
   exact ⟨r,τ0,τ,gp,⟨σ2,h2,hr⟩,ht,hk⟩
  ·cases h
 |getO n k ih=>
  intro σ σ0 fp κ x h he
  obtain ⟨r,τ0,τ,gp,hr,ht,hk⟩:=ih _ h he
  exact ⟨r,τ0,τ,gp,by simp only [M.Rel];rw [he.o n];exact hr,ht,hk⟩
 |setO n v m ih=>
  intro σ σ0 fp κ x h he
  exact ih h (he.setO n v)
 |getU n k ih=>
  intro σ σ0 fp κ x h he
  obtain ⟨r,τ0,τ,gp,hr,ht,hk⟩:=ih _ h he
  exact ⟨r,τ0,τ,gp,by simp only [M.Rel];rw [he.u n];exact hr,ht,hk⟩
 |setU n v m ih=>
  intro σ σ0 fp κ x h he
  exact ih h (he.setU n v)
 |frz n m ih=>
  intro σ σ0 fp κ x h he
  exact ih h (he.setU n .read)
 |ask o k ih=>
  intro σ σ0 fp κ x h he
  cases o with
  |none=>cases h
  |some y=>
   obtain ⟨r,τ0,τ,gp,hr,ht,hk⟩:=ih y h he
   exact ⟨r,τ0,τ,gp,⟨y,rfl,hr⟩,ht,hk⟩
 |case j m1 m2 m3 i1 i2 i3=>
  intro σ σ0 fp κ x h he
  simp only [M.cps] at h
  split at h
  ·rename_i b hb
   cases b with
   |true=>
    obtain ⟨r,τ0,τ,gp,hr,ht,hk⟩:=i1 (σ0:=σ0) h (he.trans (St.setR_self σ j hb))
    exact ⟨r,τ0,τ,gp,.inl ⟨(he.r j).trans hb,hr⟩,ht,hk⟩
   |false=>
    obtain ⟨r,τ0,τ,gp,hr,ht,hk⟩:=i2 (σ0:=σ0) h (he.trans (St.setR_self σ j hb))
    exact ⟨r,τ0,τ,gp,.inr (.inl ⟨(he.r j).trans hb,hr⟩),ht,hk⟩
  ·rename_i hb
   obtain ⟨r,τ0,τ,gp,hr,ht,hk⟩:=i3 h he
   exact ⟨r,τ0,τ,gp,.inr (.inr ⟨(he.r j).trans hb,hr⟩),ht,hk⟩
  simp_all
 |call f a bs k ih=>
  intro σ σ0 fp κ x h he
  obtain ⟨out,ho,hk⟩:=hC _ _ _ _ _ h
  obtain ⟨r,τ0,τ,gp,hr,ht,hk'⟩:=ih out hk he
  exact ⟨r,τ0,τ,gp,⟨out,ho,hr⟩,ht,hk'⟩
variable (V:Env U) (S:Side U) (K) (ann:Nat->Option Ann)
def g0 (all:List Oper):List Oper->St U->List (List Loc)->Ex U->St U->Prop
 |[],σ,fps,e,σ'=>fps=[]/\e= .normal/\σ'=σ
 |o::r,σ,fps,e,σ'=>
  (∃σ1 f fps',(eW V S o (dO all)).Rel K σ [] .done σ1 f/\g0 all r σ1 fps' e σ'/\fps=f::fps')\/
  (∃v f,(eW V S o (dO all)).Rel K σ [] (.raise v) σ' f/\e= .panic v/\fps=[f])
theorem ya (hC:C.Tells K) (all:List Oper): ∀ (ops:List Oper) {σ σ0:St U} {fps0:List (List Loc)} {κ:Ex U->St U->List (List Loc)->Option R} {x:R},jX V S C all ops fps0 σ κ=some x->σ0.eqv σ->
  ∃e fps τ0 τ,g0 K V S all ops σ0 fps e τ0/\τ0.eqv τ/\κ e τ (fps0++fps)=some x:=by
 intro ops
 induction ops with
 |nil=>intro σ σ0 fps0 κ x h he;exact ⟨_,[],_,_,⟨rfl,rfl,rfl⟩,he,by grind [jX]⟩
 |cons o r ih=>
  intro σ σ0 fps0 κ x h he
  simp only [jX] at h
  obtain ⟨q,τ0,τ,gp,hr,ht,hk⟩:=d4 hC _ h he
  cases q with
  |done=>
   obtain ⟨e,fps,ρ0,ρ,h1,h2,h3⟩:=ih hk ht
   exact ⟨e,gp::fps,ρ0,ρ,.inl ⟨τ0,gp,fps,hr,h1,rfl⟩,h2,by grind⟩
  |raise v=>exact ⟨.panic v,[gp],τ0,τ,.inr ⟨v,gp,hr,rfl,rfl⟩,ht,hk⟩
  |out o=>cases hk
def iW (all:List Oper) (bf:List Nat) (j:Nat):Nat->List Oper->St U->List (Nat×List Loc)->St U->Prop
 |_,[],σ,ll,σ'=>ll=[]/\σ'=σ
 |i,o::r,σ,ll,σ'=>((bf.getD i 0).testBit j=true/\iW all bf j (i+1) r σ ll σ')\/
  ((bf.getD i 0).testBit j=false/\ ∃σ1 f ll',(eW V S o (dO all)).Rel K σ [] .done σ1 f/\iW all bf j (i+1) r σ1 ll' σ'/\ll=(i,f)::ll')
theorem E4 (hC:C.Tells K) (all:List Oper) (bf:List Nat) (j:Nat): ∀ (ops:List Oper) {i:Nat} {σ σ0:St U} {κ:List (Nat×List Loc)->Option R} {x:R},lq V S C all bf j i ops σ κ=some x->σ0.eqv σ->
  ∃ll τ0,iW K V S all bf j i ops σ0 ll τ0/\κ ll=some x:=by
 intro ops
 induction ops with
 |nil=>intro i σ σ0 κ x h he;exact ⟨[],σ0,⟨rfl,rfl⟩,h⟩
 |cons o r ih=>
  intro i σ σ0 κ x h he
  simp only [lq] at h
  cases hb:(bf.getD i 0).testBit j with
  |true=>
   rw [hb] at h
   obtain ⟨ll,τ0,h1,h2⟩:=ih h he
   exact ⟨ll,τ0,.inl ⟨hb,h1⟩,h2⟩
  |false=>
   rw [hb] at h
   obtain ⟨q,τ0,τ,gp,hr,ht,hk⟩:=d4 hC _ h he
   cases q with
   |done=>
    obtain ⟨ll,τ1,h1,h2⟩:=ih hk ht
    exact ⟨(i,gp)::ll,τ1,.inr ⟨hb,τ0,gp,ll,hr,h1,rfl⟩,h2⟩
   |raise v=>cases hk
   |out o=>cases hk
inductive Big:Option Ann->Code->St U->Ex U->St U->Prop
 |skip (σ):Big none .skip σ .normal σ
 |label (l σ):Big none (.label l) σ .normal σ
 |region (id ops draw σ e σ' fps) (hd:ops.toList.all (aW S.nt)=true) (h:g0 K V S ops.toList ops.toList σ fps e σ')
   (hf:draw=true->e= .normal/\eP 0 ops.toList=true/\gy (ce ops.toList []) 0 [] fps=true):Big none (.region id ops draw) σ e σ'
 |regionP (id ops σ v σ' σ'' τ fps ll σe) (hd:ops.toList.all (aW S.nt)=true) (h:g0 K V S ops.toList ops.toList σ fps (.panic v) σ') (he:σ'.eqv σ'') (hv:v.isErr=true) (hl:iW K V S ops.toList (ce ops.toList []) (fps.length-1) fps.length (ops.toList.drop fps.length) σ' ll σe) (hf:lW ops.toList σ fps ll=true)
  (hc:cR (eY σ σ'') σ''=some τ):Big none (.region id ops true) σ (.panic v) τ
 |seqN (a b σ σ1 e σ') (h1:Big none a σ .normal σ1) (h2:Big none b σ1 e σ'):Big none (.seq a b) σ e σ'
 |seqJ (a b A σ σ1 τ e σ') (h1:Big none a σ .normal σ1) (hA:ann (1000000+fj b)=some A) (hc:cR A σ1=some τ) (h2:Big none b τ e σ'):Big none (.seq a b) σ e σ'
 |seqE (a b σ e σ') (h1:Big none a σ e σ') (he:e≠ .normal):Big none (.seq a b) σ e σ'
 |cond (j a b σ t e σ') (hj:σ.r j= .bool t) (h:Big none (bif t then a else b) σ e σ'):Big none (.cond (.tmp j) a b) σ e σ'
 |blockIn (id a σ σ') (h:Big none a σ (.exit id) σ'):Big none (.block id a) σ .normal σ'
 |blockOut (id a σ e σ') (h:Big none a σ e σ') (he:e≠ .exit id):Big none (.block id a) σ e σ'
 |loop (a A σ τ e σ') (hA:ann (fj a)=some A) (hc:cR A σ=some τ) (h:Big (some A) a τ e σ'):Big none (.loop a) σ e σ'
 |scope (a σ e σ') (h:Big none a σ e σ'):Big none (.scope a) σ e σ'
 |exit (id σ):Big none (.exit id) σ (.exit id) σ
 |ret (σ):Big none .ret σ .ret σ
 |round (a A σ σ1 τ e σ') (h:Big none a σ .normal σ1) (hc:cR A σ1=some τ) (h':Big (some A) a τ e σ'):Big (some A) a σ e σ'
 |leave (a A σ e σ') (h:Big none a σ e σ') (he:e≠ .normal):Big (some A) a σ e σ'
 |pre (o c σ0 σ e σ') (he:σ0.eqv σ) (h:Big o c σ e σ'):Big o c σ0 e σ'
 |post (o c σ e σ1 σ') (he:σ1.eqv σ') (h:Big o c σ e σ1):Big o c σ e σ'
theorem oB (hC:C.Tells K) (fuel:Nat): ∀ (c:Code) {σ:St U} {κ:Ex U->St U->Option R} {x:R},run V S C ann fuel c σ κ=some x-> ∃e τ,Big K V S ann none c σ e τ/\κ e τ=some x:=by
 intro c
 induction c with
 |skip=>intro σ κ x h;exact ⟨_,_,.skip σ,h⟩
 |label l=>intro σ κ x h;exact ⟨_,_,.label l σ,h⟩
 |region id ops draw=>
  intro σ κ x h
  simp only [run] at h
  cases hd:ops.toList.all (aW S.nt) with
  |false=>grind
  |true=>
  rw [hd] at h
  simp only [cond_true] at h
  obtain ⟨e,fps,τ0,τ,hr,ht,hk⟩:=ya K V S hC _ _ h (St.eqv.refl σ)
  cases e with
  |normal=>
   simp only [List.nil_append] at hk
   cases hb:(!draw||(eP 0 ops.toList&&gy (ce ops.toList []) 0 [] fps)) with
   |false=>grind
   |true=>
    rw [hb] at hk
    refine ⟨_,_,.post _ _ _ _ _ _ ht (.region id ops draw σ _ τ0 fps hd hr fun hdr=> ?_),hk⟩
    grind
  |exit id=>cases draw<;>simp at hk;exact ⟨_,_,.post _ _ _ _ _ _ ht (.region _ ops _ σ _ τ0 fps hd hr (by simp)),hk⟩
  |ret=>cases draw<;>simp at hk;exact ⟨_,_,.post _ _ _ _ _ _ ht (.region _ ops _ σ _ τ0 fps hd hr (by simp)),hk⟩
  |panic v=>
   cases draw with
   |false=>simp at hk;exact ⟨_,_,.post _ _ _ _ _ _ ht (.region _ ops _ σ _ τ0 fps hd hr (by simp)),hk⟩
   |true=>
    simp only [List.nil_append,cond_true] at hk
    obtain ⟨ll,σe,hl,hk⟩:=E4 K V S hC _ _ _ _ hk ht
    cases hf:(v.isErr&&lW ops.toList σ fps ll) with
    |false=>grind
    |true=>
     rw [hf] at hk
     simp only [cond_true] at hk
     simp only [aj] at hf
     split at hk
     ·rename_i τ2 hc
      exact ⟨_,_,.regionP _ ops σ v τ0 τ τ2 fps ll σe hd hr ht hf.1 hl hf.2 hc,hk⟩
     grind
 |seq a b ia ib=>
  intro σ κ x h
  simp only [run] at h
  obtain ⟨e,τ,h1,h2⟩:=ia h
  cases e with
  |normal=>
   simp only at h2
   split at h2
   ·rename_i A hA
    split at h2
    ·rename_i τ1 hc
     have h2:run V S C ann fuel b τ1 κ=some x:=by
      cases fuel with
      |zero=>cases h2
      |succ n=>exact h2
     obtain ⟨e',τ',h3,h4⟩:=ib h2
     exact ⟨e',τ',.seqJ _ _ _ _ _ _ _ _ h1 hA hc h3,h4⟩
    grind
   ·obtain ⟨e',τ',h3,h4⟩:=ib h2;exact ⟨e',τ',.seqN _ _ _ _ _ _ h1 h3,h4⟩
  |exit id=>exact ⟨_,_,.seqE _ _ _ _ _ h1 (by simp),h2⟩
  |ret=>exact ⟨_,_,.seqE _ _ _ _ _ h1 (by simp),h2⟩
  |panic v=>exact ⟨_,_,.seqE _ _ _ _ _ h1 (by simp),h2⟩
 |cond cc a b ia ib=>
  intro σ κ x h
  simp only [run] at h
  split at h
  ·rename_i j
   split at h
   ·rename_i t ht
    cases t with
    |true=>
     obtain ⟨e,τ,h1,h2⟩:=ia h
     exact ⟨e,τ,.pre _ _ _ _ _ _ (St.setR_self σ j ht) (.cond j a b _ true e τ (by simp) h1),h2⟩
    |false=>
     obtain ⟨e,τ,h1,h2⟩:=ib h
     exact ⟨e,τ,.pre _ _ _ _ _ _ (St.setR_self σ j ht) (.cond j a b _ false e τ (by simp) h1),h2⟩
   simp_all
  simp_all
 |block id a ia=>
  intro σ κ x h
  simp only [run] at h
  obtain ⟨e,τ,h1,h2⟩:=ia h
  cases e with
  |exit j=>
   simp only at h2
   cases hj:ac j id with
   |true=>
    rw [hj] at h2
    have:j=id:=by simp_all
    subst this
    exact ⟨_,_,.blockIn _ _ _ _ h1,h2⟩
   |false=>
    rw [hj] at h2
    exact ⟨_,_,.blockOut _ _ _ _ _ h1 (fun e=>by simp_all),h2⟩
  |normal=>exact ⟨_,_,.blockOut _ _ _ _ _ h1 (by simp),h2⟩
  |ret=>exact ⟨_,_,.blockOut _ _ _ _ _ h1 (by simp),h2⟩
  |panic v=>exact ⟨_,_,.blockOut _ _ _ _ _ h1 (by simp),h2⟩
 |loop a ia=>
  intro σ κ x h
  simp only [run] at h
  split at h
  ·rename_i A hA
   split at h
   ·rename_i τ hc
    have key: ∀ (n:Nat) (τ:St U) (κ:Ex U->St U->Option R) (x:R),lw (cR A) (fun σ κ=>run V S C ann fuel a σ κ) n τ κ=some x-> ∃e ρ,Big K V S ann (some A) a τ e ρ/\κ e ρ=some x:=by
     intro n
     induction n with
     |zero=>intro τ κ x h;cases h
     |succ n ih=>
      intro τ κ x h
      simp only [lw] at h
      obtain ⟨e,ρ,h1,h2⟩:=ia h
      cases e with
      |normal=>
       simp only [back] at h2
       split at h2
       ·rename_i τ' hc'
        obtain ⟨e',ρ',h3,h4⟩:=ih τ' κ x h2
        exact ⟨e',ρ',.round _ _ _ _ _ _ _ h1 hc' h3,h4⟩
       grind
      |exit id=>exact ⟨_,_,.leave _ _ _ _ _ h1 (by simp),h2⟩
      |ret=>exact ⟨_,_,.leave _ _ _ _ _ h1 (by simp),h2⟩
      |panic v=>exact ⟨_,_,.leave _ _ _ _ _ h1 (by simp),h2⟩
    obtain ⟨e,ρ,h1,h2⟩:=key _ _ _ _ h
    exact ⟨e,ρ,.loop _ _ _ _ _ _ hA hc h1,h2⟩
   simp_all
  simp_all
 |scope a ia=>
  intro σ κ x h
  simp only [run] at h
  obtain ⟨e,τ,h1,h2⟩:=ia h
  exact ⟨_,_,.scope _ _ _ _ h1,h2⟩
 |exit id=>intro σ κ x h;exact ⟨_,_,.exit id σ,h⟩
 |ret=>intro σ κ x h;exact ⟨_,_,.ret σ,h⟩
 |_=>intro σ κ x h;cases h
end
section
variable {U:Uni} {V:Env U} {P:Program} (X:Link V P) (K:bA U) (S:Side U) (c:Ctx)
def gZ:Prop:= ∀ (o:Oper) (a:Act) (w:World) (σ:St U) (g:Gh U) (D:Nat->Option Nat) (r:MR U) (τ:St U) (fp gp:List Loc) (next:Act->World->Prop) (Q:Exit->Act->World->Prop),
 aW c.nt o=true->Sim X c a.tmps w σ g D->(bh V S o).Rel K σ fp r τ gp->Then X c a r τ next Q->o.wp P a w next Q
def Lands (ds:List Deferred) (e:Ex U) (σ':St U) (Q:Exit->Act->World->Prop):Prop:=
 ∀a' w' g' D',a'.defers=ds->Sim X c a'.tmps w' σ' g' D'->match e with
  | .normal=>Q .normal a' w'
  | .exit id=>Q (.exit id) a' w'
  | .ret=>Q .ret a' w'
  | .panic v=> ∀val,Rep X w' (c.N g' D') g' val v->Q (.panic [{v:=val,recovered:=false}]) a' w'
variable {X K S c} {a:Act} {w:World} {σ:St U} {g:Gh U} {D:Nat->Option Nat} {Q:Exit->Act->World->Prop} {ops:Array Oper}
theorem zp {tm:Array Value} {j d:Nat} (hd:dO ops.toList j=some d) {b:Bool} (h:tm.getD d undef= .bool b):yielded ops tm j=some b:=by
 have ho:(ops[j]?).bind (·.dst)=some d:=by
  grind [dO]
 have ht:tm[d]? =some (.bool b):=by
  rw [ct] at h
  cases h2:tm[d]? with
  |none=>rw [h2] at h;cases h
  |some v=>grind
 simp [yielded,ho,ht]
theorem Jj {tm:Array Value} {j d:Nat} (hd:dO ops.toList j=some d) (h:tm.getD d undef=undef):yielded ops tm j=none:=by
 have ho:(ops[j]?).bind (·.dst)=some d:=by
  grind [dO]
 unfold yielded
 rw [ho]
 simp only [bB]
 rw [ct] at h
 cases h2:tm[d]? with
 |none=>rfl
 |some v=>rw [h2] at h;simp only [Option.getD_some] at h;subst h;rfl
theorem lQ (hS:gZ X K S c) {o:Oper} {r:MR U} {τ:St U} {fp:List Loc} {next:Act->World->Prop} (hd:aW c.nt o=true) (h:Sim X c a.tmps w σ g D) (hr:(eW V S o (dO ops.toList)).Rel K σ [] r τ fp)
  (ht:Then X c a r τ next Q):if Region.wanted o (yielded ops a.tmps) then o.wp P a w next Q\/(o.asks P a w/\LetsOut Q) else next (a.put o.dst undef) w:=by
 have skip: ∀ {fp' gp'},(put o.dst (.tuple []):M U).Rel K σ fp' r τ gp'->next (a.put o.dst undef) w:=by
  intro fp' gp' hp
  obtain ⟨h1,h2⟩:=jQ hp
  subst h2
  obtain ⟨h3,h4⟩:=h.putAct hd (v:=undef) (p:= .tuple []) (.tuple #[] [] rfl (by simp))
  exact ht.done h1 _ _ _ _ h4 h3
 have go: ∀ {fp' gp'},(bh V S o).Rel K σ fp' r τ gp'->o.wp P a w next Q:=fun h'=>hS _ _ _ _ _ _ _ _ _ _ _ _ hd h h' ht
 unfold eW at hr
 cases hg:o.guard with
 |none=>grind [Region.wanted]
 |some jw=>
  obtain ⟨j,want⟩:=jw
  rw [hg] at hr
  simp only at hr
  split at hr
  ·exact hr.elim
  ·rename_i d hj
   have hR:=h.regs d
   rcases hr with ⟨hb,hr⟩|⟨hb,hr⟩|⟨hb,hr⟩
   ·rw [hb] at hR
    have hy:=zp hj (fZ hR)
    grind [Region.wanted]
   ·rw [hb] at hR
    have hy:=zp hj (fZ hR)
    grind [Region.wanted]
   ·rw [hb] at hR
    have hu:a.tmps.getD d undef=undef:=by
     generalize a.tmps.getD d undef=v at hR
     cases hR with
     |tuple vs _ hl _=>
      have:vs= #[]:=by grind
      subst this;rfl
    grind [Jj,Region.wanted]
theorem zk (hS:gZ X K S c) {e:Ex U} {σ':St U}: ∀ (l:List Oper) (i:Nat) (a:Act) (w:World) (σ:St U) (g:Gh U) (D:Nat->Option Nat) (fps:List (List Loc)),ops.toList.drop i=l->l.all (aW c.nt)=true->Sim X c a.tmps w σ g D->
  g0 K V S ops.toList l σ fps e σ'->Lands X c a.defers e σ' Q->wpOps P ops Q (List.range' i l.length) a w:=by
 intro l
 induction l with
 |nil=>
  intro i a w σ g D fps _ _ h hr hl
  obtain ⟨_,h2,h3⟩:=hr
  subst h2;subst h3
  simp only [List.length_nil,List.range'_zero,wpOps]
  exact hl a w g D rfl h
 |cons o l ih=>
  intro i a w σ g D fps hdrop hall h hr hl
  have hi:ops[i]? =some o:=by
   have:=congrArg (·[0]?) hdrop
   grind
  have hdrop':ops.toList.drop (i+1)=l:=by
   rw [<-List.drop_drop,hdrop];rfl
  simp only [List.all_cons,aj] at hall
  simp only [List.length_cons,List.range'_succ,wpOps,hi]
  rcases hr with ⟨σ1,f,fps',h1,h2,_⟩|⟨v,f,h1,h2,_⟩
  ·exact lQ hS hall.1 h h1 ⟨fun _ a' w' g' D' hdf hs=>ih (i+1) a' w' σ1 g' D' fps' hdrop' hall.2 hs h2 (by grind),fun v hv=>by cases hv⟩
  ·subst h2
   refine lQ hS hall.1 h h1 ⟨(fun hv=>by cases hv),fun v' hv w' g' D' val hrep hs=> ?_⟩
   injection hv with hv
   subst hv
   exact hl a w' g' D' rfl hs val hrep
def SeqRel (V:Env U) (K:bA U) (S:Side U) (ops:Array Oper):List (Nat×List Loc)->St U->St U->Prop
 |[],σ,σ'=>σ.eqv σ'
 |(i,f)::r,σ,σ'=> ∃o σ1,ops[i]? =some o/\(eW V S o (dO ops.toList)).Rel K σ [] .done σ1 f/\SeqRel V K S ops r σ1 σ'
theorem SeqRel.pre {l:List (Nat×List Loc)}: ∀ {σ0 σ σ':St U},SeqRel V K S ops l σ σ'->σ.eqv σ0->SeqRel V K S ops l σ0 σ':=by
 induction l with
 |nil=>intro σ0 σ σ' h he;exact he.symm.trans h
 |cons x l ih=>
  obtain ⟨i,f⟩:=x
  intro σ0 σ σ' h he
  obtain ⟨o,σ1,ho,h1,h2⟩:=h
  obtain ⟨τ,h3,h4⟩:=h1.eqv K he
  exact ⟨o,τ,ho,h3,ih h2 h4⟩
theorem SeqRel.front {i:Nat} {f:List Loc} {post:List (Nat×List Loc)}: ∀ (pre:List (Nat×List Loc)) {σ σ':St U},SeqRel V K S ops (pre++(i,f)::post) σ σ'->(∀x∈pre,cQ x.2 f=true)->
  SeqRel V K S ops ((i,f)::(pre++post)) σ σ':=by
 intro pre
 induction pre with
 |nil=>simp
 |cons x pre ih=>
  obtain ⟨j,g⟩:=x
  intro σ σ' h ha
  obtain ⟨o,σ1,ho,h1,h2⟩:=h
  obtain ⟨o',σ2,ho',h3,h4⟩:=ih h2 (fun x hx=>ha x (by simp [hx]))
  obtain ⟨τ1,τ2,h5,h6,h7⟩:=Rel.swap K h1 h3 (ha (j,g) (by simp))
  exact ⟨o',τ1,ho',h5,o,τ2,ho,h6,h4.pre h7⟩
theorem Bi: ∀ (l:List Oper) (acc:List Nat),∃t,ce l acc=acc++t/\t.length=l.length:=by
 intro l
 induction l with
 |nil=>simp_all [ce]
 |cons o l ih=>
  intro acc
  obtain ⟨t,h1,h2⟩:=ih (acc++[lJ acc o])
  grind [ce]
theorem Bj: ∀ (l:List Oper) (acc:List Nat) (k:Nat) (o:Oper),l[k]? =some o->(ce l acc)[acc.length+k]? =some (lJ ((ce l acc).take (acc.length+k)) o):=by
 intro l
 induction l with
 |nil=>simp
 |cons o' l ih=>
  intro acc k o h
  cases k with
  |zero=>
   simp at h;subst h
   obtain ⟨t,h1,h2⟩:=Bi l (acc++[lJ acc o'])
   grind [ce]
  |succ k=>
   grind [ce]
theorem Dq (acc:List Nat) (j:Nat): ∀ (es:List Edge) (s:Nat),(es.foldl (fun s e=>bif Region.binds .any e then s|||2^e.on|||acc.getD e.on 0 else s) s).testBit j=true->
  s.testBit j=true\/ ∃e∈es,Region.binds .any e=true/\(e.on=j\/(acc.getD e.on 0).testBit j=true):=by
 intro es
 induction es<;>grind
theorem qc: ∀ (l:List Oper) (n k:Nat) (o:Oper),eP n l=true->l[k]? =some o-> ∀e∈o.after.toList,Region.binds .any e=true->e.on<n+k:=by
 intro l
 induction l with
 |nil=>simp
 |cons o' l ih=>
  intro n k o hf h e he hb
  simp only [eP,aj,bW] at hf
  cases k with
  |zero=>
   simp at h;subst h
   have:=hf.1 e he
   simp_all
  |succ k=>
   grind
def oK (ops:Array Oper) (L:Nat->Prop):Prop:= ∀ (k:Nat) (o:Oper),L k->ops[k]? =some o-> ∀e∈o.after.toList,Region.binds .any e=true->L e.on
theorem wi (hf:eP 0 ops.toList=true) {L:Nat->Prop} (hL:oK ops L) {j:Nat}: ∀ (n k:Nat),k<n-> ∀o,ops[k]? =some o->(∀e∈o.after.toList,Region.binds .any e=true->L e.on)->
  ((ce ops.toList []).getD k 0).testBit j=true->L j:=by
 intro n
 induction n with
 |zero=>simp
 |succ n ih=>
  intro k hk o ho hdir hb
  have hm:=Bj ops.toList [] k o (by grind)
  simp only [List.length_nil,b8] at hm
  rw [List.getD_eq_getElem?_getD,hm,Option.getD_some] at hb
  unfold lJ at hb
  rcases Dq _ _ _ _ hb with h|⟨e,he,hbe,h⟩
  ·simp at h
  ·have hlt:=qc _ 0 k o hf (by grind) e he hbe
   rw [b8] at hlt
   rcases h with h|h
   ·grind
   ·have hLe:=hdir e he hbe
    rw [List.getD_eq_getElem?_getD,List.getElem?_take_of_lt hlt,<-List.getD_eq_getElem?_getD] at h
    have hon:e.on<ops.size:=by grind
    exact ih e.on (by omega) _ (Array.getElem?_eq_getElem hon) (fun e' he' hb'=>hL _ _ hLe (Array.getElem?_eq_getElem hon) e' he' hb') h
theorem H_: ∀ (l:List Oper) (i:Nat) (σ σ':St U) (fps:List (List Loc)),ops.toList.drop i=l->g0 K V S ops.toList l σ fps .normal σ'->fps.length=l.length/\SeqRel V K S ops ((List.range' i l.length).zip fps) σ σ':=by
 intro l
 induction l with
 |nil=>
  intro i σ σ' fps _ h
  obtain ⟨h1,_,h3⟩:=h
  subst h1;subst h3
  exact ⟨rfl,St.eqv.refl _⟩
 |cons o l ih=>
  intro i σ σ' fps hd h
  have hi:ops[i]? =some o:=by
   have:=congrArg (·[0]?) hd
   grind
  have hd':ops.toList.drop (i+1)=l:=by rw [<-List.drop_drop,hd];rfl
  rcases h with ⟨σ1,f,fps',h1,h2,h3⟩|⟨v,f,_,h2,_⟩
  ·subst h3
   obtain ⟨h4,h5⟩:=ih (i+1) σ1 σ' fps' hd' h2
   exact ⟨by simp [h4],o,σ1,hi,h1,h5⟩
  grind
theorem uQ (before:List Nat): ∀ (fs:List (List Loc)) (j:Nat) (done:List (List Loc)),j=done.length->gy before j done fs=true-> ∀ (p q:Nat) (f g:List Loc),p<q->(done++fs)[p]? =some f->(done++fs)[q]? =some g->done.length<=q->
  (before.getD q 0).testBit p=true\/cQ f g=true:=by
 intro fs
 induction fs with
 |nil=>
  grind
 |cons h fs ih=>
  intro j done hj hf p q f g hpq hp hq hle
  simp only [gy,aj,bW] at hf
  by_cases hqd:q=done.length
  ·subst hqd
   rw [List.getElem?_append_left hpq] at hp
   rw [fJ (b7 _)] at hq
   simp at hq
   subst hq
   have hmem:(f,p)∈done.zip (bz 0 done.length):=by
    have hn: ∀ (n s k:Nat),k<n->(bz s n)[k]? =some (s+k):=by
     intro n
     induction n with
     |zero=>simp
     |succ n ihn=>
      intro s k hk
      cases k<;>grind [bz]
    have hpl:p<done.length:=hpq
    have h1:=hn done.length 0 p hpl
    rw [b8] at h1
    exact dk (i:=p) (by grind [List.getElem?_zip_eq_some])
   grind
  ·have:=ih (j+1) (done++[h]) (by simp [hj]) hf.2 p q f g hpq (by simp_all) (by simp_all) (by simp;omega)
   simp_all
structure Left (ops:Array Oper) (fps:List (List Loc)) (listed:Array Bool) (rem:List (Nat×List Loc)):Prop where
 size:listed.size=ops.size
 fst:rem.map (·.1)=(List.range ops.size).filter fun i=> !listed.getD i true
 fp: ∀x∈rem,fps[x.1]? =some x.2
 closed:oK ops fun i=>listed.getD i false=true
theorem Dj {n i:Nat} {listed:Array Bool} (hi:i<listed.size): ∀ (l:List Nat),(l.filter fun j=> !(listed.setIfInBounds i true).getD j true)=(l.filter fun j=> !listed.getD j true).filter (fun j=>j !=i):=by
 intro l
 rw [List.filter_filter]
 congr 1
 funext j
 by_cases hj:i=j
 ·simp_all
 ·have:(listed.setIfInBounds i true).getD j true=listed.getD j true:=by
   simp_all
  grind
theorem Je (hS:gZ X K S c) (hall:ops.toList.all (aW c.nt)=true) {fps:List (List Loc)} (hfor:eP 0 ops.toList=true) (hfree:gy (ce ops.toList []) 0 [] fps=true) {σ':St U} {ds:List Deferred} (hl:Lands X c ds .normal σ' Q):
  ∀ (fuel:Nat) (listed:Array Bool) (rem:List (Nat×List Loc)) (a:Act) (w:World) (σ:St U) (g:Gh U) (D:Nat->Option Nat),rem.length=fuel->Left ops fps listed rem->a.defers=ds->Sim X c a.tmps w σ g D->SeqRel V K S ops rem σ σ'->
  wpAny P .any ops Q fuel listed a w:=by
 intro fuel
 have sub: ∀ (listed:Array Bool) (rem:List (Nat×List Loc)),Left ops fps listed rem-> ∀i,i∈Region.ready .any ops listed-> ∃f,(i,f)∈rem/\ ∃o,ops[i]? =some o/\ ∀e∈o.after.toList,Region.binds .any e=true->listed.getD e.on false=true:=by
  intro listed rem hL i hi
  simp only [Region.ready,List.mem_filter,List.mem_range,aj] at hi
  have hm:i∈rem.map (·.1):=by rw [hL.fst];grind
  grind [Array.all_eq_true_iff_forall_mem]
 induction fuel with
 |zero=>
  intro listed rem a w σ g D hlen hL hds h hseq
  have:rem=[]:=List.eq_nil_of_length_eq_zero hlen
  subst this
  refine ⟨?_,hl a w g D hds (h.eqv hseq)⟩
  cases hr:Region.ready .any ops listed with
  |nil=>rfl
  |cons i r=>
   obtain ⟨f,hf,_⟩:=sub listed [] hL i (by grind)
   cases hf
 |succ fuel ih=>
  intro listed rem a w σ g D hlen hL hds h hseq
  refine ⟨fun hr=> ?_,fun i hi=> ?_⟩
  ·
   exfalso
   cases rem with
   |nil=>grind
   |cons x rest=>
    obtain ⟨i,f⟩:=x
    have hm:i∈(List.range ops.size).filter fun i=> !listed.getD i true:=by rw [<-hL.fst];simp
    simp only [List.mem_filter,List.mem_range] at hm
    have hmin: ∀j,j<i->listed.getD j false=true:=by
     intro j hj
     have hjn:j<ops.size:=by omega
     cases hlj:listed.getD j true with
     |true=>
      grind
     |false=>
      exfalso
      have hjm:j∈(List.range ops.size).filter fun i=> !listed.getD i true:=List.mem_filter.2 ⟨List.mem_range.2 hjn,by grind⟩
      have hsorted:((List.range ops.size).filter fun i=> !listed.getD i true).Pairwise (· < ·):=(List.pairwise_lt_range).filter _
      rw [<-hL.fst] at hjm hsorted
      grind [List.pairwise_cons]
    have hin:i∈Region.ready .any ops listed:=by
     simp only [Region.ready,List.mem_filter,List.mem_range,aj]
     refine ⟨hm.1,hm.2, ?_⟩
     rw [Array.getElem?_eq_getElem hm.1]
     simp only [Option.map_some,Option.getD_some]
     refine Array.all_eq_true_iff_forall_mem.2 fun e he=> ?_
     cases hb:Region.binds .any e with
     |false=>rfl
     |true=>
      have:=qc ops.toList 0 i _ hfor (by simp) e (Array.mem_toList_iff.2 he) hb
      grind
    grind
  ·obtain ⟨f,hf,o,ho,hdir⟩:=sub listed rem hL i hi
   obtain ⟨pre,post,hpp⟩:=List.append_of_mem hf
   subst hpp
   have hsorted:((List.range ops.size).filter fun i=> !listed.getD i true).Pairwise (· < ·):=(List.pairwise_lt_range).filter _
   rw [<-hL.fst] at hsorted
   have hpre: ∀x∈pre,cQ x.2 f=true:=by
    intro x hx
    have hlt:x.1<i:=by
     grind
    have h1:=hL.fp x (by simp [hx])
    have h2:=hL.fp (i,f) (by simp)
    rcases uQ _ fps 0 [] rfl hfree x.1 i x.2 f hlt (by grind) (by grind) (by simp) with hb|hb
    ·exfalso
     have hin:=wi hfor hL.closed (i+1) i (Nat.lt_succ_self i) o ho hdir hb
     have hmem:x.1∈(List.range ops.size).filter fun i=> !listed.getD i true:=by rw [<-hL.fst];grind
     grind
    omega
   obtain ⟨o',σ1,ho',h1,h2⟩:=hseq.front pre hpre
   rw [ho] at ho'
   injection ho' with ho'
   subst ho'
   have hi':i<listed.size:=by rw [hL.size];grind
   have hdo:aW c.nt o=true:=bW.1 hall o (Array.mem_toList_iff.2 (Array.mem_of_getElem? ho))
   unfold wpOp
   rw [ho]
   refine lQ hS hdo h h1 ⟨fun _ a' w' g' D' hdf hs=>ih (listed.setIfInBounds i true) (pre++post) a' w' σ1 g' D' (by grind) ⟨by simp [hL.size], ?_,fun x hx=>hL.fp x (by grind),fun k o' hk ho' e he hb=> ?_⟩ (hdf.trans hds) hs h2,(fun v hv=>by cases hv)⟩
   ·rw [Dj hi' (n:=0),<-hL.fst]
    have hne: ∀x∈pre++post,x.1≠i:=by
     intro x hx
     rw [List.map_append,ek] at hsorted
     have hnd:(pre.map (·.1)++i::post.map (·.1)).Nodup:=hsorted.imp (fun h=>Nat.ne_of_lt h)
     grind
    simp only [List.map_append,ek,List.filter_append]
    rw [List.filter_cons_of_neg (by simp)]
    rw [<-List.filter_append,<-List.map_append,List.filter_eq_self.2]
    grind
   ·by_cases hki:k=i
    ·subst hki
     rw [ho] at ho'
     injection ho' with ho'
     subst ho'
     have:=hdir e he hb
     by_cases hei:k=e.on<;>simp_all
    ·have hk':listed.getD k false=true:=by
      simp_all [Ne.symm]
     have:=hL.closed k o' hk' ho' e he hb
     by_cases hei:i=e.on<;>simp_all
theorem Ia: ∀ (l:List Oper) (i:Nat) (σ σ':St U) (fps:List (List Loc)) (v:PV U),ops.toList.drop i=l->g0 K V S ops.toList l σ fps (.panic v) σ'->
  ∃fs f o σ1,fps=fs++[f]/\ops[i+fs.length]? =some o/\SeqRel V K S ops ((List.range' i fs.length).zip fs) σ σ1/\(eW V S o (dO ops.toList)).Rel K σ1 [] (.raise v) σ' f:=by
 intro l
 induction l with
 |nil=>intro i σ σ' fps v _ h;obtain ⟨_,h2,_⟩:=h;cases h2
 |cons o l ih=>
  intro i σ σ' fps v hd h
  have hi:ops[i]? =some o:=by
   have:=congrArg (·[0]?) hd
   grind
  have hd':ops.toList.drop (i+1)=l:=by rw [<-List.drop_drop,hd];rfl
  rcases h with ⟨σ1,f,fps',h1,h2,h3⟩|⟨v',f,h1,h2,h3⟩
  ·subst h3
   obtain ⟨fs,f',o',σ2,h4,h5,h6,h7⟩:=ih (i+1) σ1 σ' fps' v hd' h2
   subst h4
   refine ⟨f::fs,f',o',σ2,rfl, ?_,⟨o,σ1,hi,h1,h6⟩,h7⟩
   grind
  ·injection h2 with h2
   subst h2
   exact ⟨[],f,o,σ,h3,by omega,St.eqv.refl _,h1⟩
def SeqR (V:Env U) (K:bA U) (S:Side U) (ops:Array Oper):List (Nat×List Loc×MR U)->St U->St U->Prop
 |[],σ,σ'=>σ.eqv σ'
 |(i,f,r)::l,σ,σ'=> ∃o σ1,ops[i]? =some o/\(eW V S o (dO ops.toList)).Rel K σ [] r σ1 f/\SeqR V K S ops l σ1 σ'
theorem SeqR.pre {l:List (Nat×List Loc×MR U)}: ∀ {σ0 σ σ':St U},SeqR V K S ops l σ σ'->σ.eqv σ0->SeqR V K S ops l σ0 σ':=by
 induction l with
 |nil=>intro σ0 σ σ' h he;exact he.symm.trans h
 |cons x l ih=>
  obtain ⟨i,f,r⟩:=x
  intro σ0 σ σ' h he
  obtain ⟨o,σ1,ho,h1,h2⟩:=h
  obtain ⟨τ,h3,h4⟩:=h1.eqv K he
  exact ⟨o,τ,ho,h3,ih h2 h4⟩
theorem SeqR.append {l l':List (Nat×List Loc×MR U)}: ∀ {σ σ1 σ':St U},SeqR V K S ops l σ σ1->SeqR V K S ops l' σ1 σ'->SeqR V K S ops (l++l') σ σ':=by
 induction l with
 |nil=>intro σ σ1 σ' h h';exact h'.pre (St.eqv.symm h)
 |cons x l ih=>
  obtain ⟨i,f,r⟩:=x
  intro σ σ1 σ' h h'
  obtain ⟨o,σ2,ho,h1,h2⟩:=h
  exact ⟨o,σ2,ho,h1,ih h2 h'⟩
theorem SeqR.ofSeq: ∀ {l:List (Nat×List Loc)} {σ σ':St U},SeqRel V K S ops l σ σ'->SeqR V K S ops (l.map fun x=>(x.1,x.2,.done)) σ σ':=by
 intro l
 induction l with
 |nil=>intro σ σ' h;exact h
 |cons x l ih=>
  obtain ⟨i,f⟩:=x
  intro σ σ' h
  obtain ⟨o,σ1,ho,h1,h2⟩:=h
  exact ⟨o,σ1,ho,h1,ih h2⟩
theorem SeqR.front {i:Nat} {f:List Loc} {r:MR U} {post:List (Nat×List Loc×MR U)}: ∀ (pre:List (Nat×List Loc×MR U)) {σ σ':St U},SeqR V K S ops (pre++(i,f,r)::post) σ σ'->(∀x∈pre,cQ x.2.1 f=true)->
  SeqR V K S ops ((i,f,r)::(pre++post)) σ σ':=by
 intro pre
 induction pre with
 |nil=>simp
 |cons x pre ih=>
  obtain ⟨j,g,q⟩:=x
  intro σ σ' h ha
  obtain ⟨o,σ1,ho,h1,h2⟩:=h
  obtain ⟨o',σ2,ho',h3,h4⟩:=ih h2 (fun x hx=>ha x (by simp [hx]))
  obtain ⟨τ1,τ2,h5,h6,h7⟩:=Rel.swap K h1 h3 (ha (j,g,q) (by simp))
  exact ⟨o',τ1,ho',h5,o,τ2,ho,h6,h4.pre h7⟩
structure Alike (σ0 σ σ':St U):Prop where
 b: ∀id,(σ0.b id).isSome=true->σ'.b id=σ.b id
 o: ∀i,σ'.o i=σ.o i
 u: ∀i,σ'.u i=σ.u i
theorem SeqR.harmless {σ0:St U}: ∀ (l:List (Nat×List Loc×MR U)) {σ σ1:St U},SeqR V K S ops l σ σ1->(∀x∈l,PI.harmless σ0 x.2.1=true)->Alike σ0 σ σ1:=by
 intro l
 induction l with
 |nil=>intro σ σ1 h _;exact ⟨fun id _=>(h.b id).symm,fun i=>(h.o i).symm,fun i=>(h.u i).symm⟩
 |cons x l ih=>
  obtain ⟨j,g,q⟩:=x
  intro σ σ1 h ha
  obtain ⟨o,σa,ho,h1,h2⟩:=h
  obtain ⟨g',hg,l1⟩:=h1.loc K
  simp at hg
  subst hg
  have hg:=ha (j,g,q) (by simp)
  have hst: ∀k,(∀n,k≠ .r n)->(∀id,(k= .b id\/ ∃i,k= .c id i)->(σ0.b id).isSome=true)->σa.at_ k=σ.at_ k:=by
   intro k hk hb
   refine l1.stay k fun l hl hw=> ?_
   have:=bW.1 hg l hl
   cases l with
   |wr n=>exact hk _ hw
   |wb id=>
    have h3:=hb id hw
    simp_all
   |wo n=>grind
   |wu n=>grind
   |fu n=>grind
   |wh n m=>grind
   |_=>exact hw.elim
  have a:=ih h2 fun x hx=>ha x (by simp [hx])
  refine ⟨fun id hid=>(a.b id hid).trans ?_,fun i=>(a.o i).trans ?_,fun i=>(a.u i).trans ?_⟩
  ·grind [py]
  ·have:=hst (.o i) (by simp) (by simp)
   grind [St.at_]
  ·have:=hst (.u i) (by simp) (by simp)
   grind [St.at_]
theorem A9 {p:Nat->Bool}: ∀ (n s:Nat),(bz s n).all p=true-> ∀i,s<=i->i<s+n->p i=true:=by
 intro n
 induction n<;>grind [bz]
structure Raises (ops:Array Oper) (σ0:St U) (L:List (Nat×List Loc×MR U)) (j:Nat) (v:PV U):Prop where
 nodup:(L.map (·.1)).Nodup
 lt: ∀x∈L,x.1<ops.size
 order:L.Pairwise fun x y=>((ce ops.toList []).getD y.1 0).testBit x.1=true\/cQ x.2.1 y.2.1=true
 first: ∀pre x post,L=pre++x::post-> ∀o,ops[x.1]? =some o-> ∀e∈o.after.toList,Region.binds .any e=true->e.on∈pre.map (·.1)
 done: ∀x∈L,x.1≠j->x.2.2= .done
 raise: ∀x∈L,x.1=j->x.2.2= .raise v
 harm: ∀x∈L,x.1≠j->((ce ops.toList []).getD j 0).testBit x.1=true\/PI.harmless σ0 x.2.1=true
 after: ∀i,i<ops.size->i∉L.map (·.1)->((ce ops.toList []).getD i 0).testBit j=true
theorem Jf (hS:gZ X K S c) (hall:ops.toList.all (aW c.nt)=true) (hfor:eP 0 ops.toList=true) {σ0 σe:St U} {L:List (Nat×List Loc×MR U)} {j:Nat} {v:PV U} (hR:Raises ops σ0 L j v) {ds:List Deferred}
  (hl: ∀a' w' g' D' τ,a'.defers=ds->Sim X c a'.tmps w' τ g' D'->Alike σ0 τ σe-> ∀val,Rep X w' (c.N g' D') g' val v->Q (.panic [{v:=val,recovered:=false}]) a' w'):
  ∀ (m:Nat) (listed:Array Bool) (rem:List (Nat×List Loc×MR U)) (a:Act) (w:World) (σ:St U) (g:Gh U) (D:Nat->Option Nat),rem.length=m->listed.size=ops.size->rem=L.filter (fun x=> !listed.getD x.1 true)->
   (∀i,i<ops.size->i∉L.map (·.1)->listed.getD i false=false)->listed.getD j false=false->j∈L.map (·.1)->oK ops (fun i=>listed.getD i false=true)->a.defers=ds->Sim X c a.tmps w σ g D->SeqR V K S ops rem σ σe->
   wpAny P .any ops Q (m+(ops.size-L.length)) listed a w:=by
 have unl: ∀ {listed:Array Bool} {i:Nat},i<listed.size->listed.getD i true=listed.getD i false:=by
  grind
 have hfj: ∀ {listed:Array Bool} {i:Nat},i<ops.size->listed.size=ops.size->i∈Region.ready .any ops listed->listed.getD i true=false/\ ∃o,ops[i]? =some o/\ ∀e∈o.after.toList,Region.binds .any e=true->listed.getD e.on false=true:=by
  grind [Region.ready,Array.all_eq_true_iff_forall_mem]
 intro m
 induction m with
 |zero=>
  intro listed rem a w σ g D hlen hsz hrem hge hj hjL hcl hds h hseq
  exfalso
  have hnil:rem=[]:=List.eq_nil_of_length_eq_zero hlen
  obtain ⟨x,hx,hxj⟩:=ck.1 hjL
  have:x∈rem:=by rw [hrem];exact List.mem_filter.2 ⟨hx,by rw [hxj,unl (by rw [hsz,<-hxj];exact hR.lt x hx),hj];rfl⟩
  grind
 |succ m ih=>
  intro listed rem a w σ g D hlen hsz hrem hge hj hjL hcl hds h hseq
  rw [show m+1+(ops.size-L.length)=(m+(ops.size-L.length))+1 by omega]
  have hmem: ∀x∈rem,x∈L/\listed.getD x.1 false=false:=by
   grind
  refine ⟨fun hr=> ?_,fun i hi=> ?_⟩
  ·exfalso
   cases hrm:rem with
   |nil=>grind
   |cons x rest=>
    have hxm:=hmem x (by grind)
    have hxlt:=hR.lt x hxm.1
    obtain ⟨pre,post,hpp⟩:=List.append_of_mem hxm.1
    have hpre: ∀y∈pre,listed.getD y.1 false=true:=by
     intro y hy
     cases hly:listed.getD y.1 false with
     |true=>rfl
     |false=>
      exfalso
      have hyL:y∈L:=by grind
      have hyr:(!listed.getD y.1 true)=true:=by rw [unl (by rw [hsz];exact hR.lt y hyL),hly];rfl
      rw [hpp,List.filter_append] at hrem
      have hne:pre.filter (fun x=> !listed.getD x.1 true)≠[]:=fun e=>by
       grind
      obtain ⟨z,zs,hz⟩:=List.exists_cons_of_ne_nil hne
      rw [hz,hrm] at hrem
      injection hrem with e1 e2
      subst e1
      have hxp:x∈pre:=by
       have:x∈pre.filter (fun x=> !listed.getD x.1 true):=by rw [hz];simp
       grind
      have hnd:=hR.nodup
      grind
    have hin:x.1∈Region.ready .any ops listed:=by
     simp only [Region.ready,List.mem_filter,List.mem_range,aj]
     refine ⟨hxlt,by grind, ?_⟩
     rw [Array.getElem?_eq_getElem hxlt]
     simp only [Option.map_some,Option.getD_some]
     refine Array.all_eq_true_iff_forall_mem.2 fun e he=> ?_
     cases hb:Region.binds .any e with
     |false=>rfl
     |true=>
      have:=hR.first pre x post hpp _ (Array.getElem?_eq_getElem hxlt) e (Array.mem_toList_iff.2 he) hb
      grind
    grind
  ·have his:i<ops.size:=by grind [Region.ready]
   obtain ⟨h1,o,ho,hdir⟩:=hfj his hsz hi
   rw [unl (by omega)] at h1
   have hmask: ∀p,((ce ops.toList []).getD i 0).testBit p=true->listed.getD p false=true:=fun p hp=>wi hfor hcl (i+1) i (Nat.lt_succ_self i) o ho hdir hp
   have hdo:aW c.nt o=true:=bW.1 hall o (Array.mem_toList_iff.2 (Array.mem_of_getElem? ho))
   by_cases hiL:i∈L.map (·.1)
   ·obtain ⟨x,hxL,hxi⟩:=ck.1 hiL
    have hxr:x∈rem:=by grind
    obtain ⟨pre,post,hpp⟩:=List.append_of_mem hxr
    have hord:rem.Pairwise fun x y=>((ce ops.toList []).getD y.1 0).testBit x.1=true\/cQ x.2.1 y.2.1=true:=by rw [hrem];exact hR.order.filter _
    have hnd:(rem.map (·.1)).Nodup:=by
     rw [hrem]
     exact hR.nodup.sublist ((List.filter_sublist).map _)
    have hpre: ∀y∈pre,cQ y.2.1 x.2.1=true:=by
     intro y hy
     grind
    rw [hpp] at hseq
    obtain ⟨xi,xf,xr⟩:=x
    simp only at hxi
    subst hxi
    obtain ⟨o',σa,ho',h2,h3⟩:=hseq.front pre hpre
    rw [ho] at ho'
    injection ho' with ho'
    subst ho'
    by_cases hij:xi=j
    ·subst hij
     have hrr:=hR.raise _ hxL rfl
     simp only at hrr
     subst hrr
     have hro: ∀y∈pre++post,PI.harmless σ0 y.2.1=true:=by
      intro y hy
      have hyr:y∈rem:=by grind
      obtain ⟨hyL,hyl⟩:=hmem y hyr
      have hne:y.1≠xi:=by
       grind
      rcases hR.harm y hyL hne with hb|hb<;>grind
     unfold wpOp
     rw [ho]
     refine lQ hS hdo h h2 ⟨(fun hv=>by cases hv),fun v' hv w' g' D' val hrep hs=> ?_⟩
     grind [SeqR.harmless]
    ·have hrr:=hR.done _ hxL hij
     simp only at hrr
     subst hrr
     have hi':xi<listed.size:=by omega
     unfold wpOp
     rw [ho]
     have hset: ∀k,k≠xi-> ∀d,(listed.setIfInBounds xi true).getD k d=listed.getD k d:=by
      intro k hk d
      simp [ct,Ne.symm hk]
     refine lQ hS hdo h h2 ⟨fun _ a' w' g' D' hdf hs=>ih (listed.setIfInBounds xi true) (pre++post) a' w' σa g' D' (by grind) (by simp [hsz]) ?_ (fun k hk hkL=> ?_) (by rw [hset j (Ne.symm hij)];exact hj) hjL (fun k o' hk ho' e he hb=> ?_) (hdf.trans hds) hs h3,(fun v hv=>by cases hv)⟩
     ·have e1:L.filter (fun x=> !(listed.setIfInBounds xi true).getD x.1 true)=rem.filter (fun x=>x.1 !=xi):=by
       rw [hrem,List.filter_filter]
       refine List.filter_congr fun y hy=> ?_
       by_cases hyx:y.1=xi
       ·rw [hyx];simp
       ·rw [hset y.1 hyx];simp [hyx]
      grind [List.filter_eq_self,List.mem_map_of_mem]
     ·have:k≠xi:=fun e=>hkL (e▸hiL)
      rw [hset k this];grind
     ·show (listed.setIfInBounds xi true).getD e.on false=true
      have hk2:(listed.setIfInBounds xi true).getD k false=true:=hk
      by_cases hki:k=xi
      ·subst hki
       rw [ho] at ho'
       injection ho' with ho'
       subst ho'
       have:=hdir e he hb
       by_cases hei:k=e.on
       ·grind
       ·rw [hset _ (Ne.symm hei)];exact this
      ·rw [hset k hki] at hk2
       have:=hcl k o' hk2 ho' e he hb
       by_cases hei:xi=e.on
       ·grind
       ·rw [hset _ (Ne.symm hei)];exact this
   ·exfalso
    have:=hmask j (hR.after i his hiL)
    grind
end
section
variable {U:Uni} {V:Env U} {P:Program} {X:Link V P} {K:bA U} {S:Side U} {c:Ctx} {ops:Array Oper} {σ0 σ1:St U}
theorem E3 {bf:List Nat} {j:Nat}: ∀ (l:List Oper) (i:Nat) (σ σe:St U) (ll:List (Nat×List Loc)),ops.toList.drop i=l->iW K V S ops.toList bf j i l σ ll σe->
  (∀x∈ll,i<=x.1/\x.1<ops.size)/\(ll.map (·.1)).Pairwise (· < ·)/\SeqR V K S ops (ll.map fun x=>(x.1,x.2,.done)) σ σe/\
  ∀k,i<=k->k<ops.size->k∉ll.map (·.1)->(bf.getD k 0).testBit j=true:=by
 intro l
 induction l with
 |nil=>
  intro i σ σe ll hd h
  obtain ⟨rfl,rfl⟩:=h
  refine ⟨by simp,by simp,St.eqv.refl _,fun k hk hk2 _=> ?_⟩
  exfalso
  have:=congrArg dH hd
  grind
 |cons o l ih=>
  intro i σ σe ll hd h
  have hi:ops[i]? =some o:=by
   have:=congrArg (·[0]?) hd
   grind
  have his:i<ops.size:=(Array.getElem?_eq_some_iff.1 hi).1
  have hd':ops.toList.drop (i+1)=l:=by rw [<-List.drop_drop,hd];rfl
  rcases h with ⟨hb,h⟩|⟨hb,σ1,f,ll',hr,h,rfl⟩
  ·obtain ⟨a,b,c,e⟩:=ih (i+1) σ σe ll hd' h
   refine ⟨fun x hx=> ?_,b,c,fun k hk hk2 hkn=> ?_⟩
   ·have:=a x hx;omega
   ·by_cases he:k=i
    ·subst he;exact hb
    ·exact e k (by omega) hk2 hkn
  ·obtain ⟨a,b,c,e⟩:=ih (i+1) σ1 σe ll' hd' h
   refine ⟨fun x hx=> ?_, ?_,⟨o,σ1,hi,hr,c⟩,fun k hk hk2 hkn=> ?_⟩
   ·rcases cu.1 hx with rfl|hx
    ·exact ⟨b7 _,his⟩
    ·have:=a x hx;omega
   ·rw [ek,List.pairwise_cons]
    refine ⟨fun y hy=> ?_,b⟩
    obtain ⟨z,hz,rfl⟩:=ck.1 hy
    have:=a z hz;show i<z.1;omega
   ·rw [ek,cu] at hkn
    exact e k (by have:k≠i:=fun q=>hkn (.inl q);omega) hk2 fun q=>hkn (.inr q)
theorem E2 {bf:List Nat}: ∀ (ll dn:List (Nat×List Loc)),nS bf dn ll=true->(∀x∈ll,∀y∈dn,(bf.getD x.1 0).testBit y.1=true\/cQ y.2 x.2=true)/\ll.Pairwise fun y x=>(bf.getD x.1 0).testBit y.1=true\/cQ y.2 x.2=true:=by
 intro ll
 induction ll with
 |nil=>intro dn _;exact ⟨fun x hx=>(by cases hx),.nil⟩
 |cons x ll ih=>
  intro dn h
  simp only [nS,aj,bW,Bool.or_eq_true] at h
  obtain ⟨h1,h2⟩:=h
  obtain ⟨i1,i2⟩:=ih _ h2
  refine ⟨fun z hz y hy=> ?_,List.pairwise_cons.2 ⟨fun z hz=>i1 z hz x (by simp),i2⟩⟩
  rcases cu.1 hz with rfl|hz
  ·exact h1 y hy
  ·exact i1 z hz y (by simp [hy])
theorem FF {α:Type}: ∀ (l:List α) (s i:Nat) (x:α),l[i]? =some x->(s+i,x)∈(bz s l.length).zip l:=by
 intro l
 induction l with
 |nil=>intro s i x h;simp at h
 |cons y l ih=>
  intro s i x h
  cases i with
  |zero=>simp at h;subst h;simp [bz]
  |succ i=>
   have:=ih (s+1) i x (by simpa using h)
   simp only [List.length_cons,bz,List.zip_cons_cons,cu]
   right
   have he:s+(i+1)=s+1+i:=by omega
   rw [he];exact this
theorem GU {fs:List (List Loc)} {f:List Loc} {o:Oper} {σ σa σ' σ'':St U} {v:PV U} (ho:ops[fs.length]? =some o) (hseq:SeqRel V K S ops ((List.range' 0 fs.length).zip fs) σ σa) (hj:(eW V S o (dO ops.toList)).Rel K σa [] (.raise v) σ' f) (he:σ'.eqv σ'') {ll:List (Nat×List Loc)} {σe:St U}
  (hl:iW K V S ops.toList (ce ops.toList []) ((fs++[f]).length-1) (fs++[f]).length (ops.toList.drop (fs++[f]).length) σ' ll σe)
  (hf:lW ops.toList σ (fs++[f]) ll=true): ∃L σe,Raises ops σ L fs.length v/\SeqR V K S ops L σ σe/\Alike σ σ'' σe/\eP 0 ops.toList=true/\fs.length∈L.map (·.1)/\L.length<=ops.size:=by
 unfold lW at hf
 simp only [aj,List.length_append,List.length_singleton,Nat.add_sub_cancel] at hf
 obtain ⟨hfor,hfree,hharm,hlh,hlf,hld⟩:=hf
 rw [bW] at hlh
 simp only [List.length_append,List.length_singleton,Nat.add_sub_cancel] at hl
 obtain ⟨a,b,hse,e⟩:=E3 (ops:=ops) _ _ _ _ ll rfl hl
 obtain ⟨cc,d⟩:=E2 _ _ hlf
 have hjs:fs.length<ops.size:=(Array.getElem?_eq_some_iff.1 ho).1
 generalize hEx:(List.range' 0 fs.length).zip fs=ex at hseq
 have hex:ex.map (·.1)=List.range' 0 fs.length:=by grind [List.map_fst_zip]
 have hexm: ∀x∈ex,x.1<fs.length/\fs[x.1]? =some x.2:=by
  grind [List.mem_iff_getElem?]
 let L:List (Nat×List Loc×MR U):=(ex.map fun x=>(x.1,x.2,MR.done))++((fs.length,f,MR.raise v)::ll.map fun x=>(x.1,x.2,MR.done))
 have hLm:L.map (·.1)=List.range' 0 (fs.length+1)++ll.map (·.1):=by
  simp only [L,List.map_append,List.map_map,ek]
  have:(fun x:Nat×List Loc×MR U=>x.1)∘(fun x:Nat×List Loc=>(x.1,x.2,(MR.done:MR U)))=fun x=>x.1:=rfl
  grind [List.range'_concat]
 have hinc:(L.map (·.1)).Pairwise (· < ·):=by
  rw [hLm,List.pairwise_append]
  grind [List.pairwise_lt_range']
 have cases3: ∀x∈L,(∃y∈ex,x=(y.1,y.2,.done))\/x=(fs.length,f,.raise v)\/ ∃y∈ll,x=(y.1,y.2,.done):=by
  intro x hx
  simp only [L,cP,ck,cu] at hx
  grind
 have hLlt: ∀x∈L,x.1<ops.size:=by
  grind
 have hfps: ∀x∈ex,x.2∈fs++[f]:=fun x hx=>by
  grind
 refine ⟨L,σe,⟨hinc.imp Nat.ne_of_lt,hLlt, ?_, ?_, ?_, ?_, ?_, ?_⟩, ?_, ?_,hfor, ?_, ?_⟩
 ·
  simp only [L,List.pairwise_append,List.pairwise_cons]
  have fo: ∀p q g h,p<q->(fs++[f])[p]? =some g->(fs++[f])[q]? =some h->((ce ops.toList []).getD q 0).testBit p=true\/cQ g h=true:=fun p q g h hpq hp hq=>
   uQ _ (fs++[f]) 0 [] rfl hfree p q g h hpq (by grind) (by grind) (by simp)
  have lo: ∀z∈ll,∀p g,(fs++[f])[p]? =some g->((ce ops.toList []).getD z.1 0).testBit p=true\/cQ g z.2=true:=fun z hz p g hp=>by
   have:=cc z hz (0+p,g) (by have:=FF (fs++[f]) 0 p g hp;simpa using this)
   simpa using this
  refine ⟨?_,⟨fun y hy=> ?_, ?_⟩,fun x hx y hy=> ?_⟩
  ·have h1:ex.Pairwise fun x y=>x.1<y.1:=by
    grind
   rw [List.pairwise_map]
   refine (List.Pairwise.and_mem.1 h1).imp fun {x y} h=> ?_
   grind
  ·obtain ⟨z,hz,rfl⟩:=ck.1 hy
   exact lo z hz fs.length f (by simp)
  ·rw [List.pairwise_map];exact d
  ·obtain ⟨x',hx',rfl⟩:=ck.1 hx
   rcases cu.1 hy with rfl|hy
   ·grind
   ·obtain ⟨z,hz,rfl⟩:=ck.1 hy
    exact lo z hz x'.1 x'.2 (by grind)
 ·
  intro pre x post hpp o' ho' ed hed hb
  have hxL:x∈L:=by grind
  have hlt:=qc ops.toList 0 x.1 _ hfor (by grind) ed hed hb
  rw [b8] at hlt
  have hin:ed.on∈L.map (·.1):=by
   have hk:ed.on<=fs.length\/fs.length<ed.on:=by omega
   rcases hk with hk|hk
   ·grind
   ·rcases cases3 x hxL with ⟨y,hy,rfl⟩|rfl|⟨y,hy,rfl⟩
    ·grind
    ·simp at hlt;omega
    ·simp only [vn,bW] at hld
     have h1:=hld y hy
     simp only at ho'
     rw [Array.getElem?_toList,ho'] at h1
     have h2:=bW.1 h1 ed hed
     rw [hb] at h2
     simp only [Bool.not_true,Bool.false_or,Bool.or_eq_true,List.any_eq_true,Nat.ble_eq,Nat.beq_eq_true_eq] at h2
     rcases h2 with h2|⟨z,hz,h2⟩
     ·omega
     ·rw [hLm,cP];right;exact ck.2 ⟨z,hz,Nat.eq_of_beq_eq_true h2⟩
  grind [List.pairwise_cons]
 ·intro x hx hne
  grind
 ·grind
 ·intro x hx hne
  rcases cases3 x hx with ⟨y,hy,rfl⟩|rfl|⟨y,hy,rfl⟩
  ·have:=A9 _ _ hharm y.1 (by omega) (by grind)
   grind
  ·omega
  ·exact .inr (hlh y hy)
 ·grind
 ·exact SeqR.append (SeqR.ofSeq hseq) ⟨o,σ',ho,hj,hse⟩
 ·have hh:=SeqR.harmless (σ0:=σ) _ hse (fun x hx=>by
   obtain ⟨y,hy,rfl⟩:=ck.1 hx
   exact hlh y hy)
  exact ⟨fun id hid=>(hh.b id hid).trans (he.b id),fun i=>(hh.o i).trans (he.o i),fun i=>(hh.u i).trans (he.u i)⟩
 ·grind
 ·have h1:(L.map (·.1)).length<=(List.range ops.size).length:=by
   have hnd:(L.map (·.1)).Nodup:=hinc.imp Nat.ne_of_lt
   refine List.Nodup.length_le_of_subset hnd fun i hi=> ?_
   grind
  grind
theorem G8 {σ τ:St U} (ho:σ.o=τ.o) (hu:σ.u=τ.u) (t:Option (Nat×Bool)) (v:PV U) (K:Kept U):gM σ t v K=gM τ t v K:=by
 simp_all [gM]
theorem BD {σ τ:St U} (ho:σ.o=τ.o) (hu:σ.u=τ.u): ∀ (ts:List (Option (Nat×Bool))) (vs:List (PV U)) (K:Kept U),fM σ ts vs K=fM τ ts vs K:=by
 intro ts
 induction ts with
 |nil=>intro vs K;cases vs<;>rfl
 |cons t ts ih=>
  intro vs K
  cases vs<;>grind [fM,G8]
theorem BB {σ τ:St U} (ho:σ.o=τ.o) (hu:σ.u=τ.u): ∀ (l:List (Nat×List (Option (Nat×Bool)))) (K:Kept U),(∀x∈l,σ.b x.1=τ.b x.1)->dX σ l K=dX τ l K:=by
 intro l
 induction l with
 |nil=>intro K _;rfl
 |cons x l ih=>
  obtain ⟨n,ts⟩:=x
  intro K h
  have h1:=h (n,ts) (by simp)
  simp only at h1
  have h2: ∀K,dX σ l K=dX τ l K:=fun K=>ih K fun x hx=>h x (by simp [hx])
  grind [dX,BD]
theorem FD: ∀ (l:List Nat) (n:Nat),n∈jl l->n∈l:=by
 intro l
 induction l<;>grind [jl]
theorem Fr {α:Type}: ∀ (l:List (Nat×α)) (n:Nat),n∈l.map (·.1)->(bw l n).isSome=true:=by
 intro l
 induction l<;>grind [eV]
theorem tN {σ0 σ τ:St U} (h:Alike σ0 σ τ):cR (eY σ0 τ) τ=cR (eY σ0 σ) σ:=by
 have hkeys: ∀id∈jl (σ0.box.map (·.1)),τ.b id=σ.b id:=fun id hid=>h.b id (Fr _ _ (FD _ _ hid))
 have hA:eY σ0 τ=eY σ0 σ:=by
  grind [eY,List.map_congr_left]
 rw [hA]
 have hB: ∀K,dX τ (eY σ0 σ).boxes K=dX σ (eY σ0 σ).boxes K:=fun K=>BB (funext h.o) (funext h.u) _ K fun x hx=>by
  obtain ⟨id,hid,rfl⟩:=ck.1 hx
  grind
 grind [cR,eY,jc]
end
end Go.Proofs.YtlidjlacmpaefaaGreatDoor.PI
