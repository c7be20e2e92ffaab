/- BuildRuns answers true at every input of bulk at most 1048576, and leaves its arguments as they were: the second form's card. -/
import Derived.Test.YtapmagaejigpnaaGreatDoorX8
namespace Go.Proofs.YtapmagaejigpnaaGreatDoor
open Go PI Go.ChangeShapes Go.WideShapes Go.ChangeAt Go.RowKit
set_option linter.unusedVariables false
set_option linter.unusedSimpArgs false
set_option maxRecDepth 100000
theorem EI {k:Nat} (hk:4296016872≤k) {H:Type} {t:Tm} {d:DataW H} (h:QT t d) (hb:Rows.uptoBulk d≤1048576):In k t:=by
 have h1:=h.1
 have h2:=uJ t
 exact ⟨h.2 (by omega),by unfold Fd;omega,by omega⟩
theorem YK {k:Nat} (hk:4296016872≤k) {o:Obj} (ho:af o) {line t:Tm} {phi:List Cl} (h1:In k line) (h2:In k t) (h3:am phi) (h4:phi.length<1073741824):
  b9 (LL o) 3 [.agg (cW ET.T line),dC phi .none,.agg (cW ET.T t)] [] (.ret (.bool true) []):=by
 have hF:F3 k:=by unfold F3;omega
 obtain ⟨j,rfl⟩: ∃j,k=j+1:=⟨k-1,by omega⟩
 obtain ⟨out,hout,hx⟩:=aaC (S:=Out UU) o ho (j+1) [.agg (cW ET.T line),dC phi .none,.agg (cW ET.T t)] [] some (.ret (.bool true) []) (by
  cases line;cases t
  exact Eq.trans (by kernel_rfl) (YN hF h1 h2 h3 h4 fun r=>some (Out.ret (U:=UU) (.bool r) [])))
 injection hx with hx
 exact hx▸hout
theorem YJ (H:Type) (enc:TypeId×Value→H) (W:World) (base:Nat) (args:Array Value) (ds gs:List (DataW H)) (before:List MemPlace)
  (hval: ∀ (j:Nat) t v,Tryz.f3.params[j]? =some t→args[j]? =some v→Value.okWide Tryz.prog W .any base t v)
  (hW:DataW.Whole enc Tryz.prog Tryz.f3.params.toList Rows.buildRunsSpec.vars false W args.toList ds gs before) (hL:laidMetH Tryz.prog Rows.buildRunsRow.laid W) (hb:Rows.uptoBulkAll (ds++gs)≤1048576):
  Calls Tryz.prog 3 args W fun e W'=> ∃v,e= .returned v∧Rows.buildRunsSpec.post enc Tryz.prog Tryz.f3 false true false false W args v W':=by
 have hW':=hW
 obtain ⟨p,q,hA0,hV,rfl,hfz,hnd⟩:=hW
 have hA:DataW.TrodAll enc Tryz.prog W 0 (fun _=>true) true Tryz.f3.params.toList args.toList ds p:=hA0
 rw [Tryz.params3] at hA hval
 obtain ⟨v0,vs0,d0,ds0,p0,q0,hargs,rfl,rfl,h0,r0⟩:=trodAll_cons hA
 obtain ⟨v1,vs1,d1,ds1,p1,q1,rfl,rfl,rfl,h1,r1⟩:=trodAll_cons r0
 obtain ⟨v2,vs2,d2,ds2,p2,q2,rfl,rfl,rfl,h2,r2⟩:=trodAll_cons r1
 obtain ⟨rfl,rfl,rfl⟩:=trodAll_nil r2
 obtain rfl:args= #[v0,v1,v2]:=by cases args;simp_all
 obtain ⟨rfl,rfl⟩:=trodVars_none hV
 obtain ⟨o,ho,hh⟩:=aaw hL
 simp only [List.append_nil,Rows.uptoBulkAll,Nat.add_zero] at hb
 obtain ⟨t0,e0,k0⟩:=Dg (o:=o) (g:=gB UU 0 fun _=>0) Ah h0
 obtain ⟨l1,e1,k1,m1⟩:=Q8 (o:=o) (g:=gB UU 0 fun _=>0) Ah (hval 1 22 v1 rfl rfl) h1
 obtain ⟨t2,e2,k2⟩:=Dg (o:=o) (g:=gB UU 0 fun _=>0) Ah h2
 have hk:(4296016872:Nat)≤4296016872:=Nat.le_refl _
 generalize hkk:(4296016872:Nat)=k at hk
 have hok:=YK (k:=k) (by omega) ho (EI (by omega) k0 (by omega)) (EI (by omega) k2 (by omega)) k1 (by omega)
 refine (Rm hok (T5 hh rfl rfl fun j p hj=> ?_)).mono ?_
 ·match j,hj with
  |0,hj=>cases hj;exact e0
  |1,hj=>cases hj;exact e1
  |2,hj=>cases hj;exact e2
  |j+3,hj=>simp at hj
 ·rintro e W' ⟨rfl,hkept⟩
  refine ⟨_,rfl,XJ rfl rfl (fun t ht=> ?_) rfl hW' hkept⟩
  rw [Tryz.params3] at ht
  have ht':t=26∨t=22∨t=26:=by simpa using ht
  rcases ht' with rfl|rfl|rfl<;>exact of_decide_eq_true (by kernel_rfl)
noncomputable def zE (os:Os):World:=
 {World.holding Tryz.prog os ⟨#[],#[],[]⟩ with heap:=(World.holding Tryz.prog os ⟨#[],#[],[]⟩).heap.modify 0 fun
   | .cells _ t frozen=> .cells (Lib.deBruijn32tab.map fun n:Nat=>Value.int .u8 n).toArray t frozen
   |o=>o}
def MT:Value:= .agg #[.int .i64 0,.int .i64 0,.string ByteArray.empty,.slice none 0 0,.slice none 0 0,.slice none 0 0]
def zeroArgs:Array Value:= #[MT,.slice none 0 0,MT]
def MS {H:Type}:DataW H:= .agg [.lit (.int .i64 0),.lit (.int .i64 0),.lit (.string []),.nil,.nil,.nil]
theorem Wu (os:Os):laidMet Tryz.prog Rows.buildRunsRow.laid ((zE os).forCall (fun _ _=>0) ⟨#[],zeroArgs,[]⟩).memory:=
 laidMet_of_run' 8 (by kernel_rfl) (by kernel_rfl)
theorem Yn (os:Os) {H:Type} (enc:TypeId×Value→H): ∃places,DataW.whole enc Tryz.prog ((zE os).forCall (fun _ _=>0) ⟨#[],zeroArgs,[]⟩).memory Tryz.f3.params.toList Rows.buildRunsSpec.vars false zeroArgs.toList 8=some ([MS,.nil,MS],[],places):=
 ⟨[],by kernel_rfl⟩
theorem WK (os:Os) (started:os.Started) (H:Type) (enc:TypeId×Value→H) (F:Stop.Interp):
  ReturnsInHanded {} Tryz.checked os 3 .any ((Rows.OpenSpec.upto Rows.buildRunsSpec).preRow enc Tryz.prog Tryz.f3 Rows.buildRunsUptoRow.domain false Rows.buildRunsUptoRow.laid) (((Rows.OpenSpec.upto Rows.buildRunsSpec).at F).post enc Tryz.prog Tryz.f3 false true false false):=by
 obtain ⟨places,hx⟩:=Yn os enc
 refine returnsInHanded_of_row (C:=Tryz.checked) (s:=Rows.OpenSpec.upto Rows.buildRunsSpec) own started (by kernel_rfl) Tryz.func3
  (witness_row_at (enc:=enc) (C:=Tryz.checked) false (zE os) zeroArgs rfl (by kernel_rfl) (by kernel_rfl) (by kernel_rfl)
   (OpenSpec.preRow_of_cond 8 hx (by kernel_rfl) (fun k hk=>by cases hk;kernel_rfl) (by kernel_rfl) (Wu os))) ?_
 intro W base args ds gs before hval hW _ hcond _ hL _ _
 exact YJ H enc W base args ds gs before hval hW hL (of_decide_eq_true (hcond _ rfl))
theorem ZX:Rows.BuildRunsUptoSaid:=
 OpenClaim.holds_of_cond 3 Tryz.f3 rfl rfl rfl rfl rfl rfl rfl ⟨rfl,rfl,rfl,rfl,rfl⟩ rfl rfl rfl rfl rfl (by kernel_rfl) Tryz.func3 (by kernel_rfl)
  (of_decide_eq_true (by kernel_rfl)) (by unfold Func.isWrapper;first|(rw [if_pos (by decide+kernel)];kernel_rfl)|(rw [if_neg (by decide+kernel)];exact ⟨rfl,rfl⟩))
  (fun os started H enc _ F=>by rw [OpenClaim.pre_eq_preRow];exact WK os started H enc F)
theorem plain (f:FuncId) (fn:Func) (hf:Tryz.pinned.checked.prog.funcNamed "hypercube/hypercubelaw15.BuildRuns" =some f) (hfn:Tryz.pinned.checked.prog.funcs[f]? =some fn):
  true=Tryz.pinned.checked.prog.looks []∧ ∀ (j:Nat) t,fn.params[j]? =some t→Tryz.pinned.checked.prog.wantsStandIn t=false:=by
 obtain rfl:f=3:=Option.some.inj ((show Tryz.prog.funcNamed "hypercube/hypercubelaw15.BuildRuns" =some 3 by kernel_rfl).symm.trans hf)|>.symm
 obtain rfl:fn=Tryz.f3:=(Option.some.inj (Tryz.func3.symm.trans hfn)).symm
 refine ⟨by kernel_rfl,fun j t ht=> ?_⟩
 rw [Tryz.params3] at ht
 have ht':t=26∨t=22∨t=26:=by simpa using Array.mem_of_getElem? ht
 rcases ht' with rfl|rfl|rfl
 ·exact (show Tryz.prog.wantsStandIn 26=false by kernel_rfl)
 ·exact (show Tryz.prog.wantsStandIn 26=false by kernel_rfl)
 ·exact (show Tryz.prog.wantsStandIn 22=false by kernel_rfl)
theorem buildRuns_holds:Rows.BuildRunsUptoCardSaid:=
 Claim7.holds_tied_plain_at .later [] _ _ _ _ ZX (fun _ h=>by cases h) (by kernel_rfl) (fun _ h=>by cases h) buildRunsUpto_row_tie rfl ⟨rfl,rfl⟩ (by kernel_rfl) rfl plain (by kernel_rfl)
#print axioms buildRuns_holds
end Go.Proofs.YtapmagaejigpnaaGreatDoor
