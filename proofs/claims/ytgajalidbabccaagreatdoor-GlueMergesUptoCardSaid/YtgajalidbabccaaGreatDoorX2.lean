/- Part 2 of a proof: the sources, with their names and remarks, lie in wip/. -/
import Derived.Test.YtgajalidbabccaaGreatDoorX1
import Derived.Recover
import Derived.Orders
import Derived.Test.YtgajalidbabccaaGreatDoorProg
import Derived.KernelRfl
open Array renaming getD_eq_getD_getElem?→cH
open Bool renaming and_eq_true→aF,eq_iff_iff→jK,not_eq_true'→kn,true_and→hX
open ByteArray renaming empty→av
open Go.IntKind renaming wrap→ag
open Go.Sem renaming run_bind→dK
open Int renaming toNat→dH,toNat_natCast→gb
open List renaming all_eq_true→dI,append_nil→eU,getElem?_append_left→iq,getElem?_eq_getElem→dm,getElem?_eq_some_iff→cD,getElem?_map→ir,length→g4,length_append→it,length_cons→dD,map_cons→fG,mem_append→dk,mem_cons→d7,mem_map→dA,mem_of_getElem?→fH,mem_range→gc,range→d9
open Nat renaming beq→ay,ble→dr,eq_of_testBit_eq→h8,le_refl→dv,le_trans→gf,lt_of_le_of_lt→ko,lt_of_lt_of_le→gM,pow_le_pow_right→jL
open Option renaming bind→af
set_option linter.unusedVariables false
set_option linter.unusedSimpArgs false
namespace Go.Proofs.YtgajalidbabccaaGreatDoor.PI
open Go
section
variable {U:Uni} {V:Env U} {P:Program} {X:Link V P} {S:Side U} {c:Ctx}
theorem qM (hI:nS X) (hS:S.rcv=none) (hP:PinOK S c):pI X (d5 X) S c:=by
 intro o a w σ g D r τ fp gp next Q hd h hr ht
 obtain ⟨dst,op,ty,pos,after,gd⟩:=o
 cases op with
 |move x=>exact aio hd h hr ht
 |assign x=>exact ah6 hd h hr ht
 |pick x y z=>exact air hd h hr ht
 |alloc t=>exact ah5 hP hd h hr ht
 |box t x=>exact ah8 hP hd h hr ht
 |build t ps=>exact ah9 hd h hr ht
 |buildSlice t n ps=>exact ah_ hd h hr ht
 |load t x=>exact aii hd h hr ht
 |store t x y=>exact ait h hr ht
 |nilCheck x=>exact aip hd h hr ht
 |binOp b t x y u=>exact ah7 hd h hr ht
 |unOp u t x=>exact aiv hd h hr ht
 |convert s t x=>exact aic hd h hr ht
 |makeFunc f xs ys=>cases f with
  |func f=>exact aik hd h hr ht
  |_=>exact hr.elim
 |makeInterface t x=>exact ail hd h hr ht
 |typeAssert x s t ok=>cases ok with
  |true=>exact aiu hd h hr ht
  |false=>exact hr.elim
 |makeMap t x=>cases x with
  |none=>exact aim hd h hr ht
  |some x=>exact hr.elim
 |lookup t m x ok=>exact aij hd h hr ht
 |mapUpdate t m x y=>exact ain h hr ht
 |slice t x lo hi mx=>exact ais hd h hr ht
 |fieldAddr s x f=>exact aif hd h hr ht
 |field s x f=>exact aie hd h hr ht
 |indexAddr t x i=>exact aih hd h hr ht
 |index t x i=>exact aig hd h hr ht
 |extract x i=>exact aid hd h hr ht
 |panic x=>exact aiq h hr ht
 |call cl=>
  cases hc:cl.callee with
  |builtin b=>
   by_cases hb:b= .recover
   ·subst hb
    obtain ⟨callee,args,ats⟩:=cl
    simp only at hc
    subst hc
    simp only [dt,hS] at hr
    exact hr.elim
   ·exact aia hc hb hd h hr ht
  |value f=>exact aib hI hc hd h hr ht
  |invoke x n=>
   obtain ⟨callee,args,ats⟩:=cl
   simp only at hc
   subst hc
   exact hr.elim
 |_=>exact hr.elim
end
section
variable {U:Uni} {V:Env U} {P:Program} {X:Link V P}
theorem alS: ∀ (args:List (PV U)) (s n:Nat),dV (yA s args) n=if s<=n then (args[n-s]?).map (T8 n) else none:=by
 intro args
 induction args with
 |nil=>intro s n;simp [yA,dV]
 |cons p args ih=>
  intro s n
  simp only [yA,ly,ih]
  by_cases h:s=n
  ·subst h;simp
  ·rw [if_neg h]
   by_cases h2:s<=n
   ·rw [if_pos h2,if_pos (by omega)]
    obtain ⟨k,rfl⟩: ∃k,n=s+(k+1):=⟨n-s-1,by omega⟩
    rw [show s+(k+1)-(s+1)=k by omega,show s+(k+1)-s=k+1 by omega]
    simp
   ·rw [if_neg h2,if_neg (by omega)]
def jt (args:List (PV U)) (j:Nat):Option (Ob U):=match args[j]? with|some (.fresh e l)=>some ⟨0,e,l⟩|_=>none
theorem T7: ∀ (args:List (PV U)) (s i:Nat),dV (kS s args) i=if 2000000+s<=i then jt args (i-2000000-s) else none:=by
 intro args
 induction args with
 |nil=>intro s i;simp [kS,dV,jt]
 |cons p args ih=>
  intro s i
  have tail:dV (kS (s+1) args) i=if 2000000+s<=i/\i≠2000000+s then jt (p::args) (i-2000000-s) else none:=by
   rw [ih]
   by_cases h:2000000+(s+1)<=i
   ·rw [if_pos h,if_pos ⟨by omega,by omega⟩]
    obtain ⟨k,rfl⟩: ∃k,i=2000000+s+(k+1):=⟨i-2000000-s-1,by omega⟩
    rw [show 2000000+s+(k+1)-2000000-(s+1)=k by omega,show 2000000+s+(k+1)-2000000-s=k+1 by omega]
    simp [jt]
   ·rw [if_neg h,if_neg (by omega)]
  have plain:p.notFresh=true->kS s (p::args)=kS (s+1) args:=by
   intro hp;cases p<;>first|rfl|cases hp
  by_cases hp:p.notFresh=true
  ·rw [plain hp,tail]
   by_cases h1:2000000+s<=i
   ·rw [if_pos h1]
    by_cases h2:i=2000000+s
    ·subst h2
     rw [if_neg (by omega)]
     have:2000000+s-2000000-s=0:=by omega
     rw [this]
     unfold jt
     simp only [List.getElem?_cons_zero]
     cases p<;>first|rfl|cases hp
    ·rw [if_pos ⟨h1,h2⟩]
   ·rw [if_neg h1,if_neg (by omega)]
  ·cases p with
   |fresh e l=>
    simp only [kS,ly,tail]
    by_cases h1:2000000+s=i
    ·subst h1
     rw [if_pos rfl,if_pos (dv _)]
     have:2000000+s-2000000-s=0:=by omega
     rw [this];rfl
    ·rw [if_neg h1]
     by_cases h2:2000000+s<=i
     ·rw [if_pos ⟨h2,Ne.symm h1⟩,if_pos h2]
     ·rw [if_neg (by omega),if_neg h2]
   |_=>exact absurd rfl hp
end
section
variable {U:Uni} {V:Env U} {P:Program} {X:Link V P}
theorem am5 {boxes:List (Box U)}: ∀ (n s id:Nat) (bs:List (Box U)),n=bs.length->dV ((eA s n).zip bs) id=if s<=id then bs[id-s]? else none:=by
 intro n
 induction n with
 |zero=>intro s id bs h;have:bs=[]:=List.eq_nil_of_length_eq_zero h.symm;subst this;simp [eA,dV]
 |succ n ih=>
  intro s id bs h
  cases bs with
  |nil=>simp at h
  |cons b bs=>
   simp only [eA,List.zip_cons_cons,ly]
   rw [ih (s+1) id bs (by simpa using h)]
   by_cases h1:s=id
   ·subst h1;simp
   ·rw [if_neg h1]
    by_cases h2:s<=id
    ·rw [if_pos h2,if_pos (by omega)]
     obtain ⟨k,rfl⟩: ∃k,id=s+(k+1):=⟨id-s-1,by omega⟩
     rw [show s+(k+1)-(s+1)=k by omega,show s+(k+1)-s=k+1 by omega]
     simp
    ·rw [if_neg h2,if_neg (by omega)]
def jg (n:Nat) (ν:Nat->Nat) (args:List (PV U)) (vs:Array Value):Gh U:=
 ⟨fun id=>if 1000000<=id/\id-1000000<n then some (ν (id-1000000)) else none,
  fun i=>if 2000000<=i then (jt args (i-2000000)).map (fun ob=>(0,ob.e,vs.getD (i-2000000) undef)) else none⟩
def pq (args:List (PV U)) (δ:Nat->Option Nat):Nat->Option Nat:=fun i=>if 2000000<=i then (jt args (i-2000000)).bind fun _=>δ (i-2000000) else none
def kl (w:World) (N0:aR) (n m:Nat) (ν:Nat->Nat) (δ:Nat->Option Nat) (ο:Nat->Array Value) (hoz: ∀b,w.heap.size<=b->ο b= #[]) (nt:Nat) (hnt:nt<=1000000) (h:Bnd w N0 n ν δ) (gl:List (Nat×Obj)) (hgl: ∀b o,(b,o)∈gl->w.heap[b]? =some o/\(∀i,i<n->ν i≠b)/\ ∀j,δ j≠some b):Ctx:=
 ⟨w,N0,qH n m ν δ,nt,fun b o hn=>⟨(h.n0 b o hn).1,fun hm=>by
  rcases dk.1 hm with hm|hm
  ·obtain ⟨k,hk,e⟩:=dA.1 hm
   exact (h.n0 b o hn).2.1 k (gc.1 hk) e
  ·obtain ⟨j,_,hj⟩:=List.mem_filterMap.1 hm
   exact (h.n0 b o hn).2.2 j hj⟩,
  fun id=>if 1000000<=id/\id-1000000<n then some (ν (id-1000000)) else none,fun id k h=>(by
  split at h
  ·rename_i h1;exact ⟨h1.1,gf hnt h1.1⟩
  ·cases h),
  gl,fun b o hb=>⟨(hgl b o hb).1,fun hm=>by
  rcases dk.1 hm with hm|hm
  ·obtain ⟨k,hk,e⟩:=dA.1 hm
   exact (hgl b o hb).2.1 k (gc.1 hk) e
  ·obtain ⟨j,_,hj⟩:=List.mem_filterMap.1 hm
   exact (hgl b o hb).2.2 j hj⟩,ο,hoz⟩
structure CtxOf (c:Ctx) (w:World) (N0:aR) (n m:Nat) (ν:Nat->Nat) (δ:Nat->Option Nat) (ο:Nat->Array Value):Prop where
 cw:c.w0=w
 cN:c.N0=N0
 bl:c.bl=qH n m ν δ
 fix: ∀i,i<n->c.fix (fz i)=some (ν i)
 other: ∀id k,c.fix id=some k->(∃i,i<n/\id=fz i)\/w.heap.size<=k
 bnd:Bnd w N0 n ν δ
 oo:c.ο=ο
theorem nP {w:World} {N0:aR} {n m nt:Nat} {ν:Nat->Nat} {δ:Nat->Option Nat} {ο:Nat->Array Value} {hoz: ∀b,w.heap.size<=b->ο b= #[]} {hnt:nt<=1000000} {h:Bnd w N0 n ν δ} {gl:List (Nat×Obj)} {hgl: ∀b o,(b,o)∈gl->w.heap[b]? =some o/\(∀i,i<n->ν i≠b)/\ ∀j,δ j≠some b}:CtxOf (kl w N0 n m ν δ ο hoz nt hnt h gl hgl) w N0 n m ν δ ο where
 cw:=rfl
 cN:=rfl
 bl:=rfl
 fix i hi:=by
  simp only [kl,fz]
  rw [if_pos ⟨by omega,by omega⟩,show 1000000+i-1000000=i by omega]
 other id k hk:=by
  simp only [kl] at hk
  split at hk
  ·rename_i h1;exact .inl ⟨id-1000000,h1.2,by simp [fz];omega⟩
  ·cases hk
 bnd:=h
 oo:=rfl
variable {w:World} {vs:Array Value} {N0:aR} {ν:Nat->Nat} {δ:Nat->Option Nat} {ο:Nat->Array Value} {args:List (PV U)} {boxes:List (Box U)}
theorem yz {i b:Nat} (h:pq args δ i=some b):2000000<=i/\δ (i-2000000)=some b/\(jt args (i-2000000)).isSome=true:=by
 unfold pq at h
 split at h
 ·rename_i hi
  cases hf:jt args (i-2000000) with
  |none=>rw [hf] at h;cases h
  |some ob=>rw [hf] at h;exact ⟨hi,h,rfl⟩
 ·cases h
theorem alT (hg:Given X w vs N0 ν δ ο args boxes) (nt:Nat) (hnt:nt<=1000000): ∀b o,((kl w N0 boxes.length args.length ν δ ο hg.oz nt hnt hg.bnd X.gblk hg.glob).N (jg boxes.length ν args vs) (pq args δ)) b o->(NB N0 boxes.length ν δ) b o:=by
 rintro b o (hn|⟨id,hid⟩|⟨i,hi⟩)
 ·exact .inl hn
 ·simp only [jg] at hid
  split at hid
  ·rename_i h1
   injection hid with hid
   exact .inr (.inl ⟨_,h1.2,hid⟩)
  ·cases hid
 ·exact .inr (.inr ⟨_,(yz hi).2.1⟩)
theorem T9 (id:Nat):(kR args boxes).b id=if 1000000<=id then (boxes.map (Box.ren true fz))[id-1000000]? else none:=by
 unfold St.b kR
 simp only
 rw [am5 (boxes:=boxes) _ _ _ _ (by simp)]
 rfl
theorem Dy (hg:Given X w vs N0 ν δ ο args boxes) {nt:Nat} (hnt:args.length<=nt) (hnt2:nt<=1000000):
  Sim X (kl w N0 boxes.length args.length ν δ ο hg.oz nt hnt2 hg.bnd X.gblk hg.glob) (vs++Array.replicate (nt-vs.size) undef) w (kR args boxes) (jg boxes.length ν args vs) (pq args δ):=by
 have hsub:=alT hg nt hnt2
 have hμ: ∀i b,(gB U boxes.length ν).μ i=some b->(jg boxes.length ν args vs).μ (fz i)=some b:=by
  intro i b hb
  simp only [gB] at hb
  split at hb
  ·rename_i hi
   simp only [jg,fz]
   rw [if_pos ⟨by omega,by omega⟩,show 1000000+i-1000000=i by omega]
   exact hb
  ·cases hb
 have hvs: ∀n,n<args.length->(vs++Array.replicate (nt-vs.size) undef).getD n undef=vs.getD n undef:=by
  intro n hn
  have:n<vs.size:=by rw [hg.size];exact hn
  simp [cH,Array.getElem?_append,this]
 have ho: ∀i ob,(kR args boxes).o i=some ob->2000000<=i/\jt args (i-2000000)=some ob:=by
  intro i ob h
  unfold St.o kR at h
  simp only [T7] at h
  split at h
  ·rename_i hi;exact ⟨by omega,by simpa using h⟩
  ·cases h
 have hb: ∀id b,(kR args boxes).b id=some b->1000000<=id/\ ∃b0,boxes[id-1000000]? =some b0/\b=b0.ren true fz:=by
  intro id b h
  rw [T9] at h
  by_cases hi:1000000<=id
  ·rw [if_pos hi,ir,Option.map_eq_some_iff] at h
   obtain ⟨b0,h1,h2⟩:=h
   exact ⟨by omega,b0,h1,h2.symm⟩
  ·rw [if_neg hi] at h;cases h
 refine {nt:=by simp [kl,hg.size];omega,regs:=fun n=> ?_,boxes:=fun id b h=> ?_,dom:=fun id k hk=> ?_,inj:=fun id id' k h1 h2=> ?_,new:=fun id k hk=> ?_,objs:=fun i ob h=> ?_,nobj:=fun i h=> ?_,dinj:=fun i j b h1 h2=> ?_,dnew:=fun i b h=> ?_,dbox:=fun i id b h1 h2=> ?_,ext:=Ext.refl _ _,gl:=rfl,fix:=fun id k hk=> .inl hk}
 ·unfold St.r kR
  simp only [alS,Nat.zero_le,if_true,Nat.sub_zero]
  cases hp:args[n]? with
  |none=>simp only [Option.map_none];exact .undef _
  |some p=>
   simp only [Option.map_some]
   have hn:=(cD.1 hp).1
   rw [hvs n hn]
   have hr:=hg.args n p hp
   by_cases hf:p.notFresh=true
   ·have:=(hr.rep hf).ren (g':=jg boxes.length ν args vs) (N':=(kl w N0 boxes.length args.length ν δ ο hg.oz nt hnt2 hg.bnd X.gblk hg.glob).N (jg boxes.length ν args vs) (pq args δ)) true fz (fun _ _ _ _=>rfl) (fun b o _ h=>hsub b o h) (.inr fun _=>rfl) fun i _ b hb=>hμ i b hb
    cases p<;>first|exact this|cases hf
   ·cases p with
    |fresh e l=>
     obtain ⟨A,n',cp,hval,_⟩:=(show ObOK X w _ _ e l (vs.getD n undef) .wr (δ n) from hr).val
     have hfa:jt args n=some ⟨0,e,l⟩:=by unfold jt;rw [hp]
     refine .own (2000000+n) 0 _ 0 e (vs.getD n undef) ?_ (dv _) (fun _=>rfl) ⟨A,n',cp,hval⟩
     simp only [jg]
     rw [if_pos (by omega),show 2000000+n-2000000=n by omega,hfa];rfl
    |_=>exact absurd rfl hf
 ·obtain ⟨h1,b0,h2,rfl⟩:=hb id b h
  have hlt:=(cD.1 h2).1
  have hμid:(jg boxes.length ν args vs).μ id=some (ν (id-1000000)):=if_pos ⟨h1,hlt⟩
  refine ⟨ν (id-1000000),hμid, ?_⟩
  exact (hg.boxes _ b0 h2).ren true fz rfl (fun _ _ _ _=>rfl) (fun b o _ h=>hsub b o h) (.inr fun _=>rfl) fun i _ b hb=>hμ i b hb
 ·simp only [jg] at hk
  split at hk
  ·rename_i h1
   obtain ⟨hx1,hx2⟩:=h1
   obtain ⟨b0,hb0⟩: ∃b0,boxes[id-1000000]? =some b0:=⟨_,dm hx2⟩
   exact ⟨b0.ren true fz,by rw [T9,if_pos hx1,ir,hb0];rfl⟩
  ·cases hk
 ·simp only [jg] at h1 h2
  split at h1
  ·rename_i q1
   split at h2
   ·rename_i q2
    injection h1 with h1
    injection h2 with h2
    have:=hg.bnd.inj _ _ q1.2 q2.2 (h1.trans h2.symm)
    omega
   ·cases h2
  ·cases h1
 ·simp only [jg] at hk
  split at hk
  ·rename_i h1
   injection hk with hk
   subst hk
   exact ⟨hg.bnd.lt _ h1.2,.inl (dk.2 (.inl (dA.2 ⟨_,gc.2 h1.2,rfl⟩)))⟩
  ·cases hk
 ·obtain ⟨h1,h2⟩:=ho i ob h
  have hp: ∃e l,args[i-2000000]? =some (.fresh e l)/\ob=⟨0,e,l⟩:=by
   unfold jt at h2
   split at h2
   ·rename_i e l hq
    injection h2 with h2
    exact ⟨e,l,hq,h2.symm⟩
   ·cases h2
  obtain ⟨e,l,hp,rfl⟩:=hp
  have hO:ObOK X w (NB N0 boxes.length ν δ) (gB U boxes.length ν) e l (vs.getD (i-2000000) undef) .wr (δ (i-2000000)):=hg.args _ _ hp
  refine ⟨vs.getD (i-2000000) undef,by simp only [jg];rw [if_pos h1,h2];rfl, ?_⟩
  have hu:(kR args boxes).u i= .wr:=by
   unfold St.u kR
   simp only
   have hlook: ∀ (l:List (Nat×Ob U)) (n:Nat),dV (l.map fun x=>(x.1,Use.wr)) n=(dV l n).map fun _=>Use.wr:=by
    intro l n
    induction l with
    |nil=>rfl
    |cons x l ih=>
     obtain ⟨m,y⟩:=x
     simp only [fG,ly,ih]
     split<;>rfl
   rw [hlook]
   have h':dV (kS 0 args) i=some ⟨0,e,l⟩:=h
   rw [h'];rfl
  have hD:pq args δ i=δ (i-2000000):=by simp only [pq];rw [if_pos h1,h2];rfl
  rw [hu,hD]
  exact hO.turn (fun _ _=>rfl) (fun _ _ _ _=>rfl) (fun b o _ h=>hsub b o h)
 ·have hf:2000000<=i->jt args (i-2000000)=none:=by
   intro hi
   have h':dV (kS 0 args) i=none:=h
   rw [T7,if_pos (by omega)] at h'
   simpa using h'
  constructor
  ·simp only [jg]
   split
   ·rename_i hi;rw [hf hi];rfl
   ·rfl
  ·simp only [pq]
   split
   ·rename_i hi;rw [hf hi];rfl
   ·rfl
 ·obtain ⟨a1,a2,_⟩:=yz h1
  obtain ⟨b1,b2,_⟩:=yz h2
  have:=hg.bnd.dinj _ _ _ a2 b2
  omega
 ·obtain ⟨a1,a2,_⟩:=yz h
  exact ⟨hg.bnd.dlt _ _ a2,.inl (dk.2 (.inr (List.mem_filterMap.2 ⟨_,gc.2 (hg.dom _ _ a2),a2⟩)))⟩
 ·obtain ⟨a1,a2,_⟩:=yz h1
  simp only [jg] at h2
  split at h2
  ·rename_i q
   injection h2 with h2
   exact hg.bnd.dν _ _ a2 _ q.2 h2
  ·cases h2
end
section
variable {U:Uni} {V:Env U} {P:Program} {X:Link V P} {K:d6 U} {c:Ctx} {tm:Array Value} {w:World} {σ:St U} {g:Gh U} {D:Nat->Option Nat}
variable {r:MR U} {τ:St U} {gp:List Loc}
def ph (tmps:Array Value):ResultVar->Sem Value
 | .tmp t=>pure (tmps.getD t undef)
 | .cell a t=>do loadVar t (<-asAddr (tmps.getD a undef))
theorem ajO (fn:Func) (tmps:Array Value):results fn tmps=(do
  let vs<-fn.results.mapM (ph tmps)
  pure (if h:vs.size=1 then vs[0] else .tuple vs)):=by
 unfold results ph
 rfl
theorem ajN (h:Sim X c tm w σ g D): ∀ (res:List ResultVar) {k:List (PV U)->M U} {fp:List Loc},(uc V res k).Rel K σ fp r τ gp->
  ∃ps us fp',(k ps).Rel K σ fp' r τ gp/\us.length=ps.length/\(∀ (j:Nat) p,ps[j]? =some p->Rep X w (c.N g D) g (us.getD j undef) p)/\(res.mapM (ph tm)).run P w= .ok us w:=by
 intro res
 induction res with
 |nil=>intro k fp hr;exact ⟨[],[],fp,hr,rfl,by simp,by simp⟩
 |cons x res ih=>
  intro k fp hr
  have step: ∀ {p:PV U} {v:Value} {fp1:List Loc},(uc V res fun vs=>k (p::vs)).Rel K σ fp1 r τ gp->Rep X w (c.N g D) g v p->(ph tm x).run P w= .ok v w->
    ∃ps us fp',(k ps).Rel K σ fp' r τ gp/\us.length=ps.length/\(∀ (j:Nat) p,ps[j]? =some p->Rep X w (c.N g D) g (us.getD j undef) p)/\((x::res).mapM (ph tm)).run P w= .ok us w:=by
   intro p v fp1 hr1 hp hv
   obtain ⟨ps,us,fp',h1,h2,h3,h4⟩:=ih hr1
   refine ⟨p::ps,v::us,fp',h1,by simp [h2],fun j q hq=> ?_,by simp [List.mapM_cons,dK,hv,h4]⟩
   cases j with
   |zero=>simp at hq;subst hq;exact hp
   |succ j=>exact h3 j q (by simpa using hq)
  cases x with
  |tmp t=>exact step hr (h.regs t) (by simp [ph])
  |cell a t=>
   simp only [uc,M.Rel] at hr
   obtain ⟨x,fp',v,h1,h2,h3⟩:=NI (a:=⟨tm,[]⟩) h (h.regs a) hr
   refine step h1 h3 ?_
   have h2':=h2
   unfold Instr.loadAt at h2'
   simp only [ph]
   cases hu:tm.getD a undef with
   |pointer q=>
    rw [hu] at h2'
    cases q with
    |none=>simp [Instr.sureAddr] at h2'
    |some q=>simpa [Instr.sureAddr,asAddr] using h2'
   |_=>rw [hu] at h2';simp [Instr.sureAddr] at h2'
theorem Gu: ∀ (l:List Nat) {k:List (Nat×Box U)->M U} {fp:List Loc},(lk l k).Rel K σ fp r τ gp-> ∃bs fp',(k bs).Rel K σ fp' r τ gp/\bs.map (·.1)=l/\ ∀x∈bs,σ.b x.1=some x.2:=by
 intro l
 induction l with
 |nil=>intro k fp hr;exact ⟨[],fp,hr,rfl,by simp⟩
 |cons id l ih=>
  intro k fp hr
  simp only [lk,M.Rel] at hr
  split at hr
  ·rename_i b hb
   obtain ⟨bs,fp',h1,h2,h3⟩:=ih hr
   exact ⟨(id,b)::bs,fp',h1,by simp [h2],fun x hx=>by
    rcases d7.1 hx with rfl|hx
    ·exact hb
    ·exact h3 x hx⟩
  ·exact hr.elim
theorem ad5: ∀ (n:Nat) (todo:List Nat) (acc:List (Nat×Box U)) {k:List (Nat×Box U)->M U} {fp:List Loc},(∀x∈acc,σ.b x.1=some x.2)->(wT n todo acc k).Rel K σ fp r τ gp->
  ∃bs fp',(k (acc++bs)).Rel K σ fp' r τ gp/\ ∀x∈acc++bs,σ.b x.1=some x.2:=by
 intro n
 induction n with
 |zero=>intro todo acc k fp _ hr;exact hr.elim
 |succ n ih=>
  intro todo acc k fp hacc hr
  cases todo with
  |nil=>exact ⟨[],fp,by rw [eU];exact hr,by simpa using hacc⟩
  |cons id todo=>
   simp only [wT] at hr
   split at hr
   ·exact ih todo acc hacc hr
   ·simp only [M.Rel] at hr
    split at hr
    ·rename_i b hb
     obtain ⟨bs,fp',h1,h2⟩:=ih _ _ (fun x hx=>by
      rcases dk.1 hx with hx|hx
      ·exact hacc x hx
      ·simp at hx;subst hx;exact hb) hr
     exact ⟨(id,b)::bs,fp',by simpa using h1,by simpa using h2⟩
    ·exact hr.elim
theorem RepG.lessN {N N':aR} {v:Value} {Do:Option Nat} {p:PV U} (h:RepG X w N g v Do p) (hN: ∀b o,N' b o->N b o):RepG X w N' g v Do p:=by
 by_cases hp:p.notFresh=true
 ·have:=(h.rep hp).mono X (w':=w) (N':=N') (g':=g) (fun _ _ _ _=>rfl) (fun b o _ hn=>hN b o hn) (Gh.le.refl g)
  cases p<;>first|exact this|cases hp
 ·cases p with
  |fresh e l=>exact ObOK.mono h (fun _ _=>rfl) (fun _ _ _ _=>rfl) (fun b o _ hn=>hN b o hn) (Gh.le.refl g)
  |_=>exact absurd rfl hp
theorem KT {w0:World} {N0:aR} {n m:Nat} {ν:Nat->Nat} {δ:Nat->Option Nat} {ο:Nat->Array Value} (hc:CtxOf c w0 N0 n m ν δ ο) (hdom: ∀j b,δ j=some b->j<m)
  (h:Sim X c tm w σ g D) {bs:List (Nat×Box U)} {qs:List (PV U)} {vs:Array Value} {ν':Nat->Nat} {δ':Nat->Option Nat} {keep:Bool} {N1:aR}
  (hkeys: ∃more,bs.map (·.1)=eA (fz 0) n++more) (hnd:(bs.map (·.1)).Nodup) (hν: ∀ (k:Nat) id,(bs.map (·.1))[k]? =some id->g.μ id=some (ν' k))
  (hδ: ∀j b,δ' j=some b-> ∃i,D i=some b)
  (hg:Given X w vs N1 ν' δ' ο qs (bs.map fun b=>b.2.ren keep (cA (bs.map (·.1)))))
  (hN1:NB N1 bs.length ν' δ'=c.N g D):
  Back X w0 w N0 ν δ ο n m ν' δ' (bs.map fun b=>b.2.ren keep (cA (bs.map (·.1))))/\ ∀b o,(NB N0 bs.length ν' δ') b o->(NB N1 bs.length ν' δ') b o:=by
 obtain ⟨more,hmore⟩:=hkeys
 obtain ⟨c0,cN,cbl,cfix,cother,hb0,coo⟩:=hc
 have hlen:bs.length=n+more.length:=by have:=congrArg g4 hmore;simpa [Cf] using this
 have hext: ∀i,i<n->(bs.map (·.1))[i]? =some (fz i):=by
  intro i hi
  rw [hmore,iq (by rw [Cf];exact hi),PH _ _ _ hi]
  simp [fz]
 have hold: ∀i,i<n->ν' i=ν i:=by
  intro i hi
  have h1:=hν i _ (hext i hi)
  rcases h.fix _ _ h1 with h2|⟨h2,_⟩
  ·rw [cfix i hi] at h2;injection h2 with h2;exact h2.symm
  ·rw [cfix i hi] at h2;cases h2
 have hμν: ∀i,i<n->g.μ (fz i)=some (ν i):=fun i hi=>by rw [<-hold i hi];exact hν i _ (hext i hi)
 have hget: ∀k,k<bs.length-> ∃id,(bs.map (·.1))[k]? =some id/\g.μ id=some (ν' k):=fun k hk=>⟨_,dm (by simpa using hk),hν k _ (dm (by simpa using hk))⟩
 have hsub: ∀b o,(NB N0 bs.length ν' δ') b o->(NB N1 bs.length ν' δ') b o:=by
  intro b o hn
  rw [hN1]
  rcases hn with hn|⟨k,hk,rfl⟩|⟨j,hj⟩
  ·exact .inl (by rw [cN];exact hn)
  ·obtain ⟨id,_,hid⟩:=hget k hk
   exact .inr (.inl ⟨id,hid⟩)
  ·obtain ⟨i,hi⟩:=hδ j b hj
   exact .inr (.inr ⟨i,hi⟩)
 have hnew: ∀i,n<=i->i<bs.length->w0.heap.size<=ν' i:=by
  intro i hi hlt
  obtain ⟨id,h1,h2⟩:=hget i hlt
  rcases h.fix _ _ h2 with h3|⟨_,h3⟩
  ·rcases cother _ _ h3 with ⟨j,hj,e⟩|h4
   ·exfalso
    subst e
    have h7:=hext j hj
    have:=(List.getElem?_inj (by simpa using hlt) hnd).1 (h1.trans h7.symm)
    omega
   ·exact h4
  ·rw [c0] at h3;exact h3
 have hdnew: ∀j b,δ' j=some b->w0.heap.size<=b\/ ∃i,δ i=some b:=by
  intro j b hj
  obtain ⟨i,hi⟩:=hδ j b hj
  rcases (h.dnew i b hi).2 with h1|h1
  ·rw [cbl] at h1
   rcases dk.1 h1 with h1|h1
   ·obtain ⟨k,hk,e⟩:=dA.1 h1
    rw [gc] at hk
    subst e
    exact absurd (hμν k hk) (h.dbox i _ _ hi)
   ·obtain ⟨k,_,hk⟩:=List.mem_filterMap.1 h1
    exact .inr ⟨k,hk⟩
  ·rw [c0] at h1;exact .inl h1
 have hl:(bs.map fun b=>b.2.ren keep (cA (bs.map (·.1)))).length=bs.length:=by simp
 have hgb:=hg.bnd
 rw [hl] at hgb
 have hex:Ext (qH n m ν δ) w0 w:=by have:=h.ext;rwa [c0,cbl] at this
 refine ⟨⟨hex,by rw [hl];omega,hold,by rw [hl];exact hnew,hdnew, ?_,fun k b hb=> ?_⟩,hsub⟩
 ·rw [hl]
  refine ⟨hgb.inj,hgb.lt,hgb.dlt,hgb.dinj,hgb.dν,fun b o hn=>⟨gM (hb0.n0 b o hn).1 hex.size,fun i hi e=> ?_,fun j hj=> ?_⟩⟩
  ·by_cases hin:i<n
   ·exact (hb0.n0 b o hn).2.1 i hin (by rw [<-hold i hin];exact e)
   ·have:=hnew i (by omega) hi
    have:=(hb0.n0 b o hn).1
    omega
  ·rcases hdnew j b hj with h1|⟨i,h1⟩
   ·have:=(hb0.n0 b o hn).1;omega
   ·exact (hb0.n0 b o hn).2.2 i h1
 ·have:=hg.boxes k b hb
  rw [hl] at this ⊢
  exact this.mono rfl (fun _ _ _ _=>rfl) (fun b o _ hn=>hsub b o hn) (Gh.le.refl _)
end
section
variable {U:Uni} {V:Env U} {P:Program} {X:Link V P}
theorem RepG.ofAny {w:World} {N:aR} {g:Gh U} {v:Value} {Do:Option Nat} {p:PV U} (h:Rep X w N g v p):RepG X w N g v Do p:=by
 cases p<;>first|exact h|cases h
theorem RepR.ofG {w:World} {N:aR} {g:Gh U} {v:Value} {δ:Nat->Option Nat} {p:PV U} (h:RepG X w N g v (δ 0) p):RepR X w N g v δ p:=by
 cases p with
 |tuple ps=>
  cases (show Rep X w N g v (.tuple ps) from h) with
  |tuple vs _ hl hh=>exact ⟨vs,rfl,hl,fun j p hp=> .ofAny (hh j p hp)⟩
 |_=>exact h
theorem ajP {fn:Func} {tmps:Array Value} {us:List Value} {w:World} (h:(fn.results.toList.mapM (ph tmps)).run P w= .ok us w):
  (results fn tmps).run P w= .ok (if h:us.toArray.size=1 then us.toArray[0] else .tuple us.toArray) w:=by
 rw [ajO,Array.mapM_eq_mapM_toList]
 simp [dK,h]
variable {w0:World} {N0:aR} {n m:Nat} {ν:Nat->Nat} {δ:Nat->Option Nat} {K:d6 U} {c:Ctx}
theorem amK {w:World} {σ:St U} {g:Gh U} {N:aR} {hand:List Bool} {ps:List (PV U)} {us:List Value} {k:List (PV U)->M U} {fp gp:List Loc} {r:MR U} {τ:St U} (hl:us.length=ps.length) (hp: ∀ (j:Nat) p,ps[j]? =some p->Rep X w N g (us.getD j undef) p)
  (hr:(Kv hand ps k).Rel K σ fp r τ gp): ∃qs,(k qs).Rel K σ fp r τ gp/\us.length=qs.length/\ ∀ (j:Nat) p,qs[j]? =some p->Rep X w N g (us.getD j undef) p:=by
 unfold Kv at hr
 cases hb:ay hand.length (ps.length+1) with
 |false=>rw [hb] at hr;exact ⟨ps,hr,hl,hp⟩
 |true=>
  rw [hb] at hr
  simp only [cond_true] at hr
  split at hr
  ·rename_i v
   split at hr
   ·rename_i v' hv
    refine ⟨[v'],hr,hl,fun j p hj=> ?_⟩
    cases j with
    |succ j=>simp at hj
    |zero=>
     simp at hj
     subst hj
     have h0:=hp 0 v rfl
     generalize us.getD 0 undef=u at h0
     unfold PV.asFull at hv
     split at hv
     ·injection hv with hv
      subst hv
      cases h0 with
      |sl A n c e l o val h1 h2 h3 h4 h5=>exact .sl A n c _ _ .full val h1 h2 (by obtain ⟨_,a,b⟩:=h3;rw [a,b]) h4 h5
     ·injection hv with hv
      subst hv
      exact h0
     ·cases hv
   ·exact hr.elim
  ·exact hr.elim
theorem ue {fn:Func} {tm:Array Value} {w:World} {σ:St U} {g:Gh U} {D:Nat->Option Nat} {ο:Nat->Array Value} (hc:CtxOf c w0 N0 n m ν δ ο) (hdom: ∀j b,δ j=some b->j<m) (h:Sim X c tm w σ g D)
  {keep:Bool} {hand:List Bool} {out:Out U} {τ:St U} {fp gp:List Loc} (hr:(my V keep hand fn.results.toList n).Rel K σ fp (.out out) τ gp):
  ∃v,(results fn tm).run P w= .ok v w/\Ret X w0 N0 ν δ ο n m out (.returned v) w:=by
 unfold my at hr
 obtain ⟨ps,us,fp1,hr1,hl1,hp1,hrun⟩:=ajN h _ hr
 obtain ⟨ps,hr1,hl1,hp1⟩:=amK hl1 hp1 hr1
 obtain ⟨q1,σ1,D1,fp2,hr2,hF1,hl2,hq1⟩:=MG hand ps h (fun j=>us.getD j undef) hp1 hr1
 obtain ⟨bs0,fp3,hr3,hk0,hb0'⟩:=Gu _ hr2
 obtain ⟨bs1,fp4,hr4,hb1⟩:=ad5 100 _ bs0 hb0' hr3
 obtain ⟨bs2,σ2,D2,fp5,hr5,hF2,hkeys,hb2⟩:=Gt _ hF1.sim (fun x hx=>hF1.sim.boxes x.1 x.2 (hb1 x hx)) hr4
 have h2:=hF2.sim
 obtain ⟨qs,σ3,fp6,G,δ',hr6,hl6,hSp,_,hδ,hδi,hqs⟩:=MK h2 hand q1 (fun j=>us.getD j undef) (.refl σ2) (fun j p hp=>hF2.rep (hq1 j p hp)) hr5
 cases hh:m6 qs bs2 with
 |false=>rw [hh] at hr6;exact hr6.elim
 |true=>
 rw [hh] at hr6
 obtain ⟨e1,_,_⟩:=hr6
 injection e1 with e1
 subst e1
 have hb2: ∀x∈bs2,mJ X w (c.N g D2) g ο x:=hc.oo▸hb2
 obtain ⟨ν',hν⟩:=PG hb2
 have hgd: ∀j,us.toArray.getD j undef=us.getD j undef:=fun j=>sE j (by simp)
 obtain ⟨hNB,hg⟩:=Gw h2 keep (ο:=ο) (fun b hb=>by rw [<-hc.oo];exact c.oz b (gf h2.ext.size hb)) (vs:=us.toArray) (by simp;omega) hb2 hh (fun j b hj=>by rw [hl6];exact hδ j b hj) hδi (fun j q hq=>by rw [hgd];exact hqs j q hq) hν (F:=fun b=>b.2.ren keep (cA (bs2.map (·.1)))) fun x hx g' t k hμ hbx=>hbx.ren keep _ rfl (fun _ _ _ _=>rfl) (fun _ _ _ h=>h) (.inl hx) hμ
 have hnd:=(wW hh).2.2.1
 obtain ⟨hback,hsub⟩:=KT hc hdom h2 ⟨bs1.map (·.1),by rw [hkeys,List.map_append,hk0]⟩ hnd hν (fun j b hj=>by obtain ⟨_,i,_,hi⟩:=hδ j b hj;exact ⟨i,hi⟩) hg hNB
 suffices hR:RepR X w (NB N0 bs2.length ν' δ') (gB U bs2.length ν') (if h:us.toArray.size=1 then us.toArray[0] else .tuple us.toArray) δ' (pb (PV.renL keep (cA (bs2.map (·.1))) qs)) by
  have hrr:=ajP hrun
  generalize (if h:us.toArray.size=1 then us.toArray[0] else .tuple us.toArray)=v at hR hrr
  have hbl:(bs2.map fun b=>b.2.ren keep (cA (bs2.map (·.1)))).length=bs2.length:=by simp
  have hret:Ret X w0 N0 ν δ ο n m (.ret (pb (PV.renL keep (cA (bs2.map (·.1))) qs)) (bs2.map fun b=>b.2.ren keep (cA (bs2.map (·.1))))) (.returned v) w:=by
   simp only [Ret]
   refine ⟨ν',δ',hback, ?_⟩
   rw [hbl];exact hR
  exact ⟨v,hrr,hret⟩
 have hbl:(bs2.map fun b=>b.2.ren keep (cA (bs2.map (·.1)))).length=bs2.length:=by simp
 have hargs: ∀ (j:Nat) p,(PV.renL keep (cA (bs2.map (·.1))) qs)[j]? =some p->RepG X w (NB N0 bs2.length ν' δ') (gB U bs2.length ν') (us.toArray.getD j undef) (δ' j) p:=fun j p hp=>by
  have:=hg.args j p hp
  rw [hbl] at this
  exact this.lessN hsub
 have hlr:(PV.renL keep (cA (bs2.map (·.1))) qs).length=us.length:=by rw [je];simp;omega
 generalize PV.renL keep (cA (bs2.map (·.1))) qs=rs at hargs hlr
 by_cases h1:us.toArray.size=1
 ·rw [dif_pos h1]
  have hu1:us.length=1:=by simpa using h1
  obtain ⟨p,rfl⟩: ∃p,rs=[p]:=by
   match rs,hlr with
   |[p],_=>exact ⟨p,rfl⟩
   |[],h=>simp at h;omega
   |_::_::_,h=>simp at h;omega
  have:=hargs 0 p rfl
  have hu:us.toArray.getD 0 undef=us.toArray[0]:=by simp [Array.getD,h1]
  rw [hu] at this
  exact .ofG this
 ·rw [dif_neg h1]
  have hone:pb rs= .tuple rs:=by
   match rs,hlr with
   |[],_=>rfl
   |[p],h=>simp at h h1;omega
   |_::_::_,_=>rfl
  rw [hone]
  exact ⟨us.toArray,rfl,by simpa using hlr.symm,hargs⟩
theorem HL {tm:Array Value} {w:World} {σ:St U} {g:Gh U} {D:Nat->Option Nat} {ο:Nat->Array Value} (hc:CtxOf c w0 N0 n m ν δ ο) (hdom: ∀j b,δ j=some b->j<m) (h:Sim X c tm w σ g D)
  {v:PV U} {val:Value} (hv:Rep X w (c.N g D) g val v) {out:Out U} {τ:St U} {fp gp:List Loc} (hr:(HK v n).Rel K σ fp (.out out) τ gp):
  Ret X w0 N0 ν δ ο n m out (.panicked [{v:=val,recovered:=false}]) w:=by
 unfold HK at hr
 obtain ⟨bs0,fp3,hr3,hk0,hb0'⟩:=Gu _ hr
 obtain ⟨bs2,σ2,D2,fp5,hr5,hF2,hkeys,hb2⟩:=Gt _ h (fun x hx=>h.boxes x.1 x.2 (hb0' x hx)) hr3
 obtain ⟨q,σ3,D3,fp6,hr6,hF3,hq,_⟩:=p9 v hF2.sim (hF2.rep hv) hr5
 cases hh:m6 [q] bs2 with
 |false=>simp only [hh] at hr6;exact hr6.elim
 |true=>
 simp only [hh] at hr6
 obtain ⟨e1,_,_⟩:=hr6
 injection e1 with e1
 subst e1
 have hb3: ∀x∈bs2,mJ X w (c.N g D3) g ο x:=fun x hx=>by
  obtain ⟨k,hk,hbx⟩:=hb2 x hx
  rw [hc.oo] at hbx
  exact ⟨k,hk,hbx.mono rfl (fun _ _ _ _=>rfl) (fun b o _ hn=>by
   rcases hn with hn|hn|⟨i,hi⟩
   ·exact .inl hn
   ·exact .inr (.inl hn)
   ·exact .inr (.inr ⟨i,hF3.D i b hi⟩)) (Gh.le.refl g)⟩
 have hkk:bs2.map (·.1)=eA (fz 0) n:=hkeys.trans hk0
 have hlen:bs2.length=n:=by have:=congrArg g4 hkk;simpa [Cf] using this
 have hν: ∀ (k:Nat) id,(bs2.map (·.1))[k]? =some id->g.μ id=some (ν k):=by
  intro k id hid
  obtain ⟨x,hx,rfl⟩:=dA.1 (fH hid)
  obtain ⟨kb,hk,_⟩:=hb3 x hx
  have hkn:k<n:=by have:=(cD.1 hid).1;simp at this;omega
  rw [hkk,PH _ _ _ hkn] at hid
  injection hid with hid
  have hfix:c.fix x.1=some (ν k):=by
   rw [<-hid,<-hc.fix k hkn]
   simp [fz]
  rcases h.fix _ _ hk with h2|⟨h2,_⟩
  ·rw [hfix] at h2;rw [hk,<-h2]
  ·rw [hfix] at h2;cases h2
 obtain ⟨hNB,hg⟩:=Gw (G:=[]) (δ:=fun _=>none) hF3.sim false (ο:=ο) (fun b hb=>by rw [<-hc.oo];exact c.oz b (gf h.ext.size hb)) (vs:= #[val]) (by simp) hb3 hh (by simp) (by simp) (fun j q' hq'=>by
  cases j with
  |zero=>simp at hq';subst hq';exact .of hq
  |succ j=>simp at hq') hν (F:=fun b=>b.2.ren false (cA (bs2.map (·.1)))) fun x hx g' t k hμ hbx=>hbx.ren false _ rfl (fun _ _ _ _=>rfl) (fun _ _ _ h=>h) (.inl hx) hμ
 obtain ⟨hback,hsub⟩:=KT hc hdom hF3.sim ⟨[],by rw [hkk];simp⟩ (wW hh).2.2.1 hν (by simp) hg hNB
 refine ⟨by simp [hlen],val,rfl,hback, ?_⟩
 have hbl:(bs2.map fun b=>b.2.ren false (cA (bs2.map (·.1)))).length=bs2.length:=by simp
 have:=hg.args 0 _ rfl
 rw [hbl] at this
 have:=this.lessN hsub
 rw [hlen] at this
 have hf:(q.ren false (cA (bs2.map (·.1)))).notFresh=true:=by
  rw [C9]
  cases q<;>first|rfl|cases hq
 exact this.rep hf
theorem SX (hm:P.follows .mixedOrders=true) (hI:nS X) {S:Side U} (hS:S.rcv=none) (hpin:S.pin=fun _=>false) {R:Type} {C:Oracle U R} (hC:C.Tells (d5 X)) {f:FuncId} {fn:Func} (hf:P.funcs[f]? =some fn)
  (hname:(fn.name== "runtime.NumGoroutine")=false) (hbody:fn.body.isNone=false) (hnt:fn.ntmps=S.nt) (hlow:S.nt<=1000000) {args:List (PV U)} {boxes:List (Box U)} (hargs:args.length<=S.nt)
  {ann:Nat->Option Ann} {fuel:Nat} {keep:Bool} {hand:List Bool} {κ:Out U->Option R} {x:R} (h:uh V S C ann fuel keep hand fn args boxes κ=some x): ∃out,κ out=some x/\d5 X f args boxes out:=by
 obtain ⟨code,hcode⟩: ∃code,fn.body=some code:=by
  cases hb:fn.body with
  |none=>rw [hb] at hbody;cases hbody
  |some code=>exact ⟨code,rfl⟩
 unfold uh kw at h
 rw [hcode] at h
 obtain ⟨e,τ,hbig,hk⟩:=Df (d5 X) V S ann hC fuel code h
 have key: ∀ {M:M U} {out:Out U} {τ0:St U} {gp:List Loc},M.Rel (d5 X) τ [] (.out out) τ0 gp->(∀ (w:World) (vs:Array Value) (N0:aR) (ν:Nat->Nat) (δ:Nat->Option Nat) (ο:Nat->Array Value) (hg:Given X w vs N0 ν δ ο args boxes),
   Lands X (kl w N0 boxes.length args.length ν δ ο hg.oz S.nt hlow hg.bnd X.gblk hg.glob) [] e τ (bodyPost P fn (Ret X w N0 ν δ ο boxes.length args.length out)))->d5 X f args boxes out:=by
  intro M out τ0 gp _ hl
  refine ⟨⟨fn,hf,hname,hbody⟩,fun w vs N0 ν δ ο hg=> ?_⟩
  suffices hgoal:Calls P f vs w (Ret X w N0 ν δ ο boxes.length args.length out) from hgoal.mono fun e w h=>Ret.full h
  refine calls_of_wp hf hcode ?_
  have hs:=Dy hg hargs hlow
  rw [hnt]
  exact rB hm (qM hI hS fun d hd=>by rw [hpin] at hd;cases hd) rfl hbig _ w _ _ _ hs (hl w vs N0 ν δ ο hg)
 cases e with
 |exit id=>cases hk
 |normal=>
  obtain ⟨r,τ0,τ1,gp,hr,ht,hfin⟩:=kx hC _ hk (St.eqv.refl τ)
  cases r with
  |out o=>
   refine ⟨o,hfin,key hr fun w vs N0 ν δ ο hg a' w' g' D' hd hs=> ?_⟩
   obtain ⟨v,h1,h2⟩:=ue nP hg.dom hs hr
   exact ⟨hd,v,h1,h2⟩
  |_=>cases hfin
 |ret=>
  obtain ⟨r,τ0,τ1,gp,hr,ht,hfin⟩:=kx hC _ hk (St.eqv.refl τ)
  cases r with
  |out o=>
   refine ⟨o,hfin,key hr fun w vs N0 ν δ ο hg a' w' g' D' hd hs=> ?_⟩
   obtain ⟨v,h1,h2⟩:=ue nP hg.dom hs hr
   exact ⟨hd,v,h1,h2⟩
  |_=>cases hfin
 |panic v=>
  obtain ⟨r,τ0,τ1,gp,hr,ht,hfin⟩:=kx hC _ hk (St.eqv.refl τ)
  cases r with
  |out o=>
   refine ⟨o,hfin,key hr fun w vs N0 ν δ ο hg a' w' g' D' hd hs val hval=> ?_⟩
   exact ⟨hd,HL nP hg.dom hs hval hr⟩
  |_=>cases hfin
end
section
variable {U:Uni} {R:Type} (V:Env U) (S:Side U) (C:Oracle U R) (ann:Nat->Option Ann) (fuel:Nat)
def SK (o:Oper):Option Tmp:=
 match o.dst,o.op,o.guard with
 |some d,.call c,.none=>match c.callee with
  | .builtin .recover=>some d
  |_=> .none
 |_,_,_=> .none
def SZ (v:PV U):Code->St U->(Ex U->St U->Option R)->Option R
 | .seq (.region _ ops draw) b,σ,κ=>match ops.toList with
  |o::more=>match SK o with
   |some d=>bif !draw&&(Nat.blt d S.nt&&more.all (cV S.nt)) then ui V S C ops.toList more [] (σ.setR d v) fun
     | .normal,σ',_=>run V S C ann fuel b σ' κ
     |_,_,_=> .none
    else .none
   | .none=> .none
  |[]=> .none
 |_,_,_=> .none
def IF (keep:Bool) (hand:List Bool) (fn:Func) (v:PV U) (args:List (PV U)) (boxes:List (Box U)) (κ:Out U->Option R):Option R:=
 SZ V S C ann fuel v (kw fn) (kR args boxes) (kF V C keep hand fn boxes.length κ)
def FW:List Oper->Option (Oper×Tmp)
 |[o,q]=>match o.dst,o.guard,q.dst,q.op,q.guard with
  |some m,.none,.none,.defer c,.none=>match c.callee with
   | .value (.tmp n)=>bif ay m n&&c.args.isEmpty then some (o,n) else .none
   |_=> .none
  |_,_,_,_,_=> .none
 |_=> .none
def PV.pinned:PV U->Bool
 | .ptr id _=>dr 1000000 id
 |_=>false
def ra:Code->St U->(Ex U->St U->Option R)->(FuncId->List (PV U)->Ex U->St U->Option R)->Option R
 | .seq a b,σ,κ0,κ1=>match a with
  | .region id ops draw=>match FW ops.toList with
   |some (o,n)=>bif !draw&&cV S.nt o then (dt V S o).cps C σ [] fun
     | .done,σ',_=>match σ'.r n with
      | .func h [] caps=>bif caps.all PV.pinned then run V {S with pin:=fun _=>false} C ann fuel b σ' (κ1 h caps) else .none
      |_=> .none
     |_,_,_=> .none
    else .none
   | .none=>run V S C ann fuel (.region id ops draw) σ fun
    | .normal,σ'=>ra b σ' κ0 κ1
    |e,σ'=>κ0 e σ'
  |a=>run V S C ann fuel a σ fun
   | .normal,σ'=>ra b σ' κ0 κ1
   |e,σ'=>κ0 e σ'
 |_,_,_,_=> .none
def kD (Cd:PV U->Oracle U R) (keep:Bool) (hand:List Bool) (fn:Func) (nb:Nat) (κ:Out U->Option R) (h:FuncId) (caps:List (PV U)):Ex U->St U->Option R
 | .normal,σ=>(lk (PV.idsL caps) fun _=>lU (fun _=>0) (fun _=>[]) [] .none (.func h [] caps) []).cps (Cd .nilIface) σ [] fun
  | .done,σ',_=>(my V keep hand fn.results.toList nb).cps C σ' [] (fin κ)
  |_,_,_=> .none
 | .ret,σ=>(lk (PV.idsL caps) fun _=>lU (fun _=>0) (fun _=>[]) [] .none (.func h [] caps) []).cps (Cd .nilIface) σ [] fun
  | .done,σ',_=>(my V keep hand fn.results.toList nb).cps C σ' [] (fin κ)
  |_,_,_=> .none
 | .panic v,σ=>match v with
  | .iface t (.int k n)=>(lk (PV.idsL caps) fun _=>lU (fun _=>0) (fun _=>[]) [] .none (.func h [] caps) []).cps (Cd (.iface t (.int k n))) σ [] fun
   | .done,σ',_=>(my V keep hand fn.results.toList nb).cps C σ' [] (fin κ)
   |_,_,_=> .none
  |_=> .none
 | .exit _,_=> .none
def Ny:Code->List Bool->List (St U->Option R)->(Nat->Option Ann)->(Ex U->St U->Option R)->(FuncId->List (PV U)->Ex U->St U->Option R)->Ex U->St U->Option R
 | .seq a b,false::p,rs,an,κ0,κ1=>m8 V S C ann fuel a p rs an fun
  | .normal,σ'=>ra V S C ann fuel b σ' κ0 κ1
  |e,σ'=>κ0 e σ'
 | .seq _ b,true::p,rs,an,κ0,κ1=>Ny b p rs an κ0 κ1
 |_,_,_,_,κ0,_=>κ0
def IE (Cd:PV U->Oracle U R) (keep:Bool) (hand:List Bool) (fn:Func) (args:List (PV U)) (boxes:List (Box U)) (κ:Out U->Option R):Option R:=
 ra V S C ann fuel (kw fn) (kR args boxes) (kF V C keep hand fn boxes.length κ) (kD V C Cd keep hand fn boxes.length κ)
end
section
variable {U:Uni} {V:Env U} {P:Program} {X:Link V P}
inductive RcvOK:PV U->FrameMode->FrameMode->Prop
 |nil:RcvOK .nilIface .returning .returning
 |err (t:TypeId) (k:IntKind) (n:Int):RcvOK (.iface t (.int k n)) (.panicking [{v:= .iface t (.int k n),recovered:=false}]) (.panicking [{v:= .iface t (.int k n),recovered:=true}])
def mK (P:Program) (u u':FrameMode):FuncId->Array Value->World->(Ending->World->Prop)->Prop:=fun f vs w R=>CallsD P f vs u w fun e u2 w'=>u2=u'/\R e w'
theorem amP {ops:Array Oper} {cs:List Frame} {Q:Exit->Act->List Frame->World->Prop} (hQ: ¬LetsOut (fun e a' w'=>Q e a' cs w')): ∀ (l:List Nat) (a:Act) (w:World),wpOps P ops (fun e a' w'=>Q e a' cs w') l a w->wpOpsS P ops Q l a cs w:=by
 intro l
 induction l with
 |nil=>intro a w h;exact h
 |cons i l ih=>
  intro a w h
  simp only [wpOps,wpOpsS] at h ⊢
  cases ho:ops[i]? with
  |none=>rw [ho] at h;exact ih _ _ h
  |some o=>
   rw [ho] at h
   simp only at h ⊢
   split
   ·rename_i hw
    rw [if_pos hw] at h
    have h:=h.resolve_right fun h=>hQ h.2
    have h:=Oper.wp_mono ih h
    unfold Oper.wp at h
    split
    ·rename_i w' hrun
     rw [hrun] at h
     exact h.elim
    ·exact h
   ·rename_i hw
    rw [if_neg hw] at h
    exact ih _ _ h
theorem ajV (hm:P.follows .mixedOrders=true) (hI:nS X) {S:Side U} (hS:S.rcv=none) (hpin:S.pin=fun _=>false) {R:Type} {C:Oracle U R} (hC:C.Tells (d5 X)) {f:FuncId} {fn:Func} (hf:P.funcs[f]? =some fn)
  (hname:(fn.name== "runtime.NumGoroutine")=false) (hbody:fn.body.isNone=false) (hnt:fn.ntmps=S.nt) (hlow:S.nt<=1000000) {v:PV U} {u u':FrameMode} (hv:RcvOK v u u') {args:List (PV U)} {boxes:List (Box U)} (hargs:args.length<=S.nt)
  {ann:Nat->Option Ann} {fuel:Nat} {keep:Bool} {hand:List Bool} {κ:Out U->Option R} {x:R} (h:IF V S C ann fuel keep hand fn v args boxes κ=some x): ∃out,κ out=some x/\lR X (mK P u u') f args boxes out:=by
 obtain ⟨code,hcode⟩: ∃code,fn.body=some code:=by
  cases hb:fn.body with
  |none=>rw [hb] at hbody;cases hbody
  |some code=>exact ⟨code,rfl⟩
 unfold IF kw at h
 rw [hcode] at h
 simp only at h
 unfold SZ at h
 split at h
 case h_2=>cases h
 rename_i id ops draw b
 split at h
 case h_2=>cases h
 rename_i o more hops
 split at h
 case h_2=>cases h
 rename_i d hrec
 cases hc:(!draw&&(Nat.blt d S.nt&&more.all (cV S.nt))) with
 |false=>rw [hc] at h;cases h
 |true=>
 rw [hc] at h
 simp only [cond_true] at h
 simp only [aF,kn] at hc
 obtain ⟨hdraw,hd,hall⟩:=hc
 subst hdraw
 have hd:d<S.nt:=by simpa using hd
 unfold SK at hrec
 obtain ⟨dst,op,ty,pos,after,gd⟩:=o
 simp only at hrec
 split at hrec
 case h_2=>cases hrec
 rename_i d0 cl
 split at hrec
 case h_2=>cases hrec
 rename_i hcl
 injection hrec with hrec
 subst hrec
 obtain ⟨e1,fps,τ0,τ1,hops1,ht1,hk1⟩:=SY (d5 X) V S hC ops.toList more h (St.eqv.refl _)
 cases e1 with
 |exit id=>cases hk1
 |ret=>cases hk1
 |panic v=>cases hk1
 |normal=>
 simp only at hk1
 obtain ⟨e,τ,hbig,hk⟩:=Df (d5 X) V S ann hC fuel b hk1
 have hsz:ops.size=more.length+1:=by have:=congrArg g4 hops;simpa using this
 have key: ∀ {out:Out U},(∀ (w:World) (vs:Array Value) (N0:aR) (ν:Nat->Nat) (δ:Nat->Option Nat) (ο:Nat->Array Value) (hg:Given X w vs N0 ν δ ο args boxes),
   Lands X (kl w N0 boxes.length args.length ν δ ο hg.oz S.nt hlow hg.bnd X.gblk hg.glob) [] e τ (bodyPost P fn (Ret X w N0 ν δ ο boxes.length args.length out)))->lR X (mK P u u') f args boxes out:=by
  intro out hl
  refine ⟨⟨fn,hf,hname,hbody⟩,fun w vs N0 ν δ ο hg=> ?_⟩
  suffices hgoal:mK P u u' f vs w (Ret X w N0 ν δ ο boxes.length args.length out) from CallsD.mono hgoal fun e u2 w2 h=>⟨h.1,Ret.full h.2⟩
  refine callsD_of_wpS hf hcode fun c₀ cs hu=> ?_
  have hs:=Dy hg hargs hlow
  rw [hnt]
  have hl:=hl w vs N0 ν δ ο hg
  generalize hcx:kl w N0 boxes.length args.length ν δ ο hg.oz S.nt hlow hg.bnd X.gblk hg.glob=c at hs hl
  have hcnt:c.nt=S.nt:=by rw [<-hcx];rfl
  have hOS:pI X (d5 X) S c:=qM hI hS fun d hd=>by rw [hpin] at hd;cases hd
  obtain ⟨val,cs2,hrv,hrep⟩: ∃val cs2,(match recoverD (c₀::cs) with|some (v,cs')=>v=val/\cs'=cs2|none=>val= .nilIface/\cs2=c₀::cs)/\(∃c1:Frame,cs2={c₀ with mode:=u'}::cs)/\ ∀ (w:World) (N:aR) (g:Gh U),Rep X w N g val v:=by
   cases hv with
   |nil=>
    refine ⟨.nilIface,c₀::cs, ?_,⟨c₀, ?_⟩,fun _ _ _=> .nilIface⟩
    ·simp [recoverD,hu]
    ·rw [<-hu]
   |err t k n=>
    refine ⟨.iface t (.int k n),_, ?_,⟨c₀,rfl⟩,fun _ _ _=> .iface _ _ _ (.int _ _)⟩
    simp [recoverD,hu]
  obtain ⟨⟨_,hcs2⟩,hrep⟩:=hrep
  refine wpS_seq (wpS_region ?_)
  rw [hsz,List.range_eq_range',List.range'_succ]
  have h0:ops[0]? =some ⟨some d0,.call cl,ty,pos,after,none⟩:=by rw [<-Array.getElem?_toList,hops];rfl
  simp only [wpOpsS,h0]
  have hrun:(execOp (Act.eval ⟨vs++Array.replicate (S.nt-vs.size) undef,[]⟩) ⟨some d0,.call cl,ty,pos,after,none⟩).run P w= .ok .recover w:=by
   rw [S2 hcl]
   simp [builtin]
  rw [if_pos (by simp [Region.wanted]),hrun]
  simp only
  have hnext:wpOpsS P ops (Exit.thenS (b.wpS P (bodyPostS P fn c₀ cs fun e u2 w'=>u2=u'/\Ret X w N0 ν δ ο boxes.length args.length out e w')) (bodyPostS P fn c₀ cs fun e u2 w'=>u2=u'/\Ret X w N0 ν δ ο boxes.length args.length out e w')) (List.range' (0+1) more.length)
    (Act.put ⟨vs++Array.replicate (S.nt-vs.size) undef,[]⟩ (some d0) val) cs2 w:=by
   have hs1:=hs.put (d:=d0) (by rw [hcnt];exact hd) (hrep w _ _)
   have hLO: ∀ {next:Act->List Frame->World->Prop},¬LetsOut (fun e a' w'=>Exit.thenS next (bodyPostS P fn c₀ cs fun e u2 w'=>u2=u'/\Ret X w N0 ν δ ο boxes.length args.length out e w') e a' cs2 w'):=by
    rintro next ⟨a',w',u2,_,hq⟩
    exact hq
   refine amP hLO _ _ _ ?_
   refine UO hOS more 1 _ w _ _ _ fps (by rw [hops];rfl) (by rw [hcnt];exact hall) hs1 hops1 ?_
   intro a2 w2 g2 D2 hd2 hs2
   simp only [Exit.thenS]
   refine wpS_of_wp (rB hm hOS hcnt hbig a2 w2 g2 D2 _ (hs2.eqv ht1) ?_)
   intro a3 w3 g3 D3 hd3 hs3
   have hd0:a3.defers=[]:=hd3.trans hd2
   have hb:=hl a3 w3 g3 D3 hd0 hs3
   rw [hcs2]
   cases e with
   |normal=>obtain ⟨q1,v1,q2,q3⟩:=hb;exact ⟨q1,u',rfl,v1,q2,rfl,q3⟩
   |ret=>obtain ⟨q1,v1,q2,q3⟩:=hb;exact ⟨q1,u',rfl,v1,q2,rfl,q3⟩
   |exit id=>exact hb.elim
   |panic pv=>intro val' hval';obtain ⟨q1,q3⟩:=hb val' hval';exact ⟨q1,u',rfl,rfl,q3⟩
  cases hrd:recoverD (c₀::cs) with
  |none=>rw [hrd] at hrv;obtain ⟨rfl,rfl⟩:=hrv;exact hnext
  |some p=>obtain ⟨v1,cs1⟩:=p;rw [hrd] at hrv;obtain ⟨rfl,rfl⟩:=hrv;exact hnext
 cases e with
 |exit id=>cases hk
 |normal=>
  obtain ⟨r,τ0,τ1,gp,hr,ht,hfin⟩:=kx hC _ hk (St.eqv.refl τ)
  cases r with
  |out o=>
   refine ⟨o,hfin,key fun w vs N0 ν δ ο hg a' w' g' D' hd hs=> ?_⟩
   obtain ⟨v,h1,h2⟩:=ue nP hg.dom hs hr
   exact ⟨hd,v,h1,h2⟩
  |_=>cases hfin
 |ret=>
  obtain ⟨r,τ0,τ1,gp,hr,ht,hfin⟩:=kx hC _ hk (St.eqv.refl τ)
  cases r with
  |out o=>
   refine ⟨o,hfin,key fun w vs N0 ν δ ο hg a' w' g' D' hd hs=> ?_⟩
   obtain ⟨v,h1,h2⟩:=ue nP hg.dom hs hr
   exact ⟨hd,v,h1,h2⟩
  |_=>cases hfin
 |panic v=>
  obtain ⟨r,τ0,τ1,gp,hr,ht,hfin⟩:=kx hC _ hk (St.eqv.refl τ)
  cases r with
  |out o=>
   refine ⟨o,hfin,key fun w vs N0 ν δ ο hg a' w' g' D' hd hs val hval=> ?_⟩
   exact ⟨hd,HL nP hg.dom hs hval hr⟩
  |_=>cases hfin
end
section
variable {U:Uni} {V:Env U} {P:Program} {X:Link V P}
def Ctx.refix (c:Ctx) (μ:Nat->Option Nat) (L:List Nat) (hnt:c.nt<=1000000) (hL: ∀id∈L,1000000<=id):Ctx:=
 {c with
  fix:=fun id=>if id∈L then μ id else c.fix id
  low:=fun id k h=>by
   split at h
   ·rename_i h1;exact ⟨hL id h1,gf hnt (hL id h1)⟩
   ·exact c.low id k h}
theorem Sim.refix {c:Ctx} {tm:Array Value} {w:World} {σ:St U} {g:Gh U} {D:Nat->Option Nat} (h:Sim X c tm w σ g D) {L:List Nat} {hnt:c.nt<=1000000} {hL: ∀id∈L,1000000<=id}:
  Sim X (c.refix g.μ L hnt hL) tm w σ g D where
 nt:=h.nt
 regs:=h.regs
 boxes:=h.boxes
 dom:=h.dom
 inj:=h.inj
 new:=h.new
 objs:=h.objs
 nobj:=h.nobj
 dinj:=h.dinj
 dnew:=h.dnew
 dbox:=h.dbox
 ext:=h.ext
 gl:=h.gl
 fix:=fun id k hk=>by
  simp only [Ctx.refix]
  by_cases hin:id∈L
  ·rw [if_pos hin];exact .inl hk
  ·rw [if_neg hin];exact h.fix id k hk
theorem CtxOf.refix {c:Ctx} {tm:Array Value} {w:World} {σ:St U} {g:Gh U} {D:Nat->Option Nat} (h:Sim X c tm w σ g D) {L:List Nat} {hnt:c.nt<=1000000} {hL: ∀id∈L,1000000<=id} (hLμ: ∀id∈L,∃b,g.μ id=some b)
  {w0:World} {N0:aR} {n m:Nat} {ν:Nat->Nat} {δ:Nat->Option Nat} {ο:Nat->Array Value} (hc:CtxOf c w0 N0 n m ν δ ο):CtxOf (c.refix g.μ L hnt hL) w0 N0 n m ν δ ο where
 cw:=hc.cw
 cN:=hc.cN
 bl:=hc.bl
 fix i hi:=by
  simp only [Ctx.refix]
  by_cases hin:fz i∈L
  ·rw [if_pos hin]
   obtain ⟨b,hb⟩:=hLμ _ hin
   rcases h.fix _ _ hb with h1|⟨h1,_⟩
   ·rw [hb,<-h1];exact hc.fix i hi
   ·rw [hc.fix i hi] at h1;cases h1
  ·rw [if_neg hin];exact hc.fix i hi
 other id k hk:=by
  simp only [Ctx.refix] at hk
  by_cases hin:id∈L
  ·rw [if_pos hin] at hk
   rcases h.fix _ _ hk with h1|⟨_,h1⟩
   ·exact hc.other id k h1
   ·rw [hc.cw] at h1;exact .inr h1
  ·rw [if_neg hin] at hk;exact hc.other id k hk
 bnd:=hc.bnd
 oo:=hc.oo
def DN (c':Ctx) (caps:List (PV U)) (us:Array Value):Prop:=us.size=caps.length/\ ∀ (j:Nat) p,caps[j]? =some p-> ∃id off b,p= .ptr id off/\c'.fix id=some b/\us.getD j undef= .pointer (some ⟨b,off,none⟩)
def DP (X:Link V P) (S:Side U) (code:Code) (σ:St U) (h:FuncId) (caps:List (PV U)) (e:Ex U) (τ:St U):Prop:=
 ∀ (c:Ctx),PinOK S c->c.nt=S.nt-> ∀ (a:Act) (w:World) (g:Gh U) (D:Nat->Option Nat) (Q:Exit->Act->World->Prop),Sim X c a.tmps w σ g D->a.defers=[]->
  (∀ (us:Array Value) (c':Ctx),(∀w0 N0 n m ν δ ο,CtxOf c w0 N0 n m ν δ ο->CtxOf c' w0 N0 n m ν δ ο)->c'.nt=c.nt->DN c' caps us->Lands X c' [{target:= .fn (.func h) us,args:= #[]}] e τ Q)->code.wp P Q a w
theorem aaZ {l:List Oper} {o:Oper} {n:Tmp} (h:FW l=some (o,n)): ∃q cl,l=[o,q]/\o.dst=some n/\o.guard=none/\q.dst=none/\q.op= .defer cl/\q.guard=none/\cl.callee= .value (.tmp n)/\cl.args= #[]:=by
 unfold FW at h
 split at h
 case h_2=>cases h
 rename_i o' q
 split at h
 case h_2=>cases h
 rename_i m cl h1 h2 h3 h4 h5
 split at h
 case h_2=>cases h
 rename_i n' hcl
 cases hb:(ay m n'&&cl.args.isEmpty) with
 |false=>rw [hb] at h;cases h
 |true=>
 rw [hb] at h
 injection h with h
 injection h with e1 e2
 subst e1;subst e2
 simp only [aF] at hb
 have hmn:m=n':=by simpa using hb.1
 subst hmn
 exact ⟨q,cl,rfl,h1,h2,h3,h4,h5,hcl,by simpa using hb.2⟩
theorem ajU (hm:P.follows .mixedOrders=true) (hI:nS X) {S:Side U} (hS:S.rcv=none) (hlow:S.nt<=1000000) {R:Type} {C:Oracle U R} (hC:C.Tells (d5 X)) {ann:Nat->Option Ann} {fuel:Nat}:
  ∀ (code:Code) {σ:St U} {κ0:Ex U->St U->Option R} {κ1:FuncId->List (PV U)->Ex U->St U->Option R} {x:R},ra V S C ann fuel code σ κ0 κ1=some x->
   (∃e τ,e≠ .normal/\κ0 e τ=some x/\ ∀c,PinOK S c->c.nt=S.nt->yJ X c none code σ e τ)\/
   (∃h caps e τ,κ1 h caps e τ=some x/\DP X S code σ h caps e τ):=by
 intro code
 induction code with
 |seq a b iha ihb=>
  intro σ κ0 κ1 x h
  have step:run V S C ann fuel a σ (fun| .normal,σ'=>ra V S C ann fuel b σ' κ0 κ1|e,σ'=>κ0 e σ')=some x->
    (∃e τ,e≠ .normal/\κ0 e τ=some x/\ ∀c,PinOK S c->c.nt=S.nt->yJ X c none (.seq a b) σ e τ)\/
    (∃h caps e τ,κ1 h caps e τ=some x/\DP X S (.seq a b) σ h caps e τ):=by
   intro h
   obtain ⟨e,τ,hbig,hk⟩:=Df (d5 X) V S ann hC fuel a h
   have early:e≠ .normal->κ0 e τ=some x->_:=fun he hk=>(.inl ⟨e,τ,he,hk,fun c hP hnt=>rB hm (qM hI hS hP) hnt (.seqE a b _ _ _ hbig he)⟩:
    (∃e τ,e≠ .normal/\κ0 e τ=some x/\ ∀c,PinOK S c->c.nt=S.nt->yJ X c none (.seq a b) σ e τ)\/(∃h caps e τ,κ1 h caps e τ=some x/\DP X S (.seq a b) σ h caps e τ))
   cases e with
   |normal=>
    rcases ihb hk with ⟨e',τ',he',hk',hB⟩|⟨hh,caps,e',τ',hk',hB⟩
    ·exact .inl ⟨e',τ',he',hk',fun c hP hnt a' w g D Q hs hl=>wp_seq (rB hm (qM hI hS hP) hnt hbig a' w g D _ hs fun a2 w2 g2 D2 hd2 hs2=>hB c hP hnt a2 w2 g2 D2 Q hs2 (by rw [hd2];exact hl))⟩
    ·exact .inr ⟨hh,caps,e',τ',hk',fun c hP hnt a' w g D Q hs hd hl=>wp_seq (rB hm (qM hI hS hP) hnt hbig a' w g D _ hs fun a2 w2 g2 D2 hd2 hs2=>hB c hP hnt a2 w2 g2 D2 Q hs2 (hd2.trans hd) hl)⟩
   |exit id=>exact early (by simp) hk
   |ret=>exact early (by simp) hk
   |panic v=>exact early (by simp) hk
  clear iha
  unfold ra at h
  split at h
  case h_2=>exact step h
  rename_i id ops draw
  split at h
  case h_2=>exact step h
  rename_i o n hdfr
  obtain ⟨q,cl,hops,ho1,ho2,hq1,hq2,hq3,hcl,hargs⟩:=aaZ hdfr
  cases hc:(!draw&&cV S.nt o) with
  |false=>rw [hc] at h;cases h
  |true=>
  rw [hc] at h
  simp only [cond_true] at h
  simp only [aF,kn] at hc
  obtain ⟨hdraw,hdo⟩:=hc
  subst hdraw
  obtain ⟨r,τ0,τ,gp,hrel,ht,hk⟩:=kx hC _ h (St.eqv.refl σ)
  cases r with
  |raise v=>cases hk
  |out o=>cases hk
  |done=>
  simp only at hk
  split at hk
  case h_2=>cases hk
  rename_i hh caps hfun
  cases hp:caps.all PV.pinned with
  |false=>rw [hp] at hk;cases hk
  |true=>
  rw [hp] at hk
  simp only [cond_true] at hk
  obtain ⟨e,τ2,hbig,hk2⟩:=Df (d5 X) V {S with pin:=fun _=>false} ann hC fuel b hk
  refine .inr ⟨hh,caps,e,τ2,hk2,fun c hP hnt a w g D Q hs hdef hl=>wp_seq (wp_region ?_)⟩
  have hsz:ops.size=2:=by have:=congrArg g4 hops;simpa using this
  have h0:ops[0]? =some o:=by rw [<-Array.getElem?_toList,hops];rfl
  have h1:ops[1]? =some q:=by rw [<-Array.getElem?_toList,hops];rfl
  rw [hsz,show d9 2=[0,1] from rfl]
  simp only [wpOps,h0,h1]
  rw [if_pos (by simp [Region.wanted,ho2])]
  refine .inl (qM hI hS hP o a w σ g D .done τ0 [] gp _ _ (by rw [hnt];exact hdo) hs hrel ⟨fun _ a2 w2 g2 D2 hd2 hs2=> ?_,fun v hv=>by cases hv⟩)
  rw [if_pos (by simp [Region.wanted,hq3])]
  refine .inl ?_
  have hs3:=hs2.eqv ht
  have hR:=hs3.regs n
  rw [hfun] at hR
  generalize hev:a2.tmps.getD n undef=ev at hR
  cases hR with
  |func _ _ _ vs us hvs hus hf1 hf2=>
  have hvs0:vs= #[]:=by
   have:vs.size=0:=by simpa using hvs
   exact Array.eq_empty_of_size_eq_zero this
  subst hvs0
  obtain ⟨qd,qo,qt,qp,qa,qg⟩:=q
  simp only at hq1 hq2 hq3
  subst hq1;subst hq2;subst hq3
  have hrun:(execOp a2.eval ⟨none,.defer cl,qt,qp,qa,none⟩).run P w2= .ok (.defer {target:= .fn (.func hh) us,args:= #[]}) w2:=by
   have hev':a2.eval (.tmp n)= .func (.func hh) #[] us:=hev
   simp [execOp,resolve,hcl,hargs,hev',Deferred.ofValue]
  unfold Oper.wp
  rw [hrun,Oper.upon_defer]
  have hids: ∀id∈PV.idsL caps,1000000<=id/\ ∃b,g2.μ id=some b:=by
   intro id hid
   obtain ⟨p,hpm,hpi⟩: ∃p∈caps,id∈p.ids:=by
    clear hl hk2 hbig hk hf1 hf2 hus hfun hp h step
    induction caps with
    |nil=>cases hid
    |cons p caps ih=>
     simp only [PV.idsL,dk] at hid
     rcases hid with hid|hid
     ·exact ⟨p,by simp,hid⟩
     ·obtain ⟨q,hq,hqi⟩:=ih hid;exact ⟨q,by simp [hq],hqi⟩
   have hpp:=dI.1 hp p hpm
   obtain ⟨j,hj⟩:=List.mem_iff_getElem?.1 hpm
   have hr:=hf2 j p hj
   cases p with
   |ptr id' off=>
    simp only [PV.ids,List.mem_singleton] at hpi
    subst hpi
    refine ⟨by simpa [PV.pinned] using hpp, ?_⟩
    generalize us.getD j undef=uv at hr
    cases hr with
    |ptr _ _ b hb=>exact ⟨b,hb⟩
   |_=>cases hpp
  have hcnt:c.nt<=1000000:=by rw [hnt];exact hlow
  refine rB (S:={S with pin:=fun _=>false}) hm (qM hI hS fun d hd=>by cases hd) (c:=c.refix g2.μ (PV.idsL caps) hcnt fun id hid=>(hids id hid).1) hnt hbig _ w2 g2 D2 Q hs3.refix ?_
  have hld:=hl us (c.refix g2.μ (PV.idsL caps) hcnt fun id hid=>(hids id hid).1) (fun w0 N0 n m ν δ ο hc=>CtxOf.refix hs3 (fun id hid=>(hids id hid).2) hc) rfl ⟨hus,fun j p hj=> ?_⟩
  ·have hd3:((Act.put {a2 with defers:={target:= .fn (.func hh) us,args:= #[]}::a2.defers} none undef).defers)=[{target:= .fn (.func hh) us,args:= #[]}]:=by
    have:a2.defers=[]:=hd2.trans hdef
    simp [Act.put,this]
   rw [hd3];exact hld
  ·have hpp:=dI.1 hp p (fH hj)
   have hr:=hf2 j p hj
   cases p with
   |ptr id off=>
    have hin:id∈PV.idsL caps:=ja hj id (by simp [PV.ids])
    generalize us.getD j undef=uv at hr
    cases hr with
    |ptr _ _ b hb=>exact ⟨id,off,b,rfl,by simp only [Ctx.refix];rw [if_pos hin];exact hb,rfl⟩
   |_=>cases hpp
 |_=>intro σ κ0 κ1 x h;cases h
end
section
variable {U:Uni} {V:Env U} {P:Program} {X:Link V P}
theorem G7 {fn:Func} {w0:World} {N0:aR} {n m:Nat} {ν:Nat->Nat} {δ:Nat->Option Nat} {c':Ctx} {ο:Nat->Array Value} (hc:CtxOf c' w0 N0 n m ν δ ο) (hdom: ∀j b,δ j=some b->j<m) {v:PV U} {u u':FrameMode} (hv:RcvOK v u u')
  {hh:FuncId} {caps:List (PV U)} {us:Array Value} (hct:DN c' caps us) {τ τ1:St U} {r:MR U} {τ0:St U} {gp gp':List Loc} {K:d6 U} {keep:Bool} {hand:List Bool} {out:Out U} {τ2:St U}
  (hrel:(lk (PV.idsL caps) fun _=>lU (fun _=>0) (fun _=>[]) [] none (.func hh [] caps) []).Rel (lR X (mK P u u')) τ [] r τ0 gp) (hr:r= .done) (ht:τ0.eqv τ1) (hret:(my V keep hand fn.results.toList n).Rel K τ1 [] (.out out) τ2 gp')
  {a:Act} {w:World} {g:Gh U} {D:Nat->Option Nat} (hs:Sim X c' a.tmps w τ g D):
  Leaves P fn a.tmps (Ret X w0 N0 ν δ ο n m out) [{target:= .fn (.func hh) us,args:= #[]}] u w:=by
 obtain ⟨bs,fp1,hrel1,hkeys,hbs⟩:=Gu _ hrel
 have hR:Rep X w (c'.N g D) g (.func (.func hh) #[] us) (.func hh [] caps):=by
  refine .func hh [] caps #[] us rfl hct.1 (by simp) fun j p hp=> ?_
  obtain ⟨id,off,b,rfl,hfix,hus⟩:=hct.2 j p hp
  rw [hus]
  refine .ptr id off b ?_
  have hin:id∈PV.idsL caps:=ja hp id (by simp [PV.ids])
  rw [<-hkeys] at hin
  obtain ⟨x,hx,rfl⟩:=dA.1 hin
  obtain ⟨k,hk,_⟩:=hs.boxes x.1 x.2 (hbs x hx)
  rcases hs.fix _ _ hk with h1|⟨h1,_⟩
  ·rw [hfix] at h1;injection h1 with h1;rw [h1];exact hk
  ·rw [hfix] at h1;cases h1
 obtain ⟨f,a0s,bs',hfv,⟨fnh,hfh,hnameh,hbodyh⟩,hcall⟩:=KY (X:=X) (c:=c') (a:=a) (dst:=none) (o:=⟨none,.move (.const undef),0, "",#[],none⟩) (CP:=mK P u u') (xs:= #[])
  (next:=fun a2 w2=>Leaves P fn a2.tmps (Ret X w0 N0 ν δ ο n m out) [] .returning w2) (Q:=fun _ _ _=>False)
  (fun {f vs w R R'} h hm=>CallsD.mono h fun e u2 w2 ⟨h1,h2⟩=>⟨h1,hm e w2 h2⟩) hs hR rfl (by simp) rfl rfl hrel1
  ⟨fun _ a2 w2 g2 D2 _ hs2=>by
   obtain ⟨v,h1,h2⟩:=ue hc hdom (hs2.eqv ht) hret
   exact ⟨v,h1,h2⟩,fun v hv=>by rw [hr] at hv;cases hv⟩
 injection hfv with e1 e2 e3
 injection e1 with e1
 subst e1;subst e2;subst e3
 have hun:u≠ .run:=by cases hv<;>simp
 refine leaves_cons hun (f:=hh) (args:= #[]++us) (by simp only [invoke];exact S3 hfh hnameh hbodyh _ w) ?_
 have hcall2:CallsD P hh (#[]++us) u w fun e u2 w'=>u2=u'/\(match e,w' with
    | .returned v,w''=>Leaves P fn (a.put none v).tmps (Ret X w0 N0 ν δ ο n m out) [] .returning w''
    | .panicked chain,w''=>False
    | .outgrown,_=>LetsOut (fun _ _ _=>False)):=by
  have:=hcall
  simp only [Array.append_empty] at this
  exact this.mono fun e u2 w2 ⟨h1,h2⟩=>⟨h1,by cases e<;>exact h2⟩
 refine hcall2.mono fun e u2 w2 ⟨h1,h2⟩=> ?_
 subst h1
 cases e with
 |returned rv=>
  simp only [Act.put] at h2
  have hset:settle u2= .returning:=by cases hv<;>rfl
  simp only [hset]
  exact h2
 |panicked chain=>exact h2.elim
 |outgrown=>obtain ⟨_,_,h⟩:=h2;exact h.elim
theorem ajT (hm:P.follows .mixedOrders=true) (hI:nS X) {S:Side U} (hS:S.rcv=none) {R:Type} {C:Oracle U R} (hC:C.Tells (d5 X)) {Cd:PV U->Oracle U R} (hCd: ∀v u u',RcvOK v u u'->(Cd v).Tells (lR X (mK P u u')))
  {f:FuncId} {fn:Func} (hf:P.funcs[f]? =some fn)
  (hname:(fn.name== "runtime.NumGoroutine")=false) (hbody:fn.body.isNone=false) (hnt:fn.ntmps=S.nt) (hlow:S.nt<=1000000) {args:List (PV U)} {boxes:List (Box U)} (hargs:args.length<=S.nt) (hboxes:boxes.length<=1000000)
  {ann:Nat->Option Ann} {fuel:Nat} {keep:Bool} {hand:List Bool} {κ:Out U->Option R} {x:R} (h:IE V S C ann fuel Cd keep hand fn args boxes κ=some x): ∃out,κ out=some x/\d5 X f args boxes out:=by
 obtain ⟨code,hcode⟩: ∃code,fn.body=some code:=by
  cases hb:fn.body with
  |none=>rw [hb] at hbody;cases hbody
  |some code=>exact ⟨code,rfl⟩
 unfold IE kw at h
 rw [hcode] at h
 have hpin: ∀ {w:World} {vs:Array Value} {N0:aR} {ν:Nat->Nat} {δ:Nat->Option Nat} {ο:Nat->Array Value} (hg:Given X w vs N0 ν δ ο args boxes),PinOK S (kl w N0 boxes.length args.length ν δ ο hg.oz S.nt hlow hg.bnd X.gblk hg.glob):=by
  intro w vs N0 ν δ ο hg d _
  simp only [kl]
  rw [if_neg (by omega)]
 rcases ajU (X:=X) hm hI hS hlow hC code h with ⟨e,τ,he,hk,hB⟩|⟨hh,caps,e,τ,hk,hB⟩
 ·have key: ∀ {out:Out U},(∀ (w:World) (vs:Array Value) (N0:aR) (ν:Nat->Nat) (δ:Nat->Option Nat) (ο:Nat->Array Value) (hg:Given X w vs N0 ν δ ο args boxes),
    Lands X (kl w N0 boxes.length args.length ν δ ο hg.oz S.nt hlow hg.bnd X.gblk hg.glob) [] e τ (bodyPost P fn (Ret X w N0 ν δ ο boxes.length args.length out)))->d5 X f args boxes out:=by
   intro out hl
   refine ⟨⟨fn,hf,hname,hbody⟩,fun w vs N0 ν δ ο hg=>Calls.mono (calls_of_wp (R:=Ret X w N0 ν δ ο boxes.length args.length out) hf hcode ?_) fun e w h=>Ret.full h⟩
   have hs:=Dy hg hargs hlow
   rw [hnt]
   exact hB _ (hpin hg) rfl _ w _ _ _ hs (hl w vs N0 ν δ ο hg)
  cases e with
  |exit id=>cases hk
  |normal=>exact absurd rfl he
  |ret=>
   obtain ⟨r,τ0,τ1,gp,hr,ht,hfin⟩:=kx hC _ hk (St.eqv.refl τ)
   cases r with
   |out o=>
    refine ⟨o,hfin,key fun w vs N0 ν δ ο hg a' w' g' D' hd hs=> ?_⟩
    obtain ⟨v,h1,h2⟩:=ue nP hg.dom hs hr
    exact ⟨hd,v,h1,h2⟩
   |_=>cases hfin
  |panic v=>
   obtain ⟨r,τ0,τ1,gp,hr,ht,hfin⟩:=kx hC _ hk (St.eqv.refl τ)
   cases r with
   |out o=>
    refine ⟨o,hfin,key fun w vs N0 ν δ ο hg a' w' g' D' hd hs val hval=> ?_⟩
    exact ⟨hd,HL nP hg.dom hs hval hr⟩
   |_=>cases hfin
 ·have key: ∀ {out:Out U},(∀ (w:World) (vs:Array Value) (N0:aR) (ν:Nat->Nat) (δ:Nat->Option Nat) (ο:Nat->Array Value) (hg:Given X w vs N0 ν δ ο args boxes) (us:Array Value) (c':Ctx),CtxOf c' w N0 boxes.length args.length ν δ ο->DN c' caps us->
    Lands X c' [{target:= .fn (.func hh) us,args:= #[]}] e τ (bodyPostD P fn (Ret X w N0 ν δ ο boxes.length args.length out)))->d5 X f args boxes out:=by
   intro out hl
   refine ⟨⟨fn,hf,hname,hbody⟩,fun w vs N0 ν δ ο hg=>Calls.mono (calls_of_wp_defers (R:=Ret X w N0 ν δ ο boxes.length args.length out) hf hcode ?_) fun e w h=>Ret.full h⟩
   have hs:=Dy hg hargs hlow
   rw [hnt]
   exact hB _ (hpin hg) rfl _ w _ _ _ hs rfl fun us c' hcx _ hct=>hl w vs N0 ν δ ο hg us c' (hcx _ _ _ _ _ _ _ nP) hct
  have fin: ∀ {v:PV U} {u u':FrameMode},RcvOK v u u'->(lk (PV.idsL caps) fun _=>lU (fun _=>0) (fun _=>[]) [] none (.func hh [] caps) []).cps (Cd v) τ [] (fun| .done,σ',_=>(my V keep hand fn.results.toList boxes.length).cps C σ' [] (Go.Proofs.YtgajalidbabccaaGreatDoor.PI.fin κ)|_,_,_=>none)=some x->
    ∃ (out:Out U) (r:MR U) (τ0 τ1 τ2:St U) (gp gp':List Loc),κ out=some x/\(lk (PV.idsL caps) fun _=>lU (fun _=>0) (fun _=>[]) [] none (.func hh [] caps) []).Rel (lR X (mK P u u')) τ [] r τ0 gp/\r= .done/\τ0.eqv τ1/\(my V keep hand fn.results.toList boxes.length).Rel (d5 X) τ1 [] (.out out) τ2 gp':=by
   intro v u u' hv hk
   obtain ⟨r,τ0,τ1,gp,hr,ht,hk1⟩:=kx (hCd v u u' hv) _ hk (St.eqv.refl τ)
   cases r with
   |raise v=>cases hk1
   |out o=>cases hk1
   |done=>
    obtain ⟨r',τ2,τ3,gp',hr',ht',hk2⟩:=kx hC _ hk1 (St.eqv.refl τ1)
    cases r' with
    |out o=>exact ⟨o,.done,τ0,τ1,τ2,gp,gp',hk2,hr,rfl,ht,hr'⟩
    |_=>cases hk2
  cases e with
  |exit id=>cases hk
  |normal=>
   obtain ⟨out,r,τ0,τ1,τ2,gp,gp',h1,h2,h3,h4,h5⟩:=fin .nil hk
   refine ⟨out,h1,key fun w vs N0 ν δ ο hg us c' hcx hct a' w' g' D' hd hs=> ?_⟩
   simp only [bodyPostD,hd]
   exact G7 hcx hg.dom .nil hct h2 h3 h4 h5 hs
  |ret=>
   obtain ⟨out,r,τ0,τ1,τ2,gp,gp',h1,h2,h3,h4,h5⟩:=fin .nil hk
   refine ⟨out,h1,key fun w vs N0 ν δ ο hg us c' hcx hct a' w' g' D' hd hs=> ?_⟩
   simp only [bodyPostD,hd]
   exact G7 hcx hg.dom .nil hct h2 h3 h4 h5 hs
  |panic v=>
   simp only [kD] at hk
   split at hk
   case h_2=>cases hk
   rename_i t k n'
   obtain ⟨out,r,τ0,τ1,τ2,gp,gp',h1,h2,h3,h4,h5⟩:=fin (.err t k n') hk
   refine ⟨out,h1,key fun w vs N0 ν δ ο hg us c' hcx hct a' w' g' D' hd hs val hval=> ?_⟩
   simp only [bodyPostD,hd]
   cases hval with
   |iface _ u _ hu=>cases hu;exact G7 hcx hg.dom (.err t k n') hct h2 h3 h4 h5 hs
end
end Go.Proofs.YtgajalidbabccaaGreatDoor.PI
namespace Go.Proofs.YtgajalidbabccaaGreatDoor
open Go PI
set_option maxRecDepth 100000
noncomputable section
noncomputable def wO:ET->TypeId
 | .C=>53
 | .T=>26
 | .B=>48
 | .I=>3
 | .F=>22
noncomputable def sx:ET->Nat
 | .C=>2
 | .T=>6
 | .B=>2
 | .I=>1
 | .F=>1
noncomputable def Bz:ET->Nat
 | .C=>8
 | .T=>104
 | .B=>48
 | .I=>8
 | .F=>24
noncomputable def BM (e:ET):Value:=((Tryz.prog.info? (wO e)).bind (·.zero)).getD undef
noncomputable def Gl (e:ET):Bool:=match Tryz.prog.info? (wO e) with
 |some i=>i.zero.isSome&&(ay i.size (sx e)&&ay i.bytes (Bz e))&&ay (BM e).cells.size (sx e)
 | .none=>false
theorem Mu (e:ET):Gl e=true:=by cases e<;>kernel_rfl
theorem Ut: ∀t r,yF t=some r->Kt Tryz.prog wO t r=true:=by
 intro t r h
 unfold yF at h
 split at h<;>first|(injection h with h;subst h;kernel_rfl)|cases h
theorem afp: ∀t r e,yF t=some r->r.keys=some e->e= .C:=by
 intro t r e h hk
 unfold yF at h
 split at h<;>first|(injection h with h;subst h;cases hk;done)|(injection h with h;subst h;injection hk with hk;exact hk.symm)|cases h
theorem ame: ∀e cs y,Uo e cs=some y->cs.length=sx e/\cs.all PV.isCell=true/\ ∀ (k:Nat) p,cs[k]? =some p-> ∃q,(gD e y)[k]? =some q/\p.less q:=by
 have hC: ∀ {p:PU} {l},uR p=some l-> ∃o,p= .sl (U:=UU) ET.C l o:=by
  intro p l h;unfold uR at h;split at h<;>first|(injection h with h;subst h;exact ⟨_,rfl⟩)|cases h
 have hT: ∀ {p:PU} {l},yN p=some l-> ∃o,p= .sl (U:=UU) ET.T l o:=by
  intro p l h;unfold yN at h;split at h<;>first|(injection h with h;subst h;exact ⟨_,rfl⟩)|cases h
 have hB: ∀ {p:PU} {l},EZ p=some l-> ∃o,p= .sl (U:=UU) ET.B l o:=by
  intro p l h;unfold EZ at h;split at h<;>first|(injection h with h;subst h;exact ⟨_,rfl⟩)|cases h
 intro e cs y h
 cases e
 ·have h:Ko cs=some y:=h
  unfold Ko at h
  split at h
  case h_2=>cases h
  injection h with h;subst h
  refine ⟨rfl,rfl,fun k p hp=> ?_⟩
  match k,hp with
  |0,hp=>exact ⟨_,rfl,.inl (Option.some.inj hp).symm⟩
  |1,hp=>exact ⟨_,rfl,.inl (Option.some.inj hp).symm⟩
  |k+2,hp=>simp at hp
 ·have h:Kr cs=some y:=h
  unfold Kr at h
  split at h
  case h_2=>cases h
  split at h
  case h_2=>cases h
  rename_i h1 h2 h3
  injection h with h;subst h
  obtain ⟨o1,rfl⟩:=hC h1;obtain ⟨o2,rfl⟩:=hT h2;obtain ⟨o3,rfl⟩:=hB h3
  refine ⟨rfl,rfl,fun k p hp=> ?_⟩
  match k,hp with
  |0,hp=>exact ⟨_,rfl,.inl (Option.some.inj hp).symm⟩
  |1,hp=>exact ⟨_,rfl,.inl (Option.some.inj hp).symm⟩
  |2,hp=>exact ⟨_,rfl,.inl (Option.some.inj hp).symm⟩
  |3,hp=>exact ⟨_,rfl,.inr ⟨_,_,_,(Option.some.inj hp).symm,rfl⟩⟩
  |4,hp=>exact ⟨_,rfl,.inr ⟨_,_,_,(Option.some.inj hp).symm,rfl⟩⟩
  |5,hp=>exact ⟨_,rfl,.inr ⟨_,_,_,(Option.some.inj hp).symm,rfl⟩⟩
  |k+6,hp=>simp at hp
 ·have h:Km cs=some y:=h
  unfold Km at h
  split at h
  case h_2=>cases h
  split at h
  case h_2=>cases h
  rename_i h1 h2
  injection h with h;subst h
  obtain ⟨o1,rfl⟩:=hC h1;obtain ⟨o2,rfl⟩:=hT h2
  refine ⟨rfl,rfl,fun k p hp=> ?_⟩
  match k,hp with
  |0,hp=>exact ⟨_,rfl,.inr ⟨_,_,_,(Option.some.inj hp).symm,rfl⟩⟩
  |1,hp=>exact ⟨_,rfl,.inr ⟨_,_,_,(Option.some.inj hp).symm,rfl⟩⟩
  |k+2,hp=>simp at hp
 ·have h:Kq cs=some y:=h
  unfold Kq at h
  split at h
  case h_2=>cases h
  injection h with h;subst h
  refine ⟨rfl,rfl,fun k p hp=> ?_⟩
  match k,hp with
  |0,hp=>exact ⟨_,rfl,.inl (Option.some.inj hp).symm⟩
  |k+1,hp=>simp at hp
 ·have h:Kp cs=some y:=h
  unfold Kp at h
  split at h
  case h_2=>cases h
  obtain ⟨o1,rfl⟩:=hC h
  refine ⟨rfl,rfl,fun k p hp=> ?_⟩
  match k,hp with
  |0,hp=>exact ⟨_,rfl,.inr ⟨_,_,_,(Option.some.inj hp).symm,rfl⟩⟩
  |k+1,hp=>simp at hp
theorem adB (e:ET): ∃i,Tryz.prog.info? (wO e)=some i/\i.zero=some (BM e)/\i.size=sx e/\i.bytes=Bz e:=by
 have h:=Mu e
 unfold Gl at h
 split at h
 ·rename_i i hi
  simp only [aF] at h
  obtain ⟨⟨h1,h2,h3⟩,h4⟩:=h
  refine ⟨i,hi, ?_,by simpa using h2,by simpa using h3⟩
  unfold BM
  rw [hi]
  obtain ⟨z,hz⟩:=Option.isSome_iff_exists.1 h1
  simp [hz]
 ·cases h
noncomputable def LL (o:Obj):Link VV Tryz.prog where
 gblk:=[(0,o)]
 etid:=wO
 esize:=sx
 ebytes:=Bz
 ezero:=BM
 einfo:=adB
 zsize:=fun e=>by
  have h:=Mu e
  unfold Gl at h
  split at h
  ·simp only [aF] at h
   exact by simpa using h.2
  ·cases h
 epos:=fun e=>by cases e<;>decide
 broom:=fun e n h=>by
  have h':n<=1099511627776:=h
  cases e<;>simp only [Bz,maxLen]<;>omega
 len:=fun e x=>by cases e<;>rfl
 small:=fun e=>by cases e<;>decide
 ecell':=fun e x=>by cases e<;>rfl
 toEl:=ame
 ty:=fun t r h=>Us (Ut t r h)
 keyT:=fun t r e h hk=>by
  have he:=afp t r e h hk
  subst he
  obtain ⟨fs,h1,h2,_,h4,h5⟩:=(Us (Ut 53 _ rfl)).isInts rfl
  exact ⟨⟨fs,h1,h2,h4,h5⟩,fun x y=>⟨_,by simp only [VV,gD,PV.eqvI];rfl⟩⟩
theorem Ce:Tryz.prog.follows .mixedOrders=true:=by kernel_rfl
theorem sw {A B:Out UU->Prop} (h: ∃out,A out/\B out): ∃out,B out/\A out:=by obtain ⟨o,a,b⟩:=h;exact ⟨o,b,a⟩
theorem aar {S:Type} {b:Bool} {x y:Option S} {v:S} (h:(bif b then x else y)=some v):x=some v\/y=some v:=by
 cases b
 ·exact .inr h
 ·exact .inl h
end
end Go.Proofs.YtgajalidbabccaaGreatDoor
namespace Go.Proofs.YtgajalidbabccaaGreatDoor
open Go PI
def U32 (s:Int):Prop:=0<=s/\s<4294967296
theorem U32.nat {s:Int} (h:U32 s): ∃n:Nat,n<4294967296/\s=n:=⟨s.toNat,by have:=h.1;have:=h.2;omega,by have:=h.1;omega⟩
theorem rD {n:Nat} (h:n<4294967296):(BitVec.ofInt 32 (n:Int)).toNat=n:=by
 grind
theorem nR (n:Nat) (h:n<4294967296):ag .u32 (n:Int)=n:=by
 grind [ag,IntKind.bits,IntKind.signed]
theorem lQ (n:Nat) (h:n<18446744073709551616):ag .u64 (n:Int)=n:=by
 grind [ag,IntKind.bits,IntKind.signed]
theorem fY {n:Int} (h1: -9223372036854775808<=n) (h2:n<9223372036854775808):ag .i64 n=n:=by
 grind [ag,IntKind.bits,IntKind.signed]
theorem uQ {a b n:Nat} (h:a<2^n):a&&&b<2^n:=ko Nat.and_le_left h
theorem nV {a b:Nat} (ha:a<4294967296) (hb:b<4294967296):co .and .u32 (a:Int) (b:Int)=((a&&&b:Nat):Int):=by
 have h1:=rD ha;have h2:=rD hb
 simp only [co]
 show ag .u32 (((BitVec.ofInt 32 (a:Int))&&&(BitVec.ofInt 32 (b:Int))).toNat:Int)=_
 rw [BitVec.toNat_and,h1,h2]
 exact nR _ (uQ (n:=32) ha)
theorem yP {a b:Nat} (ha:a<4294967296) (hb:b<4294967296):co .or .u32 (a:Int) (b:Int)=((a|||b:Nat):Int):=by
 have h1:=rD ha;have h2:=rD hb
 simp only [co]
 show ag .u32 (((BitVec.ofInt 32 (a:Int))|||(BitVec.ofInt 32 (b:Int))).toNat:Int)=_
 rw [BitVec.toNat_or,h1,h2]
 exact nR _ (Nat.or_lt_two_pow (n:=32) ha hb)
def gI (a b:Nat):Nat:=a^^^(a&&&b)
theorem o0 (a b i:Nat):(gI a b).testBit i=(a.testBit i&& !b.testBit i):=by
 grind [gI]
theorem xO {a b n:Nat} (h:a<2^n):gI a b<2^n:=Nat.xor_lt_two_pow h (uQ h)
theorem E0 {a b:Nat} (ha:a<4294967296) (hb:b<4294967296):co .andNot .u32 (a:Int) (b:Int)=((gI a b:Nat):Int):=by
 have h1:=rD ha;have h2:=rD hb
 simp only [co]
 show ag .u32 (((BitVec.ofInt 32 (a:Int))&&& ~~~(BitVec.ofInt 32 (b:Int))).toNat:Int)=_
 have e:((BitVec.ofInt 32 (a:Int))&&& ~~~(BitVec.ofInt 32 (b:Int))).toNat=gI a b:=by
  apply h8
  intro i
  rw [o0,BitVec.toNat_and,Nat.testBit_and,h1]
  by_cases hi:i<32
  ·grind
  ·have:a.testBit i=false:=Nat.testBit_lt_two_pow (gM ha (by exact jL (n:=2) (by decide) (show 32<=i by omega)))
   grind
 rw [e]
 exact nR _ (xO (n:=32) ha)
theorem bS {α:Type} (p:Prop) [Decidable p] (x y:α):ac (decide p) x y=if p then x else y:=by
 grind [ao,al]
theorem eM {α:Type} (c:Bool) (x y:α):ac c x y=if c=true then x else y:=by
 grind [al,ao]
abbrev Fu (k:Nat):Prop:=4294967296<=k
theorem ap {R S:Type} {k:Nat} (h:Fu k) (f:(R->OS S)->OS S) (g:R->OS S):ab k f g=f g:=K0 (by omega) f g
theorem bA {S:Type} {n m:Nat} (h:n+m<=1099511627776) (f:Unit->OS S):af (aE 1099511627776 n m) f=f ():=by
 grind [aE]
theorem aK {α:Type} {l p r:List α} {x:α} (h:l=p++x::r) (hl:l.length<4611686018427387904):
  decide ((p.length:Int)<(l.length:Int))=true/\ak l (p.length:Int)=some x/\ag .i64 ((p.length:Int)+1)=((p++[x]).length:Int)/\l=(p++[x])++r:=by
 subst h
 rw [it,dD] at hl
 refine ⟨decide_eq_true (by grind), ?_, ?_,by simp⟩
 all_goals grind [ak,ag,IntKind.bits]
theorem d2 {α:Type} {l p:List α} (h:l=p++[]):decide ((p.length:Int)<(l.length:Int))=false:=by
 grind
theorem aq {n m:Nat} (h:n<m): ∃q,m=q+1/\n<=q:=⟨m-1,by omega,by omega⟩
theorem lS {S:Type} (p:Prop) [Decidable p] (h:p) (f:Unit->OS S):af (dT p) f=f ():=by simp [dT,h]
theorem wV {α:Type} (l:List α) (i:Nat):ak l (i:Int)=l[i]? :=by rfl
end Go.Proofs.YtgajalidbabccaaGreatDoor
namespace Go.Proofs.YtgajalidbabccaaGreatDoor
open Go PI
set_option maxRecDepth 100000
noncomputable section
variable {S:Type}
abbrev kT (S:Type):=Tm->Int->(Int->OS S)->OS S
def zK (hd:kT S) (k:Nat) (Y:Int->OS S) (t:Tm) (most i7:Int) (rec1:Int->Int->OS S) (rec2:Int->Int->OS S) (v5'' v8:Int):OS S:=af (ak t.sys i7) fun x5=>ac (decide ((v8:Int)<(x5.kids.length:Int))) (ac (decide ((v5'':Int)<=most)) (af (ak t.sys i7) fun x6=>af (ak x6.kids v8) fun x7=>hd (ae x7) (ag .i64 (most-v5'')) fun r8=>rec2 (ag .i64 (v5''+r8)) (ag .i64 (v8+1))) (rec1 v5'' (ag .i64 (i7+1)))) (rec1 v5'' (ag .i64 (i7+1)))
def nd (hd:kT S) (k:Nat) (Y:Int->OS S) (rec1:Int->Int->OS S) (t:Tm) (most i7:Int):Nat->Int->Int->OS S
 |0=>fun _ _=> .none
 |m+1=>fun v5'' v8=>zK hd k Y t most i7 rec1 (nd hd k Y rec1 t most i7 m) v5'' v8
def ve (hd:kT S) (k:Nat) (Y:Int->OS S) (t:Tm) (most:Int) (J2:Int->Int->Int->OS S) (rec1:Int->Int->OS S) (v5' i7:Int):OS S:=ac (decide ((i7:Int)<(t.sys.length:Int))) (ac (decide ((v5':Int)<=most)) (af (ak t.sys i7) fun x3=>ac (decide (((x3.face.length:Int):Int)>most)) (Y (ag .i64 (most+1))) (af (ak t.sys i7) fun x4=>J2 i7 (ag .i64 ((ag .i64 (v5'+1))+(x4.face.length:Int))) 0)) (Y v5')) (Y v5')
def mm (hd:kT S) (k:Nat) (Y:Int->OS S) (t:Tm) (most:Int):Nat->Int->Int->OS S
 |0=>fun _ _=> .none
 |m+1=>fun v5' i7=>ve hd k Y t most (fun i7 v5'' v8=>nd hd k Y (mm hd k Y t most m) t most i7 k v5'' v8) (mm hd k Y t most m) v5' i7
def vd (hd:kT S) (k:Nat) (Y:Int->OS S) (t:Tm) (most:Int) (J1:Int->Int->OS S) (rec0:Int->Int->OS S) (v5 i6:Int):OS S:=ac (decide ((i6:Int)<(t.kids.length:Int))) (ac (decide ((v5:Int)<=most)) (af (ak t.kids i6) fun x1=>hd (ae x1) (ag .i64 (most-v5)) fun r2=>rec0 (ag .i64 (v5+r2)) (ag .i64 (i6+1))) (J1 v5 0)) (J1 v5 0)
def qu (hd:kT S) (k:Nat) (Y:Int->OS S) (t:Tm) (most:Int):Nat->Int->Int->OS S
 |0=>fun _ _=> .none
 |m+1=>fun v5 i6=>vd hd k Y t most (fun v5' i7=>mm hd k Y t most k v5' i7) (qu hd k Y t most m) v5 i6
def JQ (hd:kT S) (k:Nat) (Y:Int->OS S) (J0:Int->Int->OS S) (t:Tm) (most:Int):OS S:=ac (decide (((t.r.length:Int):Int)>most)) (Y (ag .i64 (most+1))) (ac (decide (((t.name.size:Int):Int)>most)) (Y (ag .i64 (most+1))) (J0 (ag .i64 ((ag .i64 (1+(t.r.length:Int)))+(t.name.size:Int))) 0))
def kE:Nat->Tm->Int->(Int->OS S)->OS S
 |0=>fun _ _ _=> .none
 |k+1=>fun t most Y=>JQ (kE k) k Y (fun v5 i6=>qu (kE k) k Y t most k v5 i6) t most
def ol (k:Nat) (kind kid:Int) (Y:Int×Int->OS S):OS S:=ac (kind==4) (ac (kid==1) (Y (1,0)) (Y (0,0))) (ac (kind==7) (ac (kid==1) (Y (1,0)) (Y (0,0))) (ac (kind==5) (ac (kid==0) (Y (1,0)) (Y (0,0))) (ac (kind==22) (ac (kid==0) (Y (1,0)) (Y (0,0))) (ac (kind==27) (ac (kid==0) (Y (1,0)) (Y (0,0))) (ac (kind==11) (ac (kid==0) (Y (0,1)) (Y (0,0))) (ac (kind==12) (ac (kid==0) (Y (0,1)) (Y (0,0))) (ac (kind==14) (ac (kid==0) (Y (0,1)) (Y (0,0))) (Y (0,0)))))))))
abbrev f7 (S:Type):=Tm->Int->(Bool->OS S)->OS S
def wC (hd:f7 S) (k:Nat) (a_k:Tm) (p p' c0:Int) (Y:Bool->OS S):OS S:=hd (ae a_k) (ag .i64 (c0-1)) fun r1=>Y r1
def Aa (hd:f7 S) (k:Nat) (Y:Bool->OS S) (c0:Int) (t:Tm) (v42:Int) (x4:(Br Tm)) (more9:Int) (rec1:Int->Int->OS S) (rec2:Int->OS S) (v49:Int):OS S:=ac (decide ((v49:Int)<(x4.kids.length:Int))) (af (ak x4.kids v49) fun x5=>ab k (wC hd k (ae x5) 0 more9 c0) fun r6=>ac (!r6) (Y false) (rec2 (ag .i64 (v49+1)))) (rec1 (ag .i64 (v42+1)) more9)
def qB (hd:f7 S) (k:Nat) (Y:Bool->OS S) (rec1:Int->Int->OS S) (c0:Int) (t:Tm) (v42:Int) (x4:(Br Tm)) (more9:Int):Nat->Int->OS S
 |0=>fun _=> .none
 |m+1=>fun v49=>Aa hd k Y c0 t v42 x4 more9 rec1 (qB hd k Y rec1 c0 t v42 x4 more9 m) v49
def vA (hd:f7 S) (k:Nat) (Y:Bool->OS S) (c0:Int) (t:Tm) (J2:Int->(Br Tm)->Int->Int->OS S) (rec1:Int->Int->OS S) (v42 more9:Int):OS S:=ac (decide ((v42:Int)<(t.sys.length:Int))) (af (ak t.sys v42) fun x4=>J2 v42 x4 more9 0) (Y true)
def mo (hd:f7 S) (k:Nat) (Y:Bool->OS S) (c0:Int) (t:Tm):Nat->Int->Int->OS S
 |0=>fun _ _=> .none
 |m+1=>fun v42 more9=>vA hd k Y c0 t (fun v42 x4 more9 v49=>qB hd k Y (mo hd k Y c0 t m) c0 t v42 x4 more9 k v49) (mo hd k Y c0 t m) v42 more9
def vz (hd:f7 S) (k:Nat) (Y:Bool->OS S) (c0:Int) (t:Tm) (J1:Int->Int->OS S) (rec0:Int->OS S) (v17:Int):OS S:=ac (decide ((v17:Int)<(t.kids.length:Int))) (af (ak t.kids v17) fun x1=>ab k (ol k t.kind v17) fun r2=>ab k (wC hd k (ae x1) r2.1 r2.2 c0) fun r3=>ac (!r3) (Y false) (rec0 (ag .i64 (v17+1)))) (ac (t.kind==15) (J1 0 1) (J1 0 0))
def tF (hd:f7 S) (k:Nat) (Y:Bool->OS S) (c0:Int) (t:Tm):Nat->Int->OS S
 |0=>fun _=> .none
 |m+1=>fun v17=>vz hd k Y c0 t (fun v42 more9=>mo hd k Y c0 t k v42 more9) (tF hd k Y c0 t m) v17
def Ki (hd:f7 S) (k:Nat) (Y:Bool->OS S) (J0:Int->OS S) (t:Tm) (c0:Int):OS S:=J0 0
def FU (hd:f7 S) (k:Nat) (t:Tm) (c0:Int) (Y:Bool->OS S):OS S:=Ki hd k Y (fun v17=>tF hd k Y c0 t k v17) t c0
def Uk (hd:f7 S) (k:Nat) (Y:Bool->OS S) (t:Tm) (left:Int):OS S:=ac (decide ((left:Int)>0)) (ab k (FU hd k (ae t) left) fun r1=>Y r1) (Y false)
def me:Nat->Tm->Int->(Bool->OS S)->OS S
 |0=>fun _ _ _=> .none
 |k+1=>fun t left Y=>Uk (me k) k Y t left
abbrev gK (S:Type):=Tm->Int->(Bool×Int->OS S)->OS S
def sf (hd:gK S) (k:Nat) (t:Tm) (c0:Int) (Y:Bool×Int->OS S):OS S:=ac (decide ((ag .i64 (c0-1):Int)>=0)) (hd (ae t) (ag .i64 (c0-1)) fun r1=>Y (r1.1,r1.2)) (Y (false,ag .i64 (c0-1)))
def wD (hd:gK S) (k:Nat) (a_k:Tm) (p p' c1:Int) (Y:Bool×Int->OS S):OS S:=ab k (sf hd k (ae a_k) c1) fun r1=>Y (r1.1,r1.2)
def z8 (hd:gK S) (k:Nat) (Y:Bool×Int->OS S) (t:Tm) (v42:Int) (x4:(Br Tm)) (more9:Int) (rec1:Int->Int->Int->OS S) (rec2:Int->Int->OS S) (e1_0'' v49:Int):OS S:=ac (decide ((v49:Int)<(x4.kids.length:Int))) (af (ak x4.kids v49) fun x5=>ab k (wD hd k (ae x5) 0 more9 e1_0'') fun r6=>ac (!r6.1) (Y (false,r6.2)) (rec2 r6.2 (ag .i64 (v49+1)))) (rec1 e1_0'' (ag .i64 (v42+1)) more9)
def np (hd:gK S) (k:Nat) (Y:Bool×Int->OS S) (rec1:Int->Int->Int->OS S) (t:Tm) (v42:Int) (x4:(Br Tm)) (more9:Int):Nat->Int->Int->OS S
 |0=>fun _ _=> .none
 |m+1=>fun e1_0'' v49=>z8 hd k Y t v42 x4 more9 rec1 (np hd k Y rec1 t v42 x4 more9 m) e1_0'' v49
def vu (hd:gK S) (k:Nat) (Y:Bool×Int->OS S) (t:Tm) (J2:Int->(Br Tm)->Int->Int->Int->OS S) (rec1:Int->Int->Int->OS S) (e1_0' v42 more9:Int):OS S:=ac (decide ((v42:Int)<(t.sys.length:Int))) (af (ak t.sys v42) fun x4=>J2 v42 x4 more9 e1_0' 0) (Y (true,e1_0'))
def lv (hd:gK S) (k:Nat) (Y:Bool×Int->OS S) (t:Tm):Nat->Int->Int->Int->OS S
 |0=>fun _ _ _=> .none
 |m+1=>fun e1_0' v42 more9=>vu hd k Y t (fun v42 x4 more9 e1_0'' v49=>np hd k Y (lv hd k Y t m) t v42 x4 more9 k e1_0'' v49) (lv hd k Y t m) e1_0' v42 more9
def vt (hd:gK S) (k:Nat) (Y:Bool×Int->OS S) (t:Tm) (J1:Int->Int->Int->OS S) (rec0:Int->Int->OS S) (dh v17:Int):OS S:=ac (decide ((v17:Int)<(t.kids.length:Int))) (af (ak t.kids v17) fun x1=>ab k (ol k t.kind v17) fun r2=>ab k (wD hd k (ae x1) r2.1 r2.2 dh) fun r3=>ac (!r3.1) (Y (false,r3.2)) (rec0 r3.2 (ag .i64 (v17+1)))) (ac (t.kind==15) (J1 dh 0 1) (J1 dh 0 0))
def qz (hd:gK S) (k:Nat) (Y:Bool×Int->OS S) (t:Tm):Nat->Int->Int->OS S
 |0=>fun _ _=> .none
 |m+1=>fun dh v17=>vt hd k Y t (fun e1_0' v42 more9=>lv hd k Y t k e1_0' v42 more9) (qz hd k Y t m) dh v17
def Kg (hd:gK S) (k:Nat) (Y:Bool×Int->OS S) (J0:Int->Int->OS S) (t:Tm) (c1:Int):OS S:=J0 c1 0
def jq:Nat->Tm->Int->(Bool×Int->OS S)->OS S
 |0=>fun _ _ _=> .none
 |k+1=>fun t c1 Y=>Kg (jq k) k Y (fun dh v17=>qz (jq k) k Y t k dh v17) t c1
def Bf (k:Nat) (t:Tm) (most:Int) (Y:Bool->OS S):OS S:=ab k (sf (jq k) k (ae t) most) fun r1=>Y r1.1
def Be (k:Nat) (t:Tm) (Y:Int->OS S):OS S:=me k (ae t) 200 fun r1=>ac (!r1) (Y 62) (ab k (Bf k (ae t) 20000) fun r2=>ac (!r2) (Y 221) (Y 0))
def Bb (k:Nat) (kind:Int) (Y:Int->OS S):OS S:=ac (kind==1) (Y 0) (ac (kind==2) (Y 0) (ac (kind==3) (Y 0) (ac (kind==19) (Y 0) (ac (kind==20) (Y 0) (ac (kind==24) (Y 0) (ac (kind==25) (Y 0) (ac (kind==21) (Y 0) (ac (kind==5) (Y 1) (ac (kind==9) (Y 1) (ac (kind==10) (Y 1) (ac (kind==23) (Y 1) (ac (kind==12) (Y 1) (ac (kind==16) (Y 1) (ac (kind==17) (Y 1) (ac (kind==18) (Y 1) (ac (kind==26) (Y 1) (ac (kind==4) (Y 2) (ac (kind==7) (Y 2) (ac (kind==6) (Y 2) (ac (kind==8) (Y 2) (ac (kind==14) (Y 2) (ac (kind==15) (Y 2) (ac (kind==28) (Y 2) (ac (kind==11) (Y 3) (ac (kind==13) (Y 3) (ac (kind==22) (Y 4) (ac (kind==27) (Y 5) (Y (-1)))))))))))))))))))))))))))))
def om (k:Nat) (kind:Int) (Y:Int->OS S):OS S:=ac (kind==15) (Y 1) (ac (kind==17) (Y 1) (ac (kind==18) (Y 1) (ac (kind==16) (Y 2) (Y 0))))
def E7 (k:Nat) (Y:Bool->OS S) (s:BA) (v8:Int) (x1:UInt8) (rec0:Int->OS S) (letter5:Bool):OS S:=ac (!letter5) (ac (v8==0) (Y false) (ac (decide (((x1.toNat:Int):Int)<48)) (Y false) (ac (decide (((x1.toNat:Int):Int)>57)) (Y false) (rec0 (ag .i64 (v8+1)))))) (rec0 (ag .i64 (v8+1)))
def B7 (k:Nat) (Y:Bool->OS S) (rec0:Int->OS S) (s:BA) (v8:Int) (x1:UInt8):Nat->Bool->OS S
 |0=>fun _=> .none
 |_+1=>fun letter5=>E7 k Y s v8 x1 rec0 letter5
def vB (k:Nat) (Y:Bool->OS S) (s:BA) (J1:Int->UInt8->Bool->OS S) (rec0:Int->OS S) (v8:Int):OS S:=ac (decide ((v8:Int)<(s.size:Int))) (af (ak s.data.toList v8) fun x1=>ac (decide (((x1.toNat:Int):Int)>=97)) (ac (decide (((x1.toNat:Int):Int)<=122)) (J1 v8 x1 true) (ac (decide (((x1.toNat:Int):Int)>=65)) (ac (decide (((x1.toNat:Int):Int)<=90)) (J1 v8 x1 true) (J1 v8 x1 ((x1.toNat:Int)==95))) (J1 v8 x1 ((x1.toNat:Int)==95)))) (ac (decide (((x1.toNat:Int):Int)>=65)) (ac (decide (((x1.toNat:Int):Int)<=90)) (J1 v8 x1 true) (J1 v8 x1 ((x1.toNat:Int)==95))) (J1 v8 x1 ((x1.toNat:Int)==95)))) (Y (!(s==av)))
def qC (k:Nat) (Y:Bool->OS S) (s:BA):Nat->Int->OS S
 |0=>fun _=> .none
 |m+1=>fun v8=>vB k Y s (fun v8 x1 letter5=>B7 k Y (qC k Y s m) s v8 x1 k letter5) (qC k Y s m) v8
def Kj (k:Nat) (Y:Bool->OS S) (J0:Int->OS S) (s:BA):OS S:=J0 0
def Bd (k:Nat) (s:BA) (Y:Bool->OS S):OS S:=Kj k Y (fun v8=>qC k Y s k v8) s
def rR (k:Nat) (s:Int) (Y:Bool->OS S):OS S:=Y ((co .andNot .u32 s 16777215)==0)
def vK (k:Nat) (c:Cl) (Y:Bool->OS S):OS S:=ab k (rR k c.pos) fun r1=>ac (r1) (ab k (rR k c.neg) fun r2=>Y r2) (Y false)
def rH (k:Nat) (a b:Cl) (Y:Cl->OS S):OS S:=Y (Cl.mk (co .or .u32 a.pos b.pos) (co .or .u32 a.neg b.neg))
def Ak (k:Nat) (a b:Cl) (Y:Bool->OS S):OS S:=ab k (rH k a b) fun r1=>Y ((r1.pos==a.pos)&&((r1.neg==a.neg)&&true))
def Am (k:Nat) (d c0:Cl) (Y:Bool->OS S):OS S:=ac (!((c0.pos==d.pos)&&((c0.neg==d.neg)&&true))) (ab k (Ak k c0 d) fun r1=>Y r1) (Y false)
def zY (k:Nat) (Y:Int->OS S) (c0:Cl) (s:LC) (rec0:Int->OS S) (v8:Int):OS S:=ac (decide ((v8:Int)<(s.length:Int))) (af (ak s v8) fun x1=>ab k (Am k x1 c0) fun r2=>ac (r2) (Y v8) (rec0 (ag .i64 (v8+1)))) (Y (-1))
def tA (k:Nat) (Y:Int->OS S) (c0:Cl) (s:LC):Nat->Int->OS S
 |0=>fun _=> .none
 |m+1=>fun v8=>zY k Y c0 s (tA k Y c0 s m) v8
def Kc (k:Nat) (Y:Int->OS S) (J0:Int->OS S) (s:LC) (c0:Cl):OS S:=J0 0
def FS (k:Nat) (s:LC) (c0:Cl) (Y:Int->OS S):OS S:=Kc k Y (fun v8=>tA k Y c0 s k v8) s c0
def FQ (k:Nat) (s:LC) (c0:Cl) (Y:Bool->OS S):OS S:=ab k (FS k s c0) fun r1=>Y (decide ((r1:Int)>=0))
def Al (k:Nat) (c:Cl) (c0:LC) (Y:Bool->OS S):OS S:=ab k (FQ k c0 c) fun r1=>Y r1
def yR (k:Nat) (Y:LC×Int->OS S) (b5_0:LC) (rec1:Int->(LC)->OS S) (v36:Int) (kept9:LC):OS S:=ac (decide ((v36:Int)<(b5_0.length:Int))) (af (ak b5_0 v36) fun x4=>ab k (Al k x4 b5_0) fun r5=>ac (!r5) (af (aE 1099511627776 kept9.length [x4].length) fun x6=>rec1 (ag .i64 (v36+1)) (kept9++[x4])) (rec1 (ag .i64 (v36+1)) kept9)) (ac (decide (((kept9.length:Int):Int)>64)) (Y (([]:LC),3)) (Y (sortCl kept9,0)))
def qb (k:Nat) (Y:LC×Int->OS S) (b5_0:LC):Nat->Int->(LC)->OS S
 |0=>fun _ _=> .none
 |m+1=>fun v36 kept9=>yR k Y b5_0 (qb k Y b5_0 m) v36 kept9
def uT (k:Nat) (Y:LC×Int->OS S) (l:LC) (J1:(LC)->Int->(LC)->OS S) (rec0:(List (Cl×Bool))->(LC)->Int->OS S) (g5:List (Cl×Bool)) (b5_0:LC) (v15:Int):OS S:=ac (decide ((v15:Int)<(l.length:Int))) (af (ak l v15) fun x1=>ab k (vK k x1) fun r2=>ac (!r2) (Y (([]:LC),2)) (ac (!((gU VV ET.C g5 x1).getD false)) (af (aE 1099511627776 b5_0.length [x1].length) fun x3=>rec0 (jy VV ET.C g5 x1 true) (b5_0++[x1]) (ag .i64 (v15+1))) (rec0 g5 b5_0 (ag .i64 (v15+1))))) (J1 b5_0 0 ([]:LC))
def sJ (k:Nat) (Y:LC×Int->OS S) (l:LC):Nat->(List (Cl×Bool))->(LC)->Int->OS S
 |0=>fun _ _ _=> .none
 |m+1=>fun g5 b5_0 v15=>uT k Y l (fun b5_0 v36 kept9=>qb k Y b5_0 k v36 kept9) (sJ k Y l m) g5 b5_0 v15
def I9 (k:Nat) (Y:LC×Int->OS S) (J0:(List (Cl×Bool))->(LC)->Int->OS S) (l:LC):OS S:=J0 ([]:List (Cl×Bool)) ([]:LC) 0
def jX (k:Nat) (l:LC) (Y:LC×Int->OS S):OS S:=I9 k Y (fun g5 b5_0 v15=>sJ k Y l k g5 b5_0 v15) l
def zX (k:Nat) (Y:Bool->OS S) (s1 s2:LC) (rec0:Int->OS S) (v13:Int):OS S:=ac (decide ((v13:Int)<(s1.length:Int))) (af (ak s1 v13) fun x1=>af (ak s2 v13) fun x2=>ac (!((x1.pos==x2.pos)&&((x1.neg==x2.neg)&&true))) (Y false) (rec0 (ag .i64 (v13+1)))) (Y true)
def tz (k:Nat) (Y:Bool->OS S) (s1 s2:LC):Nat->Int->OS S
 |0=>fun _=> .none
 |m+1=>fun v13=>zX k Y s1 s2 (tz k Y s1 s2 m) v13
def Kb (k:Nat) (Y:Bool->OS S) (J0:Int->OS S) (s1 s2:LC):OS S:=ac (!((s1.length:Int)==(s2.length:Int))) (Y false) (J0 0)
def Ba (k:Nat) (s1 s2:LC) (Y:Bool->OS S):OS S:=Kb k Y (fun v13=>tz k Y s1 s2 k v13) s1 s2
def lb (k:Nat) (f:LC) (Y:Bool->OS S):OS S:=ab k (jX k f) fun r1=>ac (r1.2==0) (ab k (Ba k r1.1 f) fun r2=>Y r2) (Y false)
def pT (k:Nat) (i:Int) (Y:Bool->OS S):OS S:=ac (decide ((i:Int)>=0)) (Y (decide ((i:Int)<24))) (Y false)
def mU (k:Nat) (s i:Int) (Y:Int->OS S):OS S:=ab k (pT k i) fun r1=>ac (!r1) (Y (co .and .u32 s 16777215)) (af (dT (0<=(ag .u64 i))) fun x2=>Y (co .andNot .u32 (co .and .u32 s 16777215) (ag .u32 (1*2^min (dH (ag .u64 i)) 32))))
def y9 (k:Nat) (Y:Int->OS S) (f:LC) (rec0:Int->Int->OS S) (s3 v8:Int):OS S:=ac (decide ((v8:Int)<(f.length:Int))) (af (ak f v8) fun x1=>rec0 (co .or .u32 s3 (co .or .u32 x1.pos x1.neg)) (ag .i64 (v8+1))) (ab k (mU k s3 (-1)) fun r2=>Y r2)
def sP (k:Nat) (Y:Int->OS S) (f:LC):Nat->Int->Int->OS S
 |0=>fun _ _=> .none
 |m+1=>fun s3 v8=>y9 k Y f (sP k Y f m) s3 v8
def Jk (k:Nat) (Y:Int->OS S) (J0:Int->Int->OS S) (f:LC):OS S:=J0 0 0
def rL (k:Nat) (f:LC) (Y:Int->OS S):OS S:=Jk k Y (fun s3 v8=>sP k Y f k s3 v8) f
def oq (k:Nat) (f:LC) (dims:Int) (Y:Bool->OS S):OS S:=ac (decide ((dims:Int)>=24)) (Y true) (ab k (rL k f) fun r1=>af (dT (0<=(ag .u64 dims))) fun x2=>Y ((Int.fdiv r1 (2^min (dH (ag .u64 dims)) 32))==0))
def vJ (k:Nat) (c:Cl) (Y:Bool->OS S):OS S:=Y (!((co .and .u32 c.pos c.neg)==0))
def zZ (k:Nat) (Y:Int->OS S) (s:LC) (rec0:Int->OS S) (v8:Int):OS S:=ac (decide ((v8:Int)<(s.length:Int))) (af (ak s v8) fun x1=>ab k (vJ k x1) fun r2=>ac (r2) (Y v8) (rec0 (ag .i64 (v8+1)))) (Y (-1))
def tB (k:Nat) (Y:Int->OS S) (s:LC):Nat->Int->OS S
 |0=>fun _=> .none
 |m+1=>fun v8=>zZ k Y s (tB k Y s m) v8
def Kd (k:Nat) (Y:Int->OS S) (J0:Int->OS S) (s:LC):OS S:=J0 0
def FT (k:Nat) (s:LC) (Y:Int->OS S):OS S:=Kd k Y (fun v8=>tB k Y s k v8) s
def FR (k:Nat) (s:LC) (Y:Bool->OS S):OS S:=ab k (FT k s) fun r1=>Y (decide ((r1:Int)>=0))
def mS (k:Nat) (f:LC) (Y:Bool->OS S):OS S:=ab k (lb k f) fun r1=>ac (r1) (ab k (FR k f) fun r2=>Y (!r2)) (Y false)
def Ab (k:Nat) (Y:Bool->OS S) (t:Tm) (dims:Int) (rec1:Int->OS S) (v109:Int):OS S:=ac (decide ((v109:Int)<(t.sys.length:Int))) (af (ak t.sys v109) fun x12=>ab k (om k t.kind) fun r13=>ac (!((x12.kids.length:Int)==r13)) (Y false) (ab k (mS k x12.face) fun r14=>ac (!r14) (Y false) (ab k (oq k x12.face dims) fun r15=>ac (!r15) (Y false) (rec1 (ag .i64 (v109+1)))))) (Y ((t.r.length:Int)==0))
def nq (k:Nat) (Y:Bool->OS S) (t:Tm) (dims:Int):Nat->Int->OS S
 |0=>fun _=> .none
 |m+1=>fun v109=>Ab k Y t dims (nq k Y t dims m) v109
def vC (k:Nat) (Y:Bool->OS S) (t:Tm) (vars dims:Int) (J1:Int->OS S):OS S:=ac (t.kind==1) (ac ((t.r.length:Int)==0) (ac (decide ((t.n:Int)>=0)) (ac (decide ((vars:Int)<0)) (Y true) (Y (decide ((t.n:Int)<vars)))) (Y false)) (Y false)) (ac (t.kind==2) (ac ((t.r.length:Int)==0) (ab k (Bd k t.name) fun r3=>Y r3) (Y false)) (ac (t.kind==13) (ab k (lb k t.r) fun r4=>ac (r4) (ab k (oq k t.r dims) fun r5=>Y r5) (Y false)) (ac (t.kind==21) (ab k (lb k t.r) fun r6=>ac (r6) (ab k (oq k t.r dims) fun r7=>Y r7) (Y false)) (ac (t.kind==26) (ab k (lb k t.r) fun r8=>ac (r8) (ab k (oq k t.r dims) fun r9=>Y r9) (Y false)) (ac (t.kind==14) (ab k (mS k t.r) fun r10=>ac (r10) (ab k (oq k t.r dims) fun r11=>Y r11) (Y false)) (J1 0))))))
def B8 (k:Nat) (Y:Bool->OS S) (t:Tm) (vars dims:Int):Nat->OS S
 |0=> .none
 |_+1=>vC k Y t vars dims (fun v109=>nq k Y t dims k v109)
def Kk (k:Nat) (Y:Bool->OS S) (J0:OS S) (t:Tm) (vars dims:Int):OS S:=ab k (Bb k t.kind) fun r1=>ac (!(r1==(t.kids.length:Int))) (Y false) (ac (!(t.kind==1)) (ac (!(t.n==0)) (Y false) (ac (!(t.kind==2)) (ac (!(t.name==av)) (Y false) (ab k (om k t.kind) fun r2=>ac (r2==0) (ac (decide (((t.sys.length:Int):Int)>0)) (Y false) (J0)) (J0))) (ab k (om k t.kind) fun r16=>ac (r16==0) (ac (decide (((t.sys.length:Int):Int)>0)) (Y false) (J0)) (J0)))) (ac (!(t.kind==2)) (ac (!(t.name==av)) (Y false) (ab k (om k t.kind) fun r17=>ac (r17==0) (ac (decide (((t.sys.length:Int):Int)>0)) (Y false) (J0)) (J0))) (ab k (om k t.kind) fun r18=>ac (r18==0) (ac (decide (((t.sys.length:Int):Int)>0)) (Y false) (J0)) (J0))))
def wB (k:Nat) (t:Tm) (vars dims:Int) (Y:Bool->OS S):OS S:=Kk k Y (B8 k Y t vars dims k) t vars dims
abbrev fZ (S:Type):=Tm->Int->Int->Bool->(Bool->OS S)->OS S
def wz (hd:fZ S) (k:Nat) (a_k:Tm) (v d c0 c1:Int) (c2:Bool) (Y:Bool->OS S):OS S:=ac (decide ((c0:Int)<0)) (hd (ae a_k) (ag .i64 (c0+0)) (ag .i64 (c1+d)) c2 fun r1=>Y r1) (hd (ae a_k) (ag .i64 (c0+v)) (ag .i64 (c1+d)) c2 fun r2=>Y r2)
def z_ (hd:fZ S) (k:Nat) (Y:Bool->OS S) (c0 c1:Int) (c2:Bool) (t:Tm) (v42:Int) (x4:(Br Tm)) (more9:Int) (rec1:Int->Int->OS S) (rec2:Int->OS S) (v49:Int):OS S:=ac (decide ((v49:Int)<(x4.kids.length:Int))) (af (ak x4.kids v49) fun x5=>ab k (wz hd k (ae x5) 0 more9 c0 c1 c2) fun r6=>ac (!r6) (Y false) (rec2 (ag .i64 (v49+1)))) (rec1 (ag .i64 (v42+1)) more9)
def oZ (hd:fZ S) (k:Nat) (Y:Bool->OS S) (rec1:Int->Int->OS S) (c0 c1:Int) (c2:Bool) (t:Tm) (v42:Int) (x4:(Br Tm)) (more9:Int):Nat->Int->OS S
 |0=>fun _=> .none
 |m+1=>fun v49=>z_ hd k Y c0 c1 c2 t v42 x4 more9 rec1 (oZ hd k Y rec1 c0 c1 c2 t v42 x4 more9 m) v49
def vw (hd:fZ S) (k:Nat) (Y:Bool->OS S) (c0 c1:Int) (c2:Bool) (t:Tm) (J2:Int->(Br Tm)->Int->Int->OS S) (rec1:Int->Int->OS S) (v42 more9:Int):OS S:=ac (decide ((v42:Int)<(t.sys.length:Int))) (af (ak t.sys v42) fun x4=>J2 v42 x4 more9 0) (Y true)
def lw (hd:fZ S) (k:Nat) (Y:Bool->OS S) (c0 c1:Int) (c2:Bool) (t:Tm):Nat->Int->Int->OS S
 |0=>fun _ _=> .none
 |m+1=>fun v42 more9=>vw hd k Y c0 c1 c2 t (fun v42 x4 more9 v49=>oZ hd k Y (lw hd k Y c0 c1 c2 t m) c0 c1 c2 t v42 x4 more9 k v49) (lw hd k Y c0 c1 c2 t m) v42 more9
def vv (hd:fZ S) (k:Nat) (Y:Bool->OS S) (c0 c1:Int) (c2:Bool) (t:Tm) (J1:Int->Int->OS S) (rec0:Int->OS S) (v17:Int):OS S:=ac (decide ((v17:Int)<(t.kids.length:Int))) (af (ak t.kids v17) fun x1=>ab k (ol k t.kind v17) fun r2=>ab k (wz hd k (ae x1) r2.1 r2.2 c0 c1 c2) fun r3=>ac (!r3) (Y false) (rec0 (ag .i64 (v17+1)))) (ac (t.kind==15) (J1 0 1) (J1 0 0))
def qA (hd:fZ S) (k:Nat) (Y:Bool->OS S) (c0 c1:Int) (c2:Bool) (t:Tm):Nat->Int->OS S
 |0=>fun _=> .none
 |m+1=>fun v17=>vv hd k Y c0 c1 c2 t (fun v42 more9=>lw hd k Y c0 c1 c2 t k v42 more9) (qA hd k Y c0 c1 c2 t m) v17
def Kh (hd:fZ S) (k:Nat) (Y:Bool->OS S) (J0:Int->OS S) (t:Tm) (c0 c1:Int) (c2:Bool):OS S:=J0 0
def Bc (hd:fZ S) (k:Nat) (t:Tm) (c0 c1:Int) (c2:Bool) (Y:Bool->OS S):OS S:=Kh hd k Y (fun v17=>qA hd k Y c0 c1 c2 t k v17) t c0 c1 c2
def Uj (hd:fZ S) (k:Nat) (Y:Bool->OS S) (t:Tm) (vars dims:Int) (bound:Bool):OS S:=ac (bound) (ac (decide ((dims:Int)>24)) (Y false) (ab k (wB k (ae t) vars dims) fun r1=>ac (!r1) (Y false) (ab k (Bc hd k (ae t) vars dims bound) fun r2=>Y r2))) (ab k (wB k (ae t) vars dims) fun r3=>ac (!r3) (Y false) (ab k (Bc hd k (ae t) vars dims bound) fun r4=>Y r4))
def kG:Nat->Tm->Int->Int->Bool->(Bool->OS S)->OS S
 |0=>fun _ _ _ _ _=> .none
 |k+1=>fun t vars dims bound Y=>Uj (kG k) k Y t vars dims bound
def ld (k:Nat) (t:Tm) (Y:Int->OS S):OS S:=ab k (Be k (ae t)) fun r1=>ac (!(r1==0)) (Y r1) (kG k (ae t) (-1) 24 false fun r2=>ac (!r2) (Y 100) (Y 0))
abbrev iR (S:Type):=Tm->(Tm->OS S)->OS S
def z7 (hd:iR S) (k:Nat) (Y:LT->OS S) (l:LT) (rec0:(LT)->Int->OS S) (out3:LT) (v8:Int):OS S:=ac (decide ((v8:Int)<(l.length:Int))) (af (ak l v8) fun x1=>hd (ae x1) fun r2=>af (aE 1099511627776 out3.length [(ae r2)].length) fun x3=>rec0 (out3++[(ae r2)]) (ag .i64 (v8+1))) (Y out3)
def tD (hd:iR S) (k:Nat) (Y:LT->OS S) (l:LT):Nat->(LT)->Int->OS S
 |0=>fun _ _=> .none
 |m+1=>fun out3 v8=>z7 hd k Y l (tD hd k Y l m) out3 v8
def Kf (hd:iR S) (k:Nat) (Y:LT->OS S) (J0:(LT)->Int->OS S) (l:LT):OS S:=J0 ([]:LT) 0
def wA (hd:iR S) (k:Nat) (l:LT) (Y:LT->OS S):OS S:=Kf hd k Y (fun out3 v8=>tD hd k Y l k out3 v8) l
def z6 (hd:iR S) (k:Nat) (Y:Tm->OS S) (t:Tm) (r1:LC) (r2:LT) (rec0:(LB)->Int->OS S) (b3_5:LB) (v22:Int):OS S:=ac (decide ((v22:Int)<(t.sys.length:Int))) (af (ak t.sys v22) fun x3=>tU x3.face fun r4=>ab k (wA hd k x3.kids) fun r5=>af (aE 1099511627776 b3_5.length [(Br.mk r4 r5)].length) fun x6=>rec0 (b3_5++[(Br.mk r4 r5)]) (ag .i64 (v22+1))) (Y (Tm.mk t.kind t.n t.name r1 r2 b3_5))
def tC (hd:iR S) (k:Nat) (Y:Tm->OS S) (t:Tm) (r1:LC) (r2:LT):Nat->(LB)->Int->OS S
 |0=>fun _ _=> .none
 |m+1=>fun b3_5 v22=>z6 hd k Y t r1 r2 (tC hd k Y t r1 r2 m) b3_5 v22
def Ke (hd:iR S) (k:Nat) (Y:Tm->OS S) (J0:(LC)->(LT)->(LB)->Int->OS S) (t:Tm):OS S:=tU t.r fun r1=>ab k (wA hd k t.kids) fun r2=>J0 r1 r2 ([]:LB) 0
def fT:Nat->Tm->(Tm->OS S)->OS S
 |0=>fun _ _=> .none
 |k+1=>fun t Y=>Ke (fT k) k Y (fun r1 r2 b3_5 v22=>tC (fT k) k Y t r1 r2 k b3_5 v22) t
def kA (k:Nat) (t:Tm) (a_e c0:Int) (Y:Tm×Int->OS S):OS S:=ac (c0==0) (ac (!(a_e==0)) (Y ((Tm.mk 0 0 av [] [] []),a_e)) (Y ((ae t),a_e))) (ac (!(c0==0)) (Y ((Tm.mk 0 0 av [] [] []),c0)) (Y ((ae t),c0)))
def iA (k:Nat) (c0:Int) (Y:Bool->OS S):OS S:=Y (c0==0)
def pU (k:Nat) (t:Tm) (c0:Int) (Y:Tm×Bool×Int×Int->OS S):OS S:=ab k (ld k (ae t)) fun r1=>ab k (kA k (ae t) r1 c0) fun r2=>fT k (ae r2.1) fun r3=>ab k (iA k r2.2) fun r4=>Y ((ae r3),r4,r2.2,r2.2)
def ze (k:Nat) (Y:Int->OS S) (l:List (LC)) (rec0:Int->OS S) (v7:Int):OS S:=ac (decide ((v7:Int)<(l.length:Int))) (af (ak l v7) fun x1=>ab k (lb k x1) fun r2=>ac (!r2) (Y 2) (rec0 (ag .i64 (v7+1)))) (Y 0)
def sV (k:Nat) (Y:Int->OS S) (l:List (LC)):Nat->Int->OS S
 |0=>fun _=> .none
 |m+1=>fun v7=>ze k Y l (sV k Y l m) v7
def Jq (k:Nat) (Y:Int->OS S) (J0:Int->OS S) (l:List (LC)):OS S:=J0 0
def rO (k:Nat) (l:List (LC)) (Y:Int->OS S):OS S:=Jq k Y (fun v7=>sV k Y l k v7) l
def rM (k:Nat) (Y:LC->OS S):OS S:=Y ([]:LC)
def rS (k:Nat) (i:Int) (Y:Int->OS S):OS S:=af (dT (0<=(ag .u64 (if 24<i then 24 else i)))) fun x1=>Y (ag .u32 (ag .u64 ((ag .u64 (1*2^min (dH (ag .u64 (if 24<i then 24 else i))) 64))-1)))
def oa (k:Nat) (s a_from a_by:Int) (Y:Int×Int->OS S):OS S:=ac (decide ((a_from:Int)<0)) (Y (0,2)) (ac (decide ((a_by:Int)<0)) (Y (0,2)) (ab k (rS k a_from) fun r1=>ab k (rS k a_from) fun r2=>ac ((ag .u64 (co .andNot .u32 (co .and .u32 s 16777215) r2))==0) (Y (co .and .u32 (co .and .u32 s 16777215) r1,0)) (ac (decide ((a_by:Int)>=24)) (Y (0,10)) (af (dT (0<=(ag .u64 a_by))) fun x3=>ac (decide ((ag .u64 ((ag .u64 (co .andNot .u32 (co .and .u32 s 16777215) r2))*2^min (dH (ag .u64 a_by)) 64):Int)>16777215)) (Y (0,10)) (af (dT (0<=(ag .u64 a_by))) fun x4=>Y (co .or .u32 (co .and .u32 (co .and .u32 s 16777215) r1) (ag .u32 (ag .u64 ((ag .u64 (co .andNot .u32 (co .and .u32 s 16777215) r2))*2^min (dH (ag .u64 a_by)) 64))),0))))))
def An (k:Nat) (c:Cl) (a_from a_by:Int) (Y:Cl×Int->OS S):OS S:=ab k (vK k c) fun r1=>ac (!r1) (Y ((Cl.mk 0 0),2)) (ab k (oa k c.pos a_from a_by) fun r2=>ac (!(r2.2==0)) (Y ((Cl.mk 0 0),r2.2)) (ab k (oa k c.neg a_from a_by) fun r3=>ac (!(r3.2==0)) (Y ((Cl.mk 0 0),r3.2)) (Y ((Cl.mk r2.1 r3.1),0))))
def FB (k:Nat) (a_have:LC) (c:Cl) (c0 c1:Int) (Y:LC×Int->OS S):OS S:=ab k (An k c c0 c1) fun r1=>af (aE 1099511627776 a_have.length [r1.1].length) fun x2=>Y (a_have++[r1.1],r1.2)
def zb (k:Nat) (Y:LC×Int->OS S) (c0 c1:Int) (l:LC) (rec0:(LC)->Int->OS S) (v1:LC) (v15:Int):OS S:=ac (decide ((v15:Int)<(l.length:Int))) (af (ak l v15) fun x1=>ab k (FB k v1 x1 c0 c1) fun r2=>ac (!(r2.2==0)) (Y (([]:LC),r2.2)) (rec0 r2.1 (ag .i64 (v15+1)))) (Y (v1,0))
def sS (k:Nat) (Y:LC×Int->OS S) (c0 c1:Int) (l:LC):Nat->(LC)->Int->OS S
 |0=>fun _ _=> .none
 |m+1=>fun v1 v15=>zb k Y c0 c1 l (sS k Y c0 c1 l m) v1 v15
def Jn (k:Nat) (Y:LC×Int->OS S) (J0:(LC)->Int->OS S) (l a_from:LC) (c0 c1:Int):OS S:=J0 a_from 0
def AD (k:Nat) (l a_from:LC) (c0 c1:Int) (Y:LC×Int->OS S):OS S:=Jn k Y (fun v1 v15=>sS k Y c0 c1 l k v1 v15) l a_from c0 c1
def n8 (k:Nat) (f:LC) (a_from a_by:Int) (Y:LC×Int->OS S):OS S:=ab k (rO k [f]) fun r1=>ac (!(r1==0)) (Y (([]:LC),r1)) (ab k (rM k) fun r2=>ab k (AD k f r2 a_from a_by) fun r3=>ac (!(r3.2==0)) (Y (([]:LC),r3.2)) (ab k (jX k r3.1) fun r4=>Y (r4.1,r4.2)))
def wa (k:Nat) (l_0 l_1:Int) (f:LC) (a_from:Int) (Y:Pan Int (LC)->OS S):OS S:=ac (l_1==0) (af (aE 1099511627776 0 f.length) fun x1=>Y (.ok f)) (ac (decide ((a_from:Int)>=24)) (af (aE 1099511627776 0 f.length) fun x2=>Y (.ok f)) (ab k (n8 k f a_from l_1) fun r3=>ac (!(r3.2==0)) (Y (.pan r3.2)) (Y (.ok r3.1))))
abbrev jI (S:Type):=Int->Int->Tm->Int->Int->(Pan Int Tm->OS S)->OS S
def zl (hd:jI S) (k:Nat) (Y:Pan Int Tm->OS S) (r12:LC) (l_0 l_1:Int) (t:Tm) (bJ:Int) (r2:LC) (b9_4:LT) (b9_5:LB) (x10:(Br Tm)) (more14 v d v90:Int) (rec2:(LB)->Int->Int->OS S) (rec3:(LT)->Int->OS S) (b17_1:LT) (v103:Int):OS S:=ac (decide ((v103:Int)<(x10.kids.length:Int))) (af (ak x10.kids v103) fun x14=>hd l_0 l_1 (ae x14) v (ag .i64 (d+more14)) fun r16=>Pan.elim r16 (fun r16=>af (aE 1099511627776 b17_1.length [(ae r16)].length) fun x18=>rec3 (b17_1++[(ae r16)]) (ag .i64 (v103+1))) (fun e17=>Y (.pan e17))) (af (aE 1099511627776 b9_5.length [(Br.mk r12 b17_1)].length) fun x19=>rec2 (b9_5++[(Br.mk r12 b17_1)]) more14 (ag .i64 (v90+1)))
def oP (hd:jI S) (k:Nat) (Y:Pan Int Tm->OS S) (rec2:(LB)->Int->Int->OS S) (r12:LC) (l_0 l_1:Int) (t:Tm) (bJ:Int) (r2:LC) (b9_4:LT) (b9_5:LB) (x10:(Br Tm)) (more14 v d v90:Int):Nat->(LT)->Int->OS S
 |0=>fun _ _=> .none
 |m+1=>fun b17_1 v103=>zl hd k Y r12 l_0 l_1 t bJ r2 b9_4 b9_5 x10 more14 v d v90 rec2 (oP hd k Y rec2 r12 l_0 l_1 t bJ r2 b9_4 b9_5 x10 more14 v d v90 m) b17_1 v103
def uY (hd:jI S) (k:Nat) (Y:Pan Int Tm->OS S) (l_0 l_1:Int) (t:Tm) (bJ:Int) (r2:LC) (b9_4:LT) (v d:Int) (J3:(LC)->(LB)->(Br Tm)->Int->Int->(LT)->Int->OS S) (rec2:(LB)->Int->Int->OS S) (b9_5:LB) (more14 v90:Int):OS S:=ac (decide ((v90:Int)<(t.sys.length:Int))) (af (ak t.sys v90) fun x10=>ab k (wa k l_0 l_1 x10.face d) fun r12=>Pan.elim r12 (fun r12=>J3 r12 b9_5 x10 more14 v90 ([]:LT) 0) (fun e13=>Y (.pan e13))) (Y (.ok (Tm.mk t.kind bJ t.name r2 b9_4 b9_5)))
def ln (hd:jI S) (k:Nat) (Y:Pan Int Tm->OS S) (l_0 l_1:Int) (t:Tm) (bJ:Int) (r2:LC) (b9_4:LT) (v d:Int):Nat->(LB)->Int->Int->OS S
 |0=>fun _ _ _=> .none
 |m+1=>fun b9_5 more14 v90=>uY hd k Y l_0 l_1 t bJ r2 b9_4 v d (fun r12 b9_5 x10 more14 v90 b17_1 v103=>oP hd k Y (ln hd k Y l_0 l_1 t bJ r2 b9_4 v d m) r12 l_0 l_1 t bJ r2 b9_4 b9_5 x10 more14 v d v90 k b17_1 v103) (ln hd k Y l_0 l_1 t bJ r2 b9_4 v d m) b9_5 more14 v90
def uX (hd:jI S) (k:Nat) (Y:Pan Int Tm->OS S) (l_0 l_1:Int) (t:Tm) (bJ:Int) (r2:LC) (v d:Int) (J2:(LT)->(LB)->Int->Int->OS S) (rec1:(LT)->Int->OS S) (b9_4:LT) (v57:Int):OS S:=ac (decide ((v57:Int)<(t.kids.length:Int))) (af (ak t.kids v57) fun x4=>ab k (ol k t.kind v57) fun r5=>hd l_0 l_1 (ae x4) (ag .i64 (v+r5.1)) (ag .i64 (d+r5.2)) fun r7=>Pan.elim r7 (fun r7=>af (aE 1099511627776 b9_4.length [(ae r7)].length) fun x9=>rec1 (b9_4++[(ae r7)]) (ag .i64 (v57+1))) (fun e8=>Y (.pan e8))) (ac (t.kind==15) (J2 b9_4 ([]:LB) 1 0) (J2 b9_4 ([]:LB) 0 0))
def m9 (hd:jI S) (k:Nat) (Y:Pan Int Tm->OS S) (l_0 l_1:Int) (t:Tm) (bJ:Int) (r2:LC) (v d:Int):Nat->(LT)->Int->OS S
 |0=>fun _ _=> .none
 |m+1=>fun b9_4 v57=>uX hd k Y l_0 l_1 t bJ r2 v d (fun b9_4 b9_5 more14 v90=>ln hd k Y l_0 l_1 t bJ r2 b9_4 v d k b9_5 more14 v90) (m9 hd k Y l_0 l_1 t bJ r2 v d m) b9_4 v57
def E1 (hd:jI S) (k:Nat) (Y:Pan Int Tm->OS S) (l_0 l_1:Int) (t:Tm) (r2:LC) (v d:Int) (J1:Int->(LT)->Int->OS S) (bJ:Int):OS S:=J1 bJ ([]:LT) 0
def w_ (hd:jI S) (k:Nat) (Y:Pan Int Tm->OS S) (l_0 l_1:Int) (t:Tm) (r2:LC) (v d:Int):Nat->Int->OS S
 |0=>fun _=> .none
 |_+1=>fun bJ=>E1 hd k Y l_0 l_1 t r2 v d (fun bJ b9_4 v57=>m9 hd k Y l_0 l_1 t bJ r2 v d k b9_4 v57) bJ
def Ju (hd:jI S) (k:Nat) (Y:Pan Int Tm->OS S) (J0:(LC)->Int->OS S) (l_0 l_1:Int) (t:Tm) (v d:Int):OS S:=ab k (wa k l_0 l_1 t.r d) fun r2=>Pan.elim r2 (fun r2=>ac (t.kind==1) (ac (decide ((t.n:Int)>=v)) (ac (decide ((t.n:Int)>(ag .i64 (1000000000-l_0)))) (Y (.pan 100)) (J0 r2 (ag .i64 (t.n+l_0)))) (J0 r2 t.n)) (J0 r2 t.n)) (fun e3=>Y (.pan e3))
def gE:Nat->Int->Int->Tm->Int->Int->(Pan Int Tm->OS S)->OS S
 |0=>fun _ _ _ _ _ _=> .none
 |k+1=>fun l_0 l_1 t v d Y=>Ju (gE k) k Y (fun r2 bJ=>w_ (gE k) k Y l_0 l_1 t r2 v d k bJ) l_0 l_1 t v d
def AJ (k:Nat) (c0 c1:Int) (c2:Tm) (Y:Pan Int Tm->OS S):OS S:=gE k c1 0 (ae c2) 0 0 fun r2=>Pan.elim r2 (fun r2=>gE k 0 c0 (ae r2) 0 0 fun r5=>Pan.elim r5 (fun r5=>Y (.ok (ae r5))) (fun e6=>Y (.pan e6))) (fun e3=>Y (.pan e3))
def zk (k:Nat) (Y:Tm×Int->OS S) (c0 c1:Int) (c2:Tm) (numbers:List Int) (rec0:Int->OS S) (v19:Int):OS S:=ac (decide ((v19:Int)<(numbers.length:Int))) (af (ak numbers v19) fun x2=>ac (decide ((x2:Int)<0)) (Y ((Tm.mk 0 0 av [] [] []),2)) (rec0 (ag .i64 (v19+1)))) (ab k (AJ k c0 c1 (ae c2)) fun r4=>Pan.elim r4 (fun r4=>Y ((ae r4),0)) (fun e5=>Y ((Tm.mk 0 0 av [] [] []),e5)))
def qh (k:Nat) (Y:Tm×Int->OS S) (c0 c1:Int) (c2:Tm) (numbers:List Int):Nat->Int->OS S
 |0=>fun _=> .none
 |m+1=>fun v19=>zk k Y c0 c1 c2 numbers (qh k Y c0 c1 c2 numbers m) v19
def Dz (k:Nat) (Y:Tm×Int->OS S) (J0:Int->OS S) (t:Tm) (numbers:List Int) (c0 c1:Int) (c2:Tm):OS S:=ab k (ld k (ae t)) fun r1=>ac (!(r1==0)) (Y ((Tm.mk 0 0 av [] [] []),r1)) (J0 0)
def AN (k:Nat) (t:Tm) (numbers:List Int) (c0 c1:Int) (c2:Tm) (Y:Tm×Int->OS S):OS S:=Dz k Y (fun v19=>qh k Y c0 c1 c2 numbers k v19) t numbers c0 c1 c2
def pS (k:Nat) (t:Tm) (vars dims:Int) (Y:Tm×Int->OS S):OS S:=ab k (AN k (ae t) [vars,dims,ag .i64 (1000000-vars)] dims vars (ae t)) fun r1=>Y ((ae r1.1),r1.2)
def jY (k:Nat) (t:Tm) (vars dims c0:Int) (Y:Tm×Int->OS S):OS S:=ab k (iA k c0) fun r1=>ac (!r1) (Y ((Tm.mk 0 0 av [] [] []),c0)) (ab k (pS k (ae t) vars dims) fun r2=>ab k (kA k (ae r2.1) r2.2 c0) fun r3=>Y ((ae r3.1),r3.2))
def ky (k:Nat) (a_e c0:Int) (Y:Int->OS S):OS S:=ac (c0==0) (Y a_e) (Y c0)
def yQ (k:Nat) (Y:Int->OS S) (l:LT) (rec0:Int->Int->OS S) (jU v10:Int):OS S:=ac (decide ((v10:Int)<(l.length:Int))) (af (ak l v10) fun x1=>ab k (ld k (ae x1)) fun r2=>ab k (ky k r2 jU) fun r3=>rec0 r3 (ag .i64 (v10+1))) (Y jU)
def sI (k:Nat) (Y:Int->OS S) (l:LT):Nat->Int->Int->OS S
 |0=>fun _ _=> .none
 |m+1=>fun jU v10=>yQ k Y l (sI k Y l m) jU v10
def I8 (k:Nat) (Y:Int->OS S) (J0:Int->Int->OS S) (l:LT):OS S:=J0 0 0
def n5 (k:Nat) (l:LT) (Y:Int->OS S):OS S:=I8 k Y (fun jU v10=>sI k Y l k jU v10) l
def fR (k:Nat) (c0:Int) (Y:Bool->OS S):OS S:=Y (c0==0)
def pQ (k:Nat) (f:LC) (c0:Int) (Y:LC×Int->OS S):OS S:=ab k (fR k c0) fun r1=>ac (!r1) (Y (([]:LC),c0)) (ab k (n8 k f 0 1) fun r2=>ab k (ky k r2.2 c0) fun r3=>Y (r2.1,r3))
def KM (k:Nat) (Y:Int->OS S) (l:List (LC)) (rec0:Int->OS S) (v7:Int):OS S:=ac (decide ((v7:Int)<(l.length:Int))) (af (ak l v7) fun x1=>ab k (mS k x1) fun r2=>ac (!r2) (Y 2) (rec0 (ag .i64 (v7+1)))) (Y 0)
def GV (k:Nat) (Y:Int->OS S) (l:List (LC)):Nat->Int->OS S
 |0=>fun _=> .none
 |m+1=>fun v7=>KM k Y l (GV k Y l m) v7
def Ub (k:Nat) (Y:Int->OS S) (J0:Int->OS S) (l:List (LC)):OS S:=J0 0
def Ls (k:Nat) (l:List (LC)) (Y:Int->OS S):OS S:=Ub k Y (fun v7=>GV k Y l k v7) l
def vS (k:Nat) (f g:LC) (Y:LC×Int->OS S):OS S:=af (aE 1099511627776 ([]:LC).length f.length) fun x1=>af (aE 1099511627776 (([]:LC)++f).length g.length) fun x2=>ab k (jX k ((([]:LC)++f)++g)) fun r3=>Y (r3.1,r3.2)
def Lq (k:Nat) (f g:LC) (Y:LC×Int->OS S):OS S:=ab k (Ls k [f,g]) fun r1=>ac (!(r1==0)) (Y (([]:LC),r1)) (ab k (vS k f g) fun r2=>Y (r2.1,r2.2))
def Fp (k:Nat) (f g:LC) (c0:Int) (Y:LC×Int->OS S):OS S:=ab k (fR k c0) fun r1=>ac (!r1) (Y (([]:LC),c0)) (ab k (Lq k f g) fun r2=>ab k (ky k r2.2 c0) fun r3=>Y (r2.1,r3))
def AM (k:Nat) (c0:Int) (c1:Tm) (c2:Int) (Y:Pan Int Tm->OS S):OS S:=gE k 0 c0 (ae c1) 0 (if 24<c2 then 24 else c2) fun r2=>Pan.elim r2 (fun r2=>Y (.ok (ae r2))) (fun e3=>Y (.pan e3))
def zj (k:Nat) (Y:Tm×Int->OS S) (c0:Int) (c1:Tm) (c2:Int) (numbers:List Int) (rec0:Int->OS S) (v19:Int):OS S:=ac (decide ((v19:Int)<(numbers.length:Int))) (af (ak numbers v19) fun x2=>ac (decide ((x2:Int)<0)) (Y ((Tm.mk 0 0 av [] [] []),2)) (rec0 (ag .i64 (v19+1)))) (ab k (AM k c0 (ae c1) c2) fun r4=>Pan.elim r4 (fun r4=>Y ((ae r4),0)) (fun e5=>Y ((Tm.mk 0 0 av [] [] []),e5)))
def qf (k:Nat) (Y:Tm×Int->OS S) (c0:Int) (c1:Tm) (c2:Int) (numbers:List Int):Nat->Int->OS S
 |0=>fun _=> .none
 |m+1=>fun v19=>zj k Y c0 c1 c2 numbers (qf k Y c0 c1 c2 numbers m) v19
def Jt (k:Nat) (Y:Tm×Int->OS S) (J0:Int->OS S) (t:Tm) (numbers:List Int) (c0:Int) (c1:Tm) (c2:Int):OS S:=ab k (ld k (ae t)) fun r1=>ac (!(r1==0)) (Y ((Tm.mk 0 0 av [] [] []),r1)) (J0 0)
def FM (k:Nat) (t:Tm) (numbers:List Int) (c0:Int) (c1:Tm) (c2:Int) (Y:Tm×Int->OS S):OS S:=Jt k Y (fun v19=>qf k Y c0 c1 c2 numbers k v19) t numbers c0 c1 c2
def AL (k:Nat) (t:Tm) (a_from a_by:Int) (Y:Tm×Int->OS S):OS S:=ab k (FM k (ae t) [a_from,a_by] a_by (ae t) a_from) fun r1=>Y ((ae r1.1),r1.2)
def lZ (k:Nat) (s i:Int) (Y:Int->OS S):OS S:=ab k (pT k i) fun r1=>ac (!r1) (Y (co .and .u32 s 16777215)) (af (dT (0<=(ag .u64 i))) fun x2=>Y (co .or .u32 (co .and .u32 s 16777215) (ag .u32 (1*2^min (dH (ag .u64 i)) 32))))
def LH (k:Nat) (a_x:Int) (Y:Int->OS S):OS S:=af (ak (ByteArray.mk #[0,1,1,2,1,2,2,3,1,2,2,3,2,3,3,4,1,2,2,3,2,3,3,4,2,3,3,4,3,4,4,5,1,2,2,3,2,3,3,4,2,3,3,4,3,4,4,5,2,3,3,4,3,4,4,5,3,4,4,5,4,5,5,6,1,2,2,3,2,3,3,4,2,3,3,4,3,4,4,5,2,3,3,4,3,4,4,5,3,4,4,5,4,5,5,6,2,3,3,4,3,4,4,5,3,4,4,5,4,5,5,6,3,4,4,5,4,5,5,6,4,5,5,6,5,6,6,7,1,2,2,3,2,3,3,4,2,3,3,4,3,4,4,5,2,3,3,4,3,4,4,5,3,4,4,5,4,5,5,6,2,3,3,4,3,4,4,5,3,4,4,5,4,5,5,6,3,4,4,5,4,5,5,6,4,5,5,6,5,6,6,7,2,3,3,4,3,4,4,5,3,4,4,5,4,5,5,6,3,4,4,5,4,5,5,6,4,5,5,6,5,6,6,7,3,4,4,5,4,5,5,6,4,5,5,6,5,6,6,7,4,5,5,6,5,6,6,7,5,6,6,7,6,7,7,8]).data.toList (Int.fdiv a_x (2^min (dH 24) 32))) fun x1=>af (ak (ByteArray.mk #[0,1,1,2,1,2,2,3,1,2,2,3,2,3,3,4,1,2,2,3,2,3,3,4,2,3,3,4,3,4,4,5,1,2,2,3,2,3,3,4,2,3,3,4,3,4,4,5,2,3,3,4,3,4,4,5,3,4,4,5,4,5,5,6,1,2,2,3,2,3,3,4,2,3,3,4,3,4,4,5,2,3,3,4,3,4,4,5,3,4,4,5,4,5,5,6,2,3,3,4,3,4,4,5,3,4,4,5,4,5,5,6,3,4,4,5,4,5,5,6,4,5,5,6,5,6,6,7,1,2,2,3,2,3,3,4,2,3,3,4,3,4,4,5,2,3,3,4,3,4,4,5,3,4,4,5,4,5,5,6,2,3,3,4,3,4,4,5,3,4,4,5,4,5,5,6,3,4,4,5,4,5,5,6,4,5,5,6,5,6,6,7,2,3,3,4,3,4,4,5,3,4,4,5,4,5,5,6,3,4,4,5,4,5,5,6,4,5,5,6,5,6,6,7,3,4,4,5,4,5,5,6,4,5,5,6,5,6,6,7,4,5,5,6,5,6,6,7,5,6,6,7,6,7,7,8]).data.toList (co .and .u32 (Int.fdiv a_x (2^min (dH 16) 32)) 255)) fun x2=>af (ak (ByteArray.mk #[0,1,1,2,1,2,2,3,1,2,2,3,2,3,3,4,1,2,2,3,2,3,3,4,2,3,3,4,3,4,4,5,1,2,2,3,2,3,3,4,2,3,3,4,3,4,4,5,2,3,3,4,3,4,4,5,3,4,4,5,4,5,5,6,1,2,2,3,2,3,3,4,2,3,3,4,3,4,4,5,2,3,3,4,3,4,4,5,3,4,4,5,4,5,5,6,2,3,3,4,3,4,4,5,3,4,4,5,4,5,5,6,3,4,4,5,4,5,5,6,4,5,5,6,5,6,6,7,1,2,2,3,2,3,3,4,2,3,3,4,3,4,4,5,2,3,3,4,3,4,4,5,3,4,4,5,4,5,5,6,2,3,3,4,3,4,4,5,3,4,4,5,4,5,5,6,3,4,4,5,4,5,5,6,4,5,5,6,5,6,6,7,2,3,3,4,3,4,4,5,3,4,4,5,4,5,5,6,3,4,4,5,4,5,5,6,4,5,5,6,5,6,6,7,3,4,4,5,4,5,5,6,4,5,5,6,5,6,6,7,4,5,5,6,5,6,6,7,5,6,6,7,6,7,7,8]).data.toList (co .and .u32 (Int.fdiv a_x (2^min (dH 8) 32)) 255)) fun x3=>af (ak (ByteArray.mk #[0,1,1,2,1,2,2,3,1,2,2,3,2,3,3,4,1,2,2,3,2,3,3,4,2,3,3,4,3,4,4,5,1,2,2,3,2,3,3,4,2,3,3,4,3,4,4,5,2,3,3,4,3,4,4,5,3,4,4,5,4,5,5,6,1,2,2,3,2,3,3,4,2,3,3,4,3,4,4,5,2,3,3,4,3,4,4,5,3,4,4,5,4,5,5,6,2,3,3,4,3,4,4,5,3,4,4,5,4,5,5,6,3,4,4,5,4,5,5,6,4,5,5,6,5,6,6,7,1,2,2,3,2,3,3,4,2,3,3,4,3,4,4,5,2,3,3,4,3,4,4,5,3,4,4,5,4,5,5,6,2,3,3,4,3,4,4,5,3,4,4,5,4,5,5,6,3,4,4,5,4,5,5,6,4,5,5,6,5,6,6,7,2,3,3,4,3,4,4,5,3,4,4,5,4,5,5,6,3,4,4,5,4,5,5,6,4,5,5,6,5,6,6,7,3,4,4,5,4,5,5,6,4,5,5,6,5,6,6,7,4,5,5,6,5,6,6,7,5,6,6,7,6,7,7,8]).data.toList (co .and .u32 a_x 255)) fun x4=>Y (ag .i64 (ag .u8 ((ag .u8 ((ag .u8 ((x1.toNat:Int)+(x2.toNat:Int)))+(x3.toNat:Int)))+(x4.toNat:Int))))
def n_ (k:Nat) (s:Int) (Y:Int->OS S):OS S:=ab k (LH k (co .and .u32 s 16777215)) fun r1=>Y r1
def Ao (k:Nat) (i:Int) (Y:Bool->OS S):OS S:=ab k (lZ k 0 i) fun r1=>ab k (n_ k r1) fun r2=>Y (r2==1)
def FA (k:Nat) (t:Tm) (i:Int) (a_r:LC) (Y:Int->OS S):OS S:=ab k (ld k (ae t)) fun r1=>ac (!(r1==0)) (Y r1) (ab k (Ao k i) fun r2=>ac (!r2) (Y 2) (ab k (lb k a_r) fun r3=>ac (!r3) (Y 2) (Y 0)))
def Fs (k:Nat) (c0:Int) (c1:LC) (Y:Unit->OS S):OS S:=Y ()
def Ft (k:Nat) (c0:Int) (c1:LC) (Y:Unit->OS S):OS S:=Y ()
def Fr (k:Nat) (i:Int) (a_r:LC) (Y:Int×LC->OS S):OS S:=ab k (Fs k i a_r) fun r1=>ab k (Ft k i a_r) fun r2=>Y (i,a_r)
def kz (k:Nat) (s i:Int) (Y:Bool->OS S):OS S:=ab k (pT k i) fun r1=>ac (r1) (af (dT (0<=(ag .u64 i))) fun x2=>Y ((co .and .u32 (Int.fdiv s (2^min (dH (ag .u64 i)) 32)) 1)==1)) (Y false)
def vL (k:Nat) (f:LC) (Y:LC->OS S):OS S:=af (aE 1099511627776 0 f.length) fun x1=>Y f
def vR (k:Nat) (i:Int) (Y:Bool->OS S):OS S:=ab k (lZ k 0 i) fun r1=>ab k (n_ k r1) fun r2=>Y (r2==1)
def vQ (k:Nat) (c:Cl) (Y:Cl×Bool->OS S):OS S:=ab k (vJ k c) fun r1=>Y (c,!r1)
def y7 (k:Nat) (Y:LC->OS S) (l:LC) (rec0:Int->(LC)->OS S) (v12:Int) (out5:LC):OS S:=ac (decide ((v12:Int)<(l.length:Int))) (af (ak l v12) fun x1=>ab k (vQ k x1) fun r2=>ac (r2.2) (af (aE 1099511627776 out5.length [r2.1].length) fun x3=>rec0 (ag .i64 (v12+1)) (out5++[r2.1])) (rec0 (ag .i64 (v12+1)) out5)) (Y out5)
def sN (k:Nat) (Y:LC->OS S) (l:LC):Nat->Int->(LC)->OS S
 |0=>fun _ _=> .none
 |m+1=>fun v12 out5=>y7 k Y l (sN k Y l m) v12 out5
def Ji (k:Nat) (Y:LC->OS S) (J0:Int->(LC)->OS S) (l:LC):OS S:=J0 0 ([]:LC)
def Aw (k:Nat) (l:LC) (Y:LC->OS S):OS S:=Ji k Y (fun v12 out5=>sN k Y l k v12 out5) l
def vP (k:Nat) (f:LC) (Y:LC×Int->OS S):OS S:=ab k (lb k f) fun r1=>ac (!r1) (Y (([]:LC),2)) (ab k (Aw k f) fun r2=>ab k (jX k r2) fun r3=>Y (r3.1,r3.2))
def Ax (k:Nat) (b c0:Cl) (Y:Cl×Bool->OS S):OS S:=ab k (rH k c0 b) fun r1=>ab k (vQ k r1) fun r2=>Y (r2.1,r2.2)
def y6 (k:Nat) (Y:LC->OS S) (c0:Cl) (l:LC) (rec0:Int->(LC)->OS S) (v12:Int) (out5:LC):OS S:=ac (decide ((v12:Int)<(l.length:Int))) (af (ak l v12) fun x1=>ab k (Ax k x1 c0) fun r2=>ac (r2.2) (af (aE 1099511627776 out5.length [r2.1].length) fun x3=>rec0 (ag .i64 (v12+1)) (out5++[r2.1])) (rec0 (ag .i64 (v12+1)) out5)) (Y out5)
def sM (k:Nat) (Y:LC->OS S) (c0:Cl) (l:LC):Nat->Int->(LC)->OS S
 |0=>fun _ _=> .none
 |m+1=>fun v12 out5=>y6 k Y c0 l (sM k Y c0 l m) v12 out5
def Jh (k:Nat) (Y:LC->OS S) (J0:Int->(LC)->OS S) (l:LC) (c0:Cl):OS S:=J0 0 ([]:LC)
def Av (k:Nat) (l:LC) (c0:Cl) (Y:LC->OS S):OS S:=Jh k Y (fun v12 out5=>sM k Y c0 l k v12 out5) l c0
def y8 (k:Nat) (Y:LC×Int->OS S) (g f:LC) (rec0:Int->(LC)->OS S) (v11:Int) (out6:LC):OS S:=ac (decide ((v11:Int)<(f.length:Int))) (af (ak f v11) fun x1=>ab k (Av k g x1) fun r2=>af (aE 1099511627776 out6.length r2.length) fun x3=>rec0 (ag .i64 (v11+1)) (out6++r2)) (ab k (jX k out6) fun r4=>Y (r4.1,r4.2))
def sO (k:Nat) (Y:LC×Int->OS S) (g f:LC):Nat->Int->(LC)->OS S
 |0=>fun _ _=> .none
 |m+1=>fun v11 out6=>y8 k Y g f (sO k Y g f m) v11 out6
def Jj (k:Nat) (Y:LC×Int->OS S) (J0:Int->(LC)->OS S) (f g:LC):OS S:=J0 0 ([]:LC)
def rJ (k:Nat) (f g:LC) (Y:LC×Int->OS S):OS S:=Jj k Y (fun v11 out6=>sO k Y g f k v11 out6) f g
def vT (k:Nat) (Y:LC->OS S):OS S:=Y [(Cl.mk 0 0)]
def zd (k:Nat) (Y:LC×Int->OS S) (r5:List Int) (rec1:Int->(LC)->OS S) (v28:Int) (out4':LC):OS S:=ac (decide ((v28:Int)<(r5.length:Int))) (af (ak r5 v28) fun x6=>ab k (lZ k 0 x6) fun r7=>af (aE 1099511627776 out4'.length [(Cl.mk r7 0)].length) fun x8=>rec1 (ag .i64 (v28+1)) (out4'++[(Cl.mk r7 0)])) (ab k (jX k out4') fun r9=>Y (r9.1,r9.2))
def qe (k:Nat) (Y:LC×Int->OS S) (r5:List Int):Nat->Int->(LC)->OS S
 |0=>fun _ _=> .none
 |m+1=>fun v28 out4'=>zd k Y r5 (qe k Y r5 m) v28 out4'
def uW (k:Nat) (Y:LC×Int->OS S) (c:Cl) (r1:List Int) (J1:(List Int)->Int->(LC)->OS S) (rec0:Int->(LC)->OS S) (v13:Int) (out4:LC):OS S:=ac (decide ((v13:Int)<(r1.length:Int))) (af (ak r1 v13) fun x2=>ab k (lZ k 0 x2) fun r3=>af (aE 1099511627776 out4.length [(Cl.mk 0 r3)].length) fun x4=>rec0 (ag .i64 (v13+1)) (out4++[(Cl.mk 0 r3)])) (xU c.neg fun r5=>J1 r5 0 out4)
def sU (k:Nat) (Y:LC×Int->OS S) (c:Cl) (r1:List Int):Nat->Int->(LC)->OS S
 |0=>fun _ _=> .none
 |m+1=>fun v13 out4=>uW k Y c r1 (fun r5 v28 out4'=>qe k Y r5 k v28 out4') (sU k Y c r1 m) v13 out4
def Jp (k:Nat) (Y:LC×Int->OS S) (J0:(List Int)->Int->(LC)->OS S) (c:Cl):OS S:=xU c.pos fun r1=>J0 r1 0 ([]:LC)
def AF (k:Nat) (c:Cl) (Y:LC×Int->OS S):OS S:=Jp k Y (fun r1 v13 out4=>sU k Y c r1 k v13 out4) c
def zc (k:Nat) (Y:LC×Int->OS S) (x1:Cl) (g f:LC) (v13:Int) (rec0:Int->(LC)->OS S) (rec1:Int->(LC)->OS S) (v19:Int) (out6':LC):OS S:=ac (decide ((v19:Int)<(g.length:Int))) (af (ak g v19) fun x2=>ab k (rH k x1 x2) fun r3=>af (aE 1099511627776 out6'.length [r3].length) fun x4=>rec1 (ag .i64 (v19+1)) (out6'++[r3])) (rec0 (ag .i64 (v13+1)) out6')
def qc (k:Nat) (Y:LC×Int->OS S) (rec0:Int->(LC)->OS S) (x1:Cl) (g f:LC) (v13:Int):Nat->Int->(LC)->OS S
 |0=>fun _ _=> .none
 |m+1=>fun v19 out6'=>zc k Y x1 g f v13 rec0 (qc k Y rec0 x1 g f v13 m) v19 out6'
def uV (k:Nat) (Y:LC×Int->OS S) (g f:LC) (J1:Cl->Int->Int->(LC)->OS S) (rec0:Int->(LC)->OS S) (v13:Int) (out6:LC):OS S:=ac (decide ((v13:Int)<(f.length:Int))) (af (ak f v13) fun x1=>J1 x1 v13 0 out6) (ab k (jX k out6) fun r5=>Y (r5.1,r5.2))
def oO (k:Nat) (Y:LC×Int->OS S) (g f:LC):Nat->Int->(LC)->OS S
 |0=>fun _ _=> .none
 |m+1=>fun v13 out6=>uV k Y g f (fun x1 v13 v19 out6'=>qc k Y (oO k Y g f m) x1 g f v13 k v19 out6') (oO k Y g f m) v13 out6
def Jo (k:Nat) (Y:LC×Int->OS S) (J0:Int->(LC)->OS S) (f g:LC):OS S:=J0 0 ([]:LC)
def mT (k:Nat) (f g:LC) (Y:LC×Int->OS S):OS S:=Jo k Y (fun v13 out6=>oO k Y g f k v13 out6) f g
def AE (k:Nat) (a_have:LC) (c:Cl) (Y:LC×Int->OS S):OS S:=ab k (AF k c) fun r1=>ac (!(r1.2==0)) (Y (([]:LC),r1.2)) (ab k (mT k a_have r1.1) fun r2=>Y (r2.1,r2.2))
def za (k:Nat) (Y:LC×Int->OS S) (l:LC) (rec0:(LC)->Int->OS S) (v1:LC) (v15:Int):OS S:=ac (decide ((v15:Int)<(l.length:Int))) (af (ak l v15) fun x1=>ab k (AE k v1 x1) fun r2=>ac (!(r2.2==0)) (Y (([]:LC),r2.2)) (rec0 r2.1 (ag .i64 (v15+1)))) (Y (v1,0))
def sR (k:Nat) (Y:LC×Int->OS S) (l:LC):Nat->(LC)->Int->OS S
 |0=>fun _ _=> .none
 |m+1=>fun v1 v15=>za k Y l (sR k Y l m) v1 v15
def Jm (k:Nat) (Y:LC×Int->OS S) (J0:(LC)->Int->OS S) (l a_from:LC):OS S:=J0 a_from 0
def FD (k:Nat) (l a_from:LC) (Y:LC×Int->OS S):OS S:=Jm k Y (fun v1 v15=>sR k Y l k v1 v15) l a_from
def rN (k:Nat) (f:LC) (Y:LC×Int->OS S):OS S:=ab k (vT k) fun r1=>ab k (FD k f r1) fun r2=>Y (r2.1,r2.2)
def Az (k:Nat) (f:LC) (Y:LC×Int->OS S):OS S:=ab k (rO k [f]) fun r1=>ac (!(r1==0)) (Y (([]:LC),r1)) (ab k (rN k f) fun r2=>Y (r2.1,r2.2))
def As (k:Nat) (f:LC) (Y:LC×Int->OS S):OS S:=ab k (Az k f) fun r1=>ac (!(r1.2==0)) (Y (([]:LC),r1.2)) (ab k (vP k r1.1) fun r2=>Y (r2.1,r2.2))
def yZ (k:Nat) (Y:LC×Int->OS S) (i:Int) (a_r f:LC) (v29:Int) (v8:LC) (rec0:Int->(LC)->OS S) (g11:LC) (v13:Int):OS S:=ac (v13==0) (ab k (vS k v8 g11) fun r10=>ac (!(r10.2==0)) (Y (([]:LC),r10.2)) (rec0 (ag .i64 (v29+1)) r10.1)) (ac (!(v13==0)) (Y (([]:LC),v13)) (rec0 (ag .i64 (v29+1)) v8))
def sL (k:Nat) (Y:LC×Int->OS S) (rec0:Int->(LC)->OS S) (i:Int) (a_r f:LC) (v29:Int) (v8:LC):Nat->(LC)->Int->OS S
 |0=>fun _ _=> .none
 |_+1=>fun g11 v13=>yZ k Y i a_r f v29 v8 rec0 g11 v13
def uU (k:Nat) (Y:LC×Int->OS S) (i:Int) (a_r f:LC) (J1:Int->(LC)->(LC)->Int->OS S) (rec0:Int->(LC)->OS S) (v29:Int) (v8:LC):OS S:=ac (decide ((v29:Int)<(f.length:Int))) (af (ak f v29) fun x4=>ab k (mU k x4.pos i) fun r5=>ab k (mU k x4.neg i) fun r6=>ab k (kz k x4.pos i) fun r7=>ac (r7) (ab k (vP k a_r) fun r8=>ac (r8.2==0) (ab k (rJ k [(Cl.mk r5 r6)] r8.1) fun r9=>J1 v29 v8 r9.1 r9.2) (J1 v29 v8 [(Cl.mk r5 r6)] r8.2)) (ab k (kz k x4.neg i) fun r11=>ac (r11) (ab k (As k a_r) fun r12=>ac (r12.2==0) (ab k (rJ k [(Cl.mk r5 r6)] r12.1) fun r13=>J1 v29 v8 r13.1 r13.2) (J1 v29 v8 [(Cl.mk r5 r6)] r12.2)) (J1 v29 v8 [(Cl.mk r5 r6)] 0))) (Y (v8,0))
def oN (k:Nat) (Y:LC×Int->OS S) (i:Int) (a_r f:LC):Nat->Int->(LC)->OS S
 |0=>fun _ _=> .none
 |m+1=>fun v29 v8=>uU k Y i a_r f (fun v29 v8 g11 v13=>sL k Y (oN k Y i a_r f m) i a_r f v29 v8 k g11 v13) (oN k Y i a_r f m) v29 v8
def Jg (k:Nat) (Y:LC×Int->OS S) (J0:Int->(LC)->OS S) (f:LC) (i:Int) (a_r:LC):OS S:=ab k (mS k f) fun r1=>ac (!r1) (Y (([]:LC),2)) (ab k (vR k i) fun r2=>ac (!r2) (Y (([]:LC),2)) (ab k (lb k a_r) fun r3=>ac (!r3) (Y (([]:LC),2)) (J0 0 [])))
def Au (k:Nat) (f:LC) (i:Int) (a_r:LC) (Y:LC×Int->OS S):OS S:=Jg k Y (fun v29 v8=>oN k Y i a_r f k v29 v8) f i a_r
def vM (k:Nat) (f:LC) (depth c0:Int) (c1:LC) (Y:LC×Int->OS S):OS S:=ab k (rL k f) fun r1=>ab k (kz k r1 (ag .i64 (c0+depth))) fun r2=>ac (!r2) (ab k (vL k f) fun r3=>Y (r3,0)) (ab k (n8 k c1 0 depth) fun r4=>ac (!(r4.2==0)) (Y (([]:LC),r4.2)) (ab k (Au k f (ag .i64 (c0+depth)) r4.1) fun r5=>Y (r5.1,r5.2)))
def Ay (k:Nat) (i:Int) (Y:LC×Int->OS S):OS S:=ab k (lZ k 0 i) fun r1=>ab k (n_ k r1) fun r2=>ac (r2==0) (Y (([]:LC),2)) (ab k (lZ k 0 i) fun r3=>Y ([(Cl.mk r3 0)],0))
def pR (k:Nat) (f g:LC) (Y:LC×Int->OS S):OS S:=af (aE 1099511627776 ([]:LC).length f.length) fun x1=>af (aE 1099511627776 (([]:LC)++f).length g.length) fun x2=>ab k (jX k ((([]:LC)++f)++g)) fun r3=>Y (r3.1,r3.2)
def AC (k:Nat) (a_have:LC) (c:Cl) (c0:Int) (c1:LC) (Y:LC×Int->OS S):OS S:=ab k (mU k c.pos c0) fun r1=>ab k (mU k c.neg c0) fun r2=>ab k (kz k c.pos c0) fun r3=>ac (r3) (ab k (mT k [(Cl.mk r1 r2)] c1) fun r4=>ac (!(r4.2==0)) (Y (([]:LC),r4.2)) (ab k (kz k c.neg c0) fun r5=>ac (r5) (ab k (rN k c1) fun r6=>ac (!(r6.2==0)) (Y (([]:LC),r6.2)) (ab k (mT k r4.1 r6.1) fun r7=>ac (!(r7.2==0)) (Y (([]:LC),r7.2)) (ab k (pR k a_have r7.1) fun r8=>Y (r8.1,r8.2)))) (ab k (pR k a_have r4.1) fun r9=>Y (r9.1,r9.2)))) (ab k (kz k c.neg c0) fun r10=>ac (r10) (ab k (rN k c1) fun r11=>ac (!(r11.2==0)) (Y (([]:LC),r11.2)) (ab k (mT k [(Cl.mk r1 r2)] r11.1) fun r12=>ac (!(r12.2==0)) (Y (([]:LC),r12.2)) (ab k (pR k a_have r12.1) fun r13=>Y (r13.1,r13.2)))) (ab k (pR k a_have [(Cl.mk r1 r2)]) fun r14=>Y (r14.1,r14.2)))
def y_ (k:Nat) (Y:LC×Int->OS S) (c0:Int) (c1 l:LC) (rec0:(LC)->Int->OS S) (v1:LC) (v15:Int):OS S:=ac (decide ((v15:Int)<(l.length:Int))) (af (ak l v15) fun x1=>ab k (AC k v1 x1 c0 c1) fun r2=>ac (!(r2.2==0)) (Y (([]:LC),r2.2)) (rec0 r2.1 (ag .i64 (v15+1)))) (Y (v1,0))
def sQ (k:Nat) (Y:LC×Int->OS S) (c0:Int) (c1 l:LC):Nat->(LC)->Int->OS S
 |0=>fun _ _=> .none
 |m+1=>fun v1 v15=>y_ k Y c0 c1 l (sQ k Y c0 c1 l m) v1 v15
def Jl (k:Nat) (Y:LC×Int->OS S) (J0:(LC)->Int->OS S) (l a_from:LC) (c0:Int) (c1:LC):OS S:=J0 a_from 0
def FC (k:Nat) (l a_from:LC) (c0:Int) (c1:LC) (Y:LC×Int->OS S):OS S:=Jl k Y (fun v1 v15=>sQ k Y c0 c1 l k v1 v15) l a_from c0 c1
def AB (k:Nat) (f:LC) (i:Int) (a_r:LC) (Y:LC×Int->OS S):OS S:=ab k (rO k [f,a_r]) fun r1=>ac (!(r1==0)) (Y (([]:LC),r1)) (ab k (Ay k i) fun r2=>ac (!(r2.2==0)) (Y (([]:LC),r2.2)) (ab k (rM k) fun r3=>ab k (FC k f r3 i a_r) fun r4=>Y (r4.1,r4.2)))
def Ap (k:Nat) (f:LC) (depth c0:Int) (c1:LC) (Y:LC×Int->OS S):OS S:=ab k (rL k f) fun r1=>ab k (kz k r1 (ag .i64 (c0+depth))) fun r2=>ac (!r2) (ab k (vL k f) fun r3=>Y (r3,0)) (ab k (n8 k c1 0 depth) fun r4=>ac (!(r4.2==0)) (Y (([]:LC),r4.2)) (ab k (AB k f (ag .i64 (c0+depth)) r4.1) fun r5=>Y (r5.1,r5.2)))
def Aq (k:Nat) (t:Tm) (depth c0:Int) (c1:LC) (Y:LC×Int->OS S):OS S:=ac (t.kind==14) (ab k (vM k t.r depth c0 c1) fun r1=>Y (r1.1,r1.2)) (ab k (Ap k t.r depth c0 c1) fun r2=>Y (r2.1,r2.2))
def vN (k:Nat) (i:Int) (c0:Tm) (Y:Int->OS S):OS S:=ab k (ol k c0.kind i) fun r1=>Y r1.2
def vO (k:Nat) (p c0:Int) (Y:Int->OS S):OS S:=Y c0
abbrev e_ (S:Type):=Tm->Int->Int->(LC)->(Tm×Int->OS S)->OS S
def yV (hd:e_ S) (k:Nat) (Y:LT×Int->OS S) (c0:Int) (c1:LC) (c4:Int) (l:LT) (depth:Int) (rec0:(LT)->Int->OS S) (out10:LT) (v17:Int):OS S:=ac (decide ((v17:Int)<(l.length:Int))) (af (ak l v17) fun x1=>ab k (vO k v17 c4) fun r2=>hd (ae x1) (ag .i64 (depth+r2)) c0 c1 fun r3=>ac (!(r3.2==0)) (Y (([]:LT),r3.2)) (af (aE 1099511627776 out10.length [(ae r3.1)].length) fun x4=>rec0 (out10++[(ae r3.1)]) (ag .i64 (v17+1)))) (Y (out10,0))
def oL (hd:e_ S) (k:Nat) (Y:LT×Int->OS S) (c0:Int) (c1:LC) (c4:Int) (l:LT) (depth:Int):Nat->(LT)->Int->OS S
 |0=>fun _ _=> .none
 |m+1=>fun out10 v17=>yV hd k Y c0 c1 c4 l depth (oL hd k Y c0 c1 c4 l depth m) out10 v17
def Jc (hd:e_ S) (k:Nat) (Y:LT×Int->OS S) (J0:(LT)->Int->OS S) (l:LT) (depth c0:Int) (c1:LC) (c4:Int):OS S:=J0 ([]:LT) 0
def Fy (hd:e_ S) (k:Nat) (l:LT) (depth c0:Int) (c1:LC) (c4:Int) (Y:LT×Int->OS S):OS S:=Jc hd k Y (fun out10 v17=>oL hd k Y c0 c1 c4 l depth k out10 v17) l depth c0 c1 c4
def yW (hd:e_ S) (k:Nat) (Y:LT×Int->OS S) (c0:Int) (c1:LC) (c4:Tm) (l:LT) (depth:Int) (rec0:(LT)->Int->OS S) (out10:LT) (v17:Int):OS S:=ac (decide ((v17:Int)<(l.length:Int))) (af (ak l v17) fun x1=>ab k (vN k v17 (ae c4)) fun r2=>hd (ae x1) (ag .i64 (depth+r2)) c0 c1 fun r3=>ac (!(r3.2==0)) (Y (([]:LT),r3.2)) (af (aE 1099511627776 out10.length [(ae r3.1)].length) fun x4=>rec0 (out10++[(ae r3.1)]) (ag .i64 (v17+1)))) (Y (out10,0))
def oM (hd:e_ S) (k:Nat) (Y:LT×Int->OS S) (c0:Int) (c1:LC) (c4:Tm) (l:LT) (depth:Int):Nat->(LT)->Int->OS S
 |0=>fun _ _=> .none
 |m+1=>fun out10 v17=>yW hd k Y c0 c1 c4 l depth (oM hd k Y c0 c1 c4 l depth m) out10 v17
def Jd (hd:e_ S) (k:Nat) (Y:LT×Int->OS S) (J0:(LT)->Int->OS S) (l:LT) (depth c0:Int) (c1:LC) (c4:Tm):OS S:=J0 ([]:LT) 0
def Fz (hd:e_ S) (k:Nat) (l:LT) (depth c0:Int) (c1:LC) (c4:Tm) (Y:LT×Int->OS S):OS S:=Jd hd k Y (fun out10 v17=>oM hd k Y c0 c1 c4 l depth k out10 v17) l depth c0 c1 c4
def yX (hd:e_ S) (k:Nat) (Y:Tm×Int->OS S) (c0:Int) (c1:LC) (t:Tm) (r1:LC×Int) (r2:LT×Int) (depth:Int) (rec0:Int->(LB)->Int->OS S) (ez:Int) (b8_5:LB) (v55:Int):OS S:=ac (decide ((v55:Int)<(t.sys.length:Int))) (af (ak t.sys v55) fun x3=>ab k (vM k x3.face depth c0 c1) fun r4=>ac (!(r4.2==0)) (Y ((Tm.mk 0 0 av [] [] []),r4.2)) (ac ((r4.1.length:Int)==0) (rec0 ez b8_5 (ag .i64 (v55+1))) (ab k (Fy hd k x3.kids depth c0 c1 ez) fun r5=>ac (!(r5.2==0)) (Y ((Tm.mk 0 0 av [] [] []),r5.2)) (af (aE 1099511627776 b8_5.length [(Br.mk r4.1 r5.1)].length) fun x6=>rec0 ez (b8_5++[(Br.mk r4.1 r5.1)]) (ag .i64 (v55+1)))))) (Y ((Tm.mk t.kind t.n t.name r1.1 r2.1 b8_5),0))
def j_ (hd:e_ S) (k:Nat) (Y:Tm×Int->OS S) (c0:Int) (c1:LC) (t:Tm) (r1:LC×Int) (r2:LT×Int) (depth:Int):Nat->Int->(LB)->Int->OS S
 |0=>fun _ _ _=> .none
 |m+1=>fun ez b8_5 v55=>yX hd k Y c0 c1 t r1 r2 depth (j_ hd k Y c0 c1 t r1 r2 depth m) ez b8_5 v55
def Je (hd:e_ S) (k:Nat) (Y:Tm×Int->OS S) (J0:(LC×Int)->(LT×Int)->Int->(LB)->Int->OS S) (t:Tm) (depth c0:Int) (c1:LC):OS S:=ab k (Aq k (ae t) depth c0 c1) fun r1=>ac (!(r1.2==0)) (Y ((Tm.mk 0 0 av [] [] []),r1.2)) (ab k (Fz hd k t.kids depth c0 c1 (ae t)) fun r2=>ac (!(r2.2==0)) (Y ((Tm.mk 0 0 av [] [] []),r2.2)) (ac (t.kind==15) (J0 r1 r2 1 ([]:LB) 0) (J0 r1 r2 0 ([]:LB) 0)))
def g6:Nat->Tm->Int->Int->(LC)->(Tm×Int->OS S)->OS S
 |0=>fun _ _ _ _ _=> .none
 |k+1=>fun t depth c0 c1 Y=>Je (g6 k) k Y (fun r1 r2 ez b8_5 v55=>j_ (g6 k) k Y c0 c1 t r1 r2 depth k ez b8_5 v55) t depth c0 c1
def Fq (k:Nat) (i:Int) (Y:Int->OS S):OS S:=Y i
def rQ (k:Nat) (s i:Int) (Y:Int->OS S):OS S:=ab k (pT k i) fun r1=>ac (!r1) (Y (co .and .u32 s 16777215)) (ab k (rS k i) fun r2=>af (dT (0<=(ag .u64 (ag .i64 (i+1))))) fun x3=>af (dT (0<=(ag .u64 i))) fun x4=>Y (co .or .u32 (co .and .u32 (co .and .u32 s 16777215) r2) (ag .u32 ((Int.fdiv (co .and .u32 s 16777215) (2^min (dH (ag .u64 (ag .i64 (i+1)))) 32))*2^min (dH (ag .u64 i)) 32))))
def yS (k:Nat) (Y:LC×Int->OS S) (c0 depth:Int) (f:LC) (rec0:Int->(LC)->OS S) (v12:Int) (out7:LC):OS S:=ac (decide ((v12:Int)<(f.length:Int))) (af (ak f v12) fun x1=>ab k (rQ k x1.pos (ag .i64 (c0+depth))) fun r2=>ab k (rQ k x1.neg (ag .i64 (c0+depth))) fun r3=>af (aE 1099511627776 out7.length [(Cl.mk r2 r3)].length) fun x4=>rec0 (ag .i64 (v12+1)) (out7++[(Cl.mk r2 r3)])) (ab k (jX k out7) fun r5=>Y (r5.1,r5.2))
def sK (k:Nat) (Y:LC×Int->OS S) (c0 depth:Int) (f:LC):Nat->Int->(LC)->OS S
 |0=>fun _ _=> .none
 |m+1=>fun v12 out7=>yS k Y c0 depth f (sK k Y c0 depth f m) v12 out7
def I_ (k:Nat) (Y:LC×Int->OS S) (J0:Int->(LC)->OS S) (f:LC) (depth c0:Int):OS S:=J0 0 ([]:LC)
def rI (k:Nat) (f:LC) (depth c0:Int) (Y:LC×Int->OS S):OS S:=I_ k Y (fun v12 out7=>sK k Y c0 depth f k v12 out7) f depth c0
def Ar (k:Nat) (t:Tm) (depth c0:Int) (Y:LC×Int->OS S):OS S:=ac (t.kind==14) (ab k (rI k t.r depth c0) fun r1=>Y (r1.1,r1.2)) (ab k (rI k t.r depth c0) fun r2=>Y (r2.1,r2.2))
abbrev fc (S:Type):=Tm->Int->Int->(Tm×Int->OS S)->OS S
def yT (hd:fc S) (k:Nat) (Y:LT×Int->OS S) (c0 c1:Int) (l:LT) (depth:Int) (rec0:(LT)->Int->OS S) (out10:LT) (v17:Int):OS S:=ac (decide ((v17:Int)<(l.length:Int))) (af (ak l v17) fun x1=>ab k (vO k v17 c1) fun r2=>hd (ae x1) (ag .i64 (depth+r2)) c0 fun r3=>ac (!(r3.2==0)) (Y (([]:LT),r3.2)) (af (aE 1099511627776 out10.length [(ae r3.1)].length) fun x4=>rec0 (out10++[(ae r3.1)]) (ag .i64 (v17+1)))) (Y (out10,0))
def oJ (hd:fc S) (k:Nat) (Y:LT×Int->OS S) (c0 c1:Int) (l:LT) (depth:Int):Nat->(LT)->Int->OS S
 |0=>fun _ _=> .none
 |m+1=>fun out10 v17=>yT hd k Y c0 c1 l depth (oJ hd k Y c0 c1 l depth m) out10 v17
def Ja (hd:fc S) (k:Nat) (Y:LT×Int->OS S) (J0:(LT)->Int->OS S) (l:LT) (depth c0 c1:Int):OS S:=J0 ([]:LT) 0
def Fv (hd:fc S) (k:Nat) (l:LT) (depth c0 c1:Int) (Y:LT×Int->OS S):OS S:=Ja hd k Y (fun out10 v17=>oJ hd k Y c0 c1 l depth k out10 v17) l depth c0 c1
def yU (hd:fc S) (k:Nat) (Y:LT×Int->OS S) (c0:Int) (c1:Tm) (l:LT) (depth:Int) (rec0:(LT)->Int->OS S) (out10:LT) (v17:Int):OS S:=ac (decide ((v17:Int)<(l.length:Int))) (af (ak l v17) fun x1=>ab k (vN k v17 (ae c1)) fun r2=>hd (ae x1) (ag .i64 (depth+r2)) c0 fun r3=>ac (!(r3.2==0)) (Y (([]:LT),r3.2)) (af (aE 1099511627776 out10.length [(ae r3.1)].length) fun x4=>rec0 (out10++[(ae r3.1)]) (ag .i64 (v17+1)))) (Y (out10,0))
def oK (hd:fc S) (k:Nat) (Y:LT×Int->OS S) (c0:Int) (c1:Tm) (l:LT) (depth:Int):Nat->(LT)->Int->OS S
 |0=>fun _ _=> .none
 |m+1=>fun out10 v17=>yU hd k Y c0 c1 l depth (oK hd k Y c0 c1 l depth m) out10 v17
def Jb (hd:fc S) (k:Nat) (Y:LT×Int->OS S) (J0:(LT)->Int->OS S) (l:LT) (depth c0:Int) (c1:Tm):OS S:=J0 ([]:LT) 0
def Fw (hd:fc S) (k:Nat) (l:LT) (depth c0:Int) (c1:Tm) (Y:LT×Int->OS S):OS S:=Jb hd k Y (fun out10 v17=>oK hd k Y c0 c1 l depth k out10 v17) l depth c0 c1
def yY (hd:fc S) (k:Nat) (Y:Tm×Int->OS S) (c0:Int) (t:Tm) (r1:LC×Int) (r2:LT×Int) (depth:Int) (rec0:Int->(LB)->Int->OS S) (ez:Int) (b8_5:LB) (v55:Int):OS S:=ac (decide ((v55:Int)<(t.sys.length:Int))) (af (ak t.sys v55) fun x3=>ab k (rI k x3.face depth c0) fun r4=>ac (!(r4.2==0)) (Y ((Tm.mk 0 0 av [] [] []),r4.2)) (ac ((r4.1.length:Int)==0) (rec0 ez b8_5 (ag .i64 (v55+1))) (ab k (Fv hd k x3.kids depth c0 ez) fun r5=>ac (!(r5.2==0)) (Y ((Tm.mk 0 0 av [] [] []),r5.2)) (af (aE 1099511627776 b8_5.length [(Br.mk r4.1 r5.1)].length) fun x6=>rec0 ez (b8_5++[(Br.mk r4.1 r5.1)]) (ag .i64 (v55+1)))))) (Y ((Tm.mk t.kind t.n t.name r1.1 r2.1 b8_5),0))
def kc (hd:fc S) (k:Nat) (Y:Tm×Int->OS S) (c0:Int) (t:Tm) (r1:LC×Int) (r2:LT×Int) (depth:Int):Nat->Int->(LB)->Int->OS S
 |0=>fun _ _ _=> .none
 |m+1=>fun ez b8_5 v55=>yY hd k Y c0 t r1 r2 depth (kc hd k Y c0 t r1 r2 depth m) ez b8_5 v55
def Jf (hd:fc S) (k:Nat) (Y:Tm×Int->OS S) (J0:(LC×Int)->(LT×Int)->Int->(LB)->Int->OS S) (t:Tm) (depth c0:Int):OS S:=ab k (Ar k (ae t) depth c0) fun r1=>ac (!(r1.2==0)) (Y ((Tm.mk 0 0 av [] [] []),r1.2)) (ab k (Fw hd k t.kids depth c0 (ae t)) fun r2=>ac (!(r2.2==0)) (Y ((Tm.mk 0 0 av [] [] []),r2.2)) (ac (t.kind==15) (J0 r1 r2 1 ([]:LB) 0) (J0 r1 r2 0 ([]:LB) 0)))
def gP:Nat->Tm->Int->Int->(Tm×Int->OS S)->OS S
 |0=>fun _ _ _ _=> .none
 |k+1=>fun t depth c0 Y=>Jf (gP k) k Y (fun r1 r2 ez b8_5 v55=>kc (gP k) k Y c0 t r1 r2 depth k ez b8_5 v55) t depth c0
def n7 (k:Nat) (t:Tm) (i:Int) (a_r:LC) (Y:Tm×Int->OS S):OS S:=ab k (FA k (ae t) i a_r) fun r1=>ac (!(r1==0)) (Y ((Tm.mk 0 0 av [] [] []),r1)) (ab k (n8 k a_r i 1) fun r2=>ac (!(r2.2==0)) (Y ((Tm.mk 0 0 av [] [] []),r2.2)) (ab k (Fr k i r2.1) fun r3=>g6 k (ae t) 0 r3.1 r3.2 fun r4=>ac (!(r4.2==0)) (Y ((Tm.mk 0 0 av [] [] []),r4.2)) (ab k (Fq k i) fun r5=>gP k (ae r4.1) 0 r5 fun r6=>Y ((ae r6.1),r6.2))))
def mR (k:Nat) (line:Tm) (a_r:LC) (c0:Int) (Y:Tm×Int->OS S):OS S:=ab k (fR k c0) fun r1=>ac (!r1) (Y ((Tm.mk 0 0 av [] [] []),c0)) (ab k (AL k (ae line) 1 2) fun r2=>ab k (ky k r2.2 c0) fun r3=>ab k (fR k r3) fun r4=>ac (!r4) (Y ((Tm.mk 0 0 av [] [] []),r3)) (ab k (n7 k (ae r2.1) 0 a_r) fun r5=>ab k (ky k r5.2 r3) fun r6=>Y ((ae r5.1),r6)))
def iz (k:Nat) (t:Tm) (vars dims c0:Int) (Y:Tm×Int->OS S):OS S:=ab k (fR k c0) fun r1=>ac (!r1) (Y ((Tm.mk 0 0 av [] [] []),c0)) (ab k (pS k (ae t) vars dims) fun r2=>ab k (ky k r2.2 c0) fun r3=>Y ((ae r2.1),r3))
def jm (k:Nat) (kind:Int) (kids:LT) (Y:Int×Int×BA×LT->OS S):OS S:=Y (kind,0,av,kids)
def iy (k:Nat) (t:Tm) (c0:Int) (Y:Tm×Int×Int->OS S):OS S:=ab k (fR k c0) fun r1=>ac (r1) (ab k (ld k (ae t)) fun r2=>ab k (ky k r2 c0) fun r3=>ab k (fR k r3) fun r4=>ac (!r4) (Y ((Tm.mk 0 0 av [] [] []),r3,r3)) (Y ((ae t),0,r3))) (ab k (fR k c0) fun r5=>ac (!r5) (Y ((Tm.mk 0 0 av [] [] []),c0,c0)) (Y ((ae t),0,c0)))
def Lk (k:Nat) (line:Tm) (phi:LC) (a:Tm) (a_end:Cl) (a_r:LC) (Y:Tm×Int->OS S):OS S:=ab k (n5 k [(ae line),(ae a)]) fun r1=>ab k (mS k phi) fun r2=>ac (!r2) (ab k (ky k 2 r1) fun r3=>ab k (pQ k phi r3) fun r4=>ab k (Fp k r4.1 [a_end] r4.2) fun r5=>ab k (mR k (ae line) a_r r5.2) fun r6=>ab k (iz k (ae a) 0 1 r6.2) fun r7=>ab k (jm k 14 [(ae r6.1),(ae r7.1)]) fun r8=>ab k (iy k (Tm.mk r8.1 r8.2.1 r8.2.2.1 r5.1 r8.2.2.2 []) r7.2) fun r9=>Y ((ae r9.1),r9.2.1)) (ab k (pQ k phi r1) fun r10=>ab k (Fp k r10.1 [a_end] r10.2) fun r11=>ab k (mR k (ae line) a_r r11.2) fun r12=>ab k (iz k (ae a) 0 1 r12.2) fun r13=>ab k (jm k 14 [(ae r12.1),(ae r13.1)]) fun r14=>ab k (iy k (Tm.mk r14.1 r14.2.1 r14.2.2.1 r11.1 r14.2.2.2 []) r13.2) fun r15=>Y ((ae r15.1),r15.2.1))
abbrev XS (S:Type):=Tm->(Int->OS S)->OS S
abbrev XN (S:Type):=Tm->Int->(Int->OS S)->OS S
abbrev XO (S:Type):=Tm->Int->Tm->Int->Int->(Pan Int Tm->OS S)->OS S
abbrev XR (S:Type):=Tm->(Int->OS S)->OS S
def FO (k:Nat) (t:Tm) (a_r:LC) (c0:Int) (Y:Tm×Int->OS S):OS S:=ab k (iA k c0) fun r1=>ac (!r1) (Y ((Tm.mk 0 0 av [] [] []),c0)) (ab k (n7 k (ae t) 0 a_r) fun r2=>ab k (kA k (ae r2.1) r2.2 c0) fun r3=>Y ((ae r3.1),r3.2))
def fS (k:Nat) (kind:Int) (kids:LT) (Y:Int×Int×BA×LT->OS S):OS S:=Y (kind,0,av,kids)
def AP (k:Nat) (kind:Int) (a_r:LC) (kids:LT) (Y:Int×Int×BA×LC×LT->OS S):OS S:=Y (kind,0,av,a_r,kids)
def Lj (k:Nat) (line:Tm) (phi:LC) (a:Tm) (Y:Tm×Int->OS S):OS S:=ab k (Lk k (ae line) phi (ae a) (Cl.mk 0 1) [(Cl.mk 3 0)]) fun r1=>Y ((ae r1.1),r1.2)
def LN (k:Nat) (line:Tm) (phi:LC) (a:Tm) (c0:Int) (Y:Tm×Int->OS S):OS S:=ab k (iA k c0) fun r1=>ac (!r1) (Y ((Tm.mk 0 0 av [] [] []),c0)) (ab k (Lj k (ae line) phi (ae a)) fun r2=>ab k (kA k (ae r2.1) r2.2 c0) fun r3=>Y ((ae r3.1),r3.2))
def h_ (k:Nat) (f:LC) (kids:LT) (Y:(Br Tm)->OS S):OS S:=Y (Br.mk f kids)
def rG (k:Nat) (sys:LB) (Y:Int×Int×BA×LT×LB->OS S):OS S:=ab k (jm k 3 ([]:LT)) fun r1=>ab k (jm k 3 ([]:LT)) fun r2=>Y (15,0,av,[(Tm.mk r1.1 r1.2.1 r1.2.2.1 [] r1.2.2.2 []),(Tm.mk r2.1 r2.2.1 r2.2.2.1 [] r2.2.2.2 [])],sys)
def Ll (k:Nat) (line:Tm) (c0:Int) (Y:Tm×Int->OS S):OS S:=ab k (fR k c0) fun r1=>ac (!r1) (Y ((Tm.mk 0 0 av [] [] []),c0)) (ab k (vT k) fun r2=>ab k (n7 k (ae line) 0 r2) fun r3=>ab k (ky k r3.2 c0) fun r4=>Y ((ae r3.1),r4))
def KK (k:Nat) (Y:Tm×Int->OS S) (r3:Tm) (r9:Int×Int×BA×LT) (r6:Tm) (rec0:Int->(LB)->Int->OS S) (d_:Int) (b9_5:LB) (v38:Int):OS S:=ac (decide ((v38:Int)<(r6.sys.length:Int))) (af (ak r6.sys v38) fun x10=>ab k (fR k d_) fun r11=>ac (!r11) (ab k (iy k (Tm.mk r9.1 r9.2.1 r9.2.2.1 [] r9.2.2.2 b9_5) d_) fun r12=>Y ((ae r12.1),r12.2.1)) (ab k (mR k (ae r3) [(Cl.mk 1 0),(Cl.mk 2 0)] d_) fun r13=>af (ak x10.kids 0) fun x14=>ab k (jm k 14 [(ae r13.1),(ae x14)]) fun r15=>af (aE 1099511627776 b9_5.length [(Br.mk x10.face [(Tm.mk r15.1 r15.2.1 r15.2.2.1 [(Cl.mk 1 0)] r15.2.2.2 [])])].length) fun x16=>rec0 r13.2 (b9_5++[(Br.mk x10.face [(Tm.mk r15.1 r15.2.1 r15.2.2.1 [(Cl.mk 1 0)] r15.2.2.2 [])])]) (ag .i64 (v38+1)))) (ab k (iy k (Tm.mk r9.1 r9.2.1 r9.2.2.1 [] r9.2.2.2 b9_5) d_) fun r17=>Y ((ae r17.1),r17.2.1))
def GT (k:Nat) (Y:Tm×Int->OS S) (r3:Tm) (r9:Int×Int×BA×LT) (r6:Tm):Nat->Int->(LB)->Int->OS S
 |0=>fun _ _ _=> .none
 |m+1=>fun d_ b9_5 v38=>KK k Y r3 r9 r6 (GT k Y r3 r9 r6 m) d_ b9_5 v38
def T_ (k:Nat) (Y:Tm×Int->OS S) (J0:Tm->(Int×Int×BA×LT)->Tm->Int->(LB)->Int->OS S) (line a:Tm) (sys:LB):OS S:=ab k (rG k sys) fun r1=>ab k (n5 k [(ae line),(ae a),(Tm.mk r1.1 r1.2.1 r1.2.2.1 [] r1.2.2.2.1 r1.2.2.2.2)]) fun r2=>fT k (ae line) fun r3=>fT k (ae a) fun r4=>ab k (rG k sys) fun r5=>fT k (Tm.mk r5.1 r5.2.1 r5.2.2.1 [] r5.2.2.2.1 r5.2.2.2.2) fun r6=>ab k (Ll k (ae r3) r2) fun r7=>ab k (jm k 14 [(ae r3),(ae r4)]) fun r8=>ab k (jm k 15 [(ae r7.1),(Tm.mk r8.1 r8.2.1 r8.2.2.1 [] r8.2.2.2 [])]) fun r9=>J0 r3 r9 r6 r7.2 ([]:LB) 0
def Lh (k:Nat) (line a:Tm) (sys:LB) (Y:Tm×Int->OS S):OS S:=T_ k Y (fun r3 r9 r6 d_ b9_5 v38=>GT k Y r3 r9 r6 k d_ b9_5 v38) line a sys
def LJ (k:Nat) (line a:Tm) (sys:LB) (c0:Int) (Y:Tm×Int->OS S):OS S:=ab k (iA k c0) fun r1=>ac (!r1) (Y ((Tm.mk 0 0 av [] [] []),c0)) (ab k (Lh k (ae line) (ae a) sys) fun r2=>ab k (kA k (ae r2.1) r2.2 c0) fun r3=>Y ((ae r3.1),r3.2))
def LK (k:Nat) (t:Tm) (c0:Int) (Y:Tm×Int->OS S):OS S:=ab k (vT k) fun r1=>ab k (FO k (ae t) r1 c0) fun r2=>Y ((ae r2.1),r2.2)
def iZ (k:Nat) (kind:Int) (l:LB) (kids:LT) (Y:Int×Int×BA×LT×LB->OS S):OS S:=Y (kind,0,av,kids,l)
def FK (k:Nat) (b:(Br Tm)) (Y:(Br Tm)->OS S):OS S:=af (ak b.kids 1) fun x1=>ab k (h_ k b.face [(ae x1)]) fun r2=>Y r2
def zi (k:Nat) (Y:LB->OS S) (l:LB) (rec0:Int->(LB)->OS S) (v10:Int) (out5:LB):OS S:=ac (decide ((v10:Int)<(l.length:Int))) (af (ak l v10) fun x1=>ab k (FK k x1) fun r2=>af (aE 1099511627776 out5.length [r2].length) fun x3=>rec0 (ag .i64 (v10+1)) (out5++[r2])) (Y out5)
def sZ (k:Nat) (Y:LB->OS S) (l:LB):Nat->Int->(LB)->OS S
 |0=>fun _ _=> .none
 |m+1=>fun v10 out5=>zi k Y l (sZ k Y l m) v10 out5
def Js (k:Nat) (Y:LB->OS S) (J0:Int->(LB)->OS S) (l:LB):OS S:=J0 0 ([]:LB)
def FJ (k:Nat) (l:LB) (Y:LB->OS S):OS S:=Js k Y (fun v10 out5=>sZ k Y l k v10 out5) l
def vZ (k:Nat) (g:Tm) (Y:LB->OS S):OS S:=ab k (FJ k g.sys) fun r1=>Y r1
def n9 (k:Nat) (a:Tm) (es:LB) (Y:Int×Int×BA×LT×LB->OS S):OS S:=ab k (iZ k 18 es [(ae a)]) fun r1=>Y (r1.1,r1.2.1,r1.2.2.1,r1.2.2.2.1,r1.2.2.2.2)
def Lp (k:Nat) (c:Cl) (c0:Int) (Y:Cl×Bool->OS S):OS S:=ab k (kz k (co .or .u32 c.pos c.neg) c0) fun r1=>Y (c,!r1)
def KL (k:Nat) (Y:LC->OS S) (c0:Int) (l:LC) (rec0:Int->(LC)->OS S) (v12:Int) (out5:LC):OS S:=ac (decide ((v12:Int)<(l.length:Int))) (af (ak l v12) fun x1=>ab k (Lp k x1 c0) fun r2=>ac (r2.2) (af (aE 1099511627776 out5.length [r2.1].length) fun x3=>rec0 (ag .i64 (v12+1)) (out5++[r2.1])) (rec0 (ag .i64 (v12+1)) out5)) (Y out5)
def GU (k:Nat) (Y:LC->OS S) (c0:Int) (l:LC):Nat->Int->(LC)->OS S
 |0=>fun _ _=> .none
 |m+1=>fun v12 out5=>KL k Y c0 l (GU k Y c0 l m) v12 out5
def Ua (k:Nat) (Y:LC->OS S) (J0:Int->(LC)->OS S) (l:LC) (c0:Int):OS S:=J0 0 ([]:LC)
def Lr (k:Nat) (l:LC) (c0:Int) (Y:LC->OS S):OS S:=Ua k Y (fun v12 out5=>GU k Y c0 l k v12 out5) l c0
def Lo (k:Nat) (f:LC) (i:Int) (Y:LC×Int->OS S):OS S:=ab k (mS k f) fun r1=>ac (!r1) (Y (([]:LC),2)) (ab k (vR k i) fun r2=>ac (!r2) (Y (([]:LC),2)) (ab k (Lr k f i) fun r3=>ab k (jX k r3) fun r4=>Y (r4.1,r4.2)))
def LI (k:Nat) (f:LC) (c0:Int) (Y:LC×Int->OS S):OS S:=ab k (iA k c0) fun r1=>ac (!r1) (Y (([]:LC),c0)) (ab k (Lo k f 0) fun r2=>ab k (kA k (Tm.mk 0 0 av [] [] []) r2.2 c0) fun r3=>ab k (iA k r3.2) fun r4=>ac (!r4) (Y (([]:LC),r3.2)) (ab k (fS k 3 ([]:LT)) fun r5=>ab k (fS k 3 ([]:LT)) fun r6=>ab k (rM k) fun r7=>ab k (n7 k (Tm.mk 14 0 av r2.1 [(Tm.mk r5.1 r5.2.1 r5.2.2.1 [] r5.2.2.2 []),(Tm.mk r6.1 r6.2.1 r6.2.2.1 [] r6.2.2.2 [])] []) 0 r7) fun r8=>ab k (kA k (Tm.mk 0 0 av [] [] []) r8.2 r3.2) fun r9=>Y (r8.1.r,r9.2)))
def vW (k:Nat) (c1:Tm) (iY:Int) (gi:LC) (gr gw:Int) (gx:BA) (gy:LC) (gz:LT) (gA gC:LB) (fP fK:Int) (fL:BA) (fM:LC) (fN:LT) (fO:LB) (gj gk:Int) (gm:BA) (gn:LC) (gq:LT) (gu:LB) (Y:Tm×Int->OS S):OS S:=ab k (jY k (ae c1) 0 1 iY) fun r1=>Y ((ae r1.1),r1.2)
def Lz (k:Nat) (dO:Int) (c0_1:LC) (bK bL:Int) (bM:BA) (bN:LC) (bO:LT) (bP dX:LB) (cx cq:Int) (cr:BA) (ct:LC) (cu:LT) (cv:LB) (bW bX:Int) (bY:BA) (bZ:LC) (b8:LT) (b9:LB) (c2:Tm) (Y:LB×Int->OS S):OS S:=ac ((c0_1.length:Int)==0) (Y (([]:LB),dO)) (ab k (vW k (ae c2) dO c0_1 bK bL bM bN bO bP dX cx cq cr ct cu cv bW bX bY bZ b8 b9) fun r1=>ab k (h_ k c0_1 [(ae r1.1)]) fun r2=>Y ([r2],r1.2))
def rP (k:Nat) (a_e:Tm) (Y:Int×Int×BA×LT->OS S):OS S:=ab k (fS k 9 [(ae a_e)]) fun r1=>Y (r1.1,r1.2.1,r1.2.2.1,r1.2.2.2)
def Lv (k:Nat) (b:(Br Tm)) (dE:Int) (aU:LC) (a6 a7:Int) (a8:BA) (a_:LC) (ba:LT) (be bq:LB) (bg aV:Int) (aW:BA) (aX:LC) (aY:LT) (aZ:LB) (bj bk:Int) (bm:BA) (bn:LC) (bo:LT) (bp:LB) (Y:(Br Tm)×Int->OS S):OS S:=af (ak b.kids 1) fun x1=>ab k (rP k (ae x1)) fun r2=>af (ak b.kids 0) fun x3=>ab k (LN k (ae x3) aU (Tm.mk a6 a7 a8 a_ ba be) dE) fun r4=>ab k (fS k 6 [(Tm.mk r2.1 r2.2.1 r2.2.2.1 [] r2.2.2.2 []),(ae r4.1)]) fun r5=>ab k (h_ k b.face [(Tm.mk r5.1 r5.2.1 r5.2.2.1 [] r5.2.2.2 [])]) fun r6=>Y (r6,r4.2)
def KP (k:Nat) (Y:LB×Int->OS S) (aU:LC) (aV:Int) (aW:BA) (aX:LC) (aY:LT) (aZ:LB) (bj bk:Int) (bm:BA) (bn:LC) (bo:LT) (a6:Int) (bp:LB) (a7:Int) (a8:BA) (a_:LC) (ba:LT) (be bq:LB) (bg:Int) (l:LB) (rec0:Int->Int->(LB)->OS S) (dh v10:Int) (out5:LB):OS S:=ac (decide ((v10:Int)<(l.length:Int))) (af (ak l v10) fun x1=>ab k (Lv k x1 dh aU a6 a7 a8 a_ ba be bq bg aV aW aX aY aZ bj bk bm bn bo bp) fun r2=>af (aE 1099511627776 out5.length [r2.1].length) fun x3=>rec0 r2.2 (ag .i64 (v10+1)) (out5++[r2.1])) (Y (out5,dh))
def GY (k:Nat) (Y:LB×Int->OS S) (aU:LC) (aV:Int) (aW:BA) (aX:LC) (aY:LT) (aZ:LB) (bj bk:Int) (bm:BA) (bn:LC) (bo:LT) (a6:Int) (bp:LB) (a7:Int) (a8:BA) (a_:LC) (ba:LT) (be bq:LB) (bg:Int) (l:LB):Nat->Int->Int->(LB)->OS S
 |0=>fun _ _ _=> .none
 |m+1=>fun dh v10 out5=>KP k Y aU aV aW aX aY aZ bj bk bm bn bo a6 bp a7 a8 a_ ba be bq bg l (GY k Y aU aV aW aX aY aZ bj bk bm bn bo a6 bp a7 a8 a_ ba be bq bg l m) dh v10 out5
def Ue (k:Nat) (Y:LB×Int->OS S) (J0:Int->Int->(LB)->OS S) (l:LB) (dE:Int) (aU:LC) (a6 a7:Int) (a8:BA) (a_:LC) (ba:LT) (be bq:LB) (bg aV:Int) (aW:BA) (aX:LC) (aY:LT) (aZ:LB) (bj bk:Int) (bm:BA) (bn:LC) (bo:LT) (bp:LB):OS S:=J0 dE 0 ([]:LB)
def LD (k:Nat) (l:LB) (dE:Int) (aU:LC) (a6 a7:Int) (a8:BA) (a_:LC) (ba:LT) (be bq:LB) (bg aV:Int) (aW:BA) (aX:LC) (aY:LT) (aZ:LB) (bj bk:Int) (bm:BA) (bn:LC) (bo:LT) (bp:LB) (Y:LB×Int->OS S):OS S:=Ue k Y (fun dh v10 out5=>GY k Y aU aV aW aX aY aZ bj bk bm bn bo a6 bp a7 a8 a_ ba be bq bg l k dh v10 out5) l dE aU a6 a7 a8 a_ ba be bq bg aV aW aX aY aZ bj bk bm bn bo bp
def KO (k:Nat) (Y:Int×LB×Int×Int×BA×LC×LT×LB->OS S) (c0_1:LC) (cq:Int) (cr:BA) (ct:LC) (cu:LT) (cv:LB) (bW bX:Int) (bY:BA) (bZ:LC) (b8:LT) (bK:Int) (b9:LB) (bL:Int) (bM:BA) (bN:LC) (bO:LT) (bP:LB) (cx:Int) (g:Tm) (r3:Int×Int×BA×LT×LB) (rec0:Int->(LB)->Int->OS S) (j6:Int) (e0_8:LB) (v23:Int):OS S:=ac (decide ((v23:Int)<(g.sys.length:Int))) (af (ak g.sys v23) fun x4=>ab k (LI k x4.face j6) fun r5=>ac (decide (((r5.1.length:Int):Int)>0)) (ab k (h_ k r5.1 x4.kids) fun r6=>af (aE 1099511627776 e0_8.length [r6].length) fun x7=>rec0 r5.2 (e0_8++[r6]) (ag .i64 (v23+1))) (rec0 r5.2 e0_8 (ag .i64 (v23+1)))) (ab k (Lz k j6 c0_1 bK bL bM bN bO bP e0_8 cx cq cr ct cu cv bW bX bY bZ b8 b9 (Tm.mk r3.1 r3.2.1 r3.2.2.1 [] r3.2.2.2.1 r3.2.2.2.2)) fun r8=>ab k (LD k e0_8 r8.2 c0_1 bK bL bM bN bO bP e0_8 cx cq cr ct cu cv bW bX bY bZ b8 b9) fun r9=>af (aE 1099511627776 r8.1.length r9.1.length) fun x10=>af (ak g.kids 0) fun x11=>ab k (LJ k (ae x11) (Tm.mk r3.1 r3.2.1 r3.2.2.1 [] r3.2.2.2.1 r3.2.2.2.2) (r8.1++r9.1) r9.2) fun r12=>Y (r12.2,e0_8,r12.1.kind,r12.1.n,r12.1.name,r12.1.r,r12.1.kids,r12.1.sys))
def GX (k:Nat) (Y:Int×LB×Int×Int×BA×LC×LT×LB->OS S) (c0_1:LC) (cq:Int) (cr:BA) (ct:LC) (cu:LT) (cv:LB) (bW bX:Int) (bY:BA) (bZ:LC) (b8:LT) (bK:Int) (b9:LB) (bL:Int) (bM:BA) (bN:LC) (bO:LT) (bP:LB) (cx:Int) (g:Tm) (r3:Int×Int×BA×LT×LB):Nat->Int->(LB)->Int->OS S
 |0=>fun _ _ _=> .none
 |m+1=>fun j6 e0_8 v23=>KO k Y c0_1 cq cr ct cu cv bW bX bY bZ b8 bK b9 bL bM bN bO bP cx g r3 (GX k Y c0_1 cq cr ct cu cv bW bX bY bZ b8 bK b9 bL bM bN bO bP cx g r3 m) j6 e0_8 v23
def Ud (k:Nat) (Y:Int×LB×Int×Int×BA×LC×LT×LB->OS S) (J0:(Int×Int×BA×LT×LB)->Int->(LB)->Int->OS S) (g:Tm) (dO:Int) (c0_1:LC) (bK bL:Int) (bM:BA) (bN:LC) (bO:LT) (bP:LB) (cx cq:Int) (cr:BA) (ct:LC) (cu:LT) (cv:LB) (bW bX:Int) (bY:BA) (bZ:LC) (b8:LT) (b9:LB):OS S:=ab k (FO k (ae g) ([]:LC) dO) fun r1=>ab k (vZ k (ae r1.1)) fun r2=>ab k (n9 k (Tm.mk bK bL bM bN bO bP) r2) fun r3=>J0 r3 r1.2 ([]:LB) 0
def Lw (k:Nat) (g:Tm) (dO:Int) (c0_1:LC) (bK bL:Int) (bM:BA) (bN:LC) (bO:LT) (bP:LB) (cx cq:Int) (cr:BA) (ct:LC) (cu:LT) (cv:LB) (bW bX:Int) (bY:BA) (bZ:LC) (b8:LT) (b9:LB) (Y:Int×LB×Int×Int×BA×LC×LT×LB->OS S):OS S:=Ud k Y (fun r3 j6 e0_8 v23=>GX k Y c0_1 cq cr ct cu cv bW bX bY bZ b8 bK b9 bL bM bN bO bP cx g r3 k j6 e0_8 v23) g dO c0_1 bK bL bM bN bO bP cx cq cr ct cu cv bW bX bY bZ b8 b9
def Ln (k:Nat) (a_n:Int) (Y:Int×Int×BA->OS S):OS S:=Y (1,a_n,av)
def Lm (k:Nat) (t a f y:Tm) (c0:Int) (Y:Int×Int×BA×LT×Int->OS S):OS S:=ab k (iz k (ae a) 1 1 c0) fun r1=>ab k (iz k (ae y) 1 0 r1.2) fun r2=>ab k (iz k (ae f) 1 0 r2.2) fun r3=>ab k (Ln k 0) fun r4=>ab k (jm k 6 [(ae r3.1),(Tm.mk r4.1 r4.2.1 r4.2.2 [] [] [])]) fun r5=>ab k (jm k 11 [(ae r1.1),(ae r2.1),(Tm.mk r5.1 r5.2.1 r5.2.2.1 [] r5.2.2.2 [])]) fun r6=>ab k (jm k 7 [(ae t),(Tm.mk r6.1 r6.2.1 r6.2.2.1 [] r6.2.2.2 [])]) fun r7=>Y (r7.1,r7.2.1,r7.2.2.1,r7.2.2.2,r3.2)
def Li (k:Nat) (t a f y:Tm) (Y:Tm×Int->OS S):OS S:=ab k (n5 k [(ae t),(ae a),(ae f),(ae y)]) fun r1=>fT k (ae t) fun r2=>ab k (Lm k (ae r2) (ae a) (ae f) (ae y) r1) fun r3=>ab k (iy k (Tm.mk r3.1 r3.2.1 r3.2.2.1 [] r3.2.2.2.1 []) r3.2.2.2.2) fun r4=>Y ((ae r4.1),r4.2.1)
def LM (k:Nat) (t a f y:Tm) (c0:Int) (Y:Tm×Int->OS S):OS S:=ab k (iA k c0) fun r1=>ac (!r1) (Y ((Tm.mk 0 0 av [] [] []),c0)) (ab k (Li k (ae t) (ae a) (ae f) (ae y)) fun r2=>ab k (kA k (ae r2.1) r2.2 c0) fun r3=>Y ((ae r3.1),r3.2))
def FF (k:Nat) (a_x c1:Tm) (iY:Int) (gi:LC) (gr gw:Int) (gx:BA) (gy:LC) (gz:LT) (gA gC:LB) (fP fK:Int) (fL:BA) (fM:LC) (fN:LT) (fO:LB) (gj gk:Int) (gm:BA) (gn:LC) (gq:LT) (gu:LB) (Y:Int×Int×BA×LC×LT×Int->OS S):OS S:=ab k (jY k (ae c1) 0 1 iY) fun r1=>ab k (jY k (ae a_x) 0 1 r1.2) fun r2=>ab k (jY k (Tm.mk fP fK fL fM fN fO) 0 2 r2.2) fun r3=>ab k (fS k 12 [(ae r3.1)]) fun r4=>ab k (fS k 8 [(ae r2.1),(Tm.mk r4.1 r4.2.1 r4.2.2.1 [] r4.2.2.2 [])]) fun r5=>ab k (fS k 10 [(ae r1.1)]) fun r6=>ab k (fS k 6 [(Tm.mk r6.1 r6.2.1 r6.2.2.1 [] r6.2.2.2 []),(Tm.mk r5.1 r5.2.1 r5.2.2.1 [] r5.2.2.2 [])]) fun r7=>ab k (fS k 9 [(ae r1.1)]) fun r8=>ab k (AP k 13 [(Cl.mk 1 0)] [(Tm.mk r7.1 r7.2.1 r7.2.2.1 [] r7.2.2.2 []),(Tm.mk r8.1 r8.2.1 r8.2.2.1 [] r8.2.2.2 []),(Tm.mk r5.1 r5.2.1 r5.2.2.1 [] r5.2.2.2 [])]) fun r9=>Y (r9.1,r9.2.1,r9.2.2.1,r9.2.2.2.1,r9.2.2.2.2,r3.2)
def vX (k:Nat) (c2:Tm) (eV:Int) (cS:LC) (cJ cK:Int) (cL:BA) (cM:LC) (cO:LT) (cP de:LB) (df cW:Int) (cX:BA) (cY:LC) (cZ:LT) (c5:LB) (c6 c7:Int) (c8:BA) (c_:LC) (da:LT) (dc:LB) (Y:Int×Int×BA×LC×LT×Int->OS S):OS S:=ab k (FF k (Tm.mk cJ cK cL cM cO cP) (ae c2) eV cS cJ cK cL cM cO cP de df cW cX cY cZ c5 c6 c7 c8 c_ da dc) fun r1=>Y (r1.1,r1.2.1,r1.2.2.1,r1.2.2.2.1,r1.2.2.2.2.1,r1.2.2.2.2.2)
def LA (k:Nat) (dO:Int) (c0_1:LC) (bK bL:Int) (bM:BA) (bN:LC) (bO:LT) (bP dX:LB) (cx cq:Int) (cr:BA) (ct:LC) (cu:LT) (cv:LB) (bW bX:Int) (bY:BA) (bZ:LC) (b8:LT) (b9:LB) (c3:Tm) (Y:LB×Int->OS S):OS S:=ac ((c0_1.length:Int)==0) (Y (([]:LB),dO)) (ab k (vX k (ae c3) dO c0_1 bK bL bM bN bO bP dX cx cq cr ct cu cv bW bX bY bZ b8 b9) fun r1=>ab k (h_ k c0_1 [(Tm.mk r1.1 r1.2.1 r1.2.2.1 r1.2.2.2.1 r1.2.2.2.2.1 [])]) fun r2=>Y ([r2],r1.2.2.2.2.2))
def Lx (k:Nat) (b:(Br Tm)) (c2:Tm) (eV:Int) (cS:LC) (cJ cK:Int) (cL:BA) (cM:LC) (cO:LT) (cP de:LB) (df cW:Int) (cX:BA) (cY:LC) (cZ:LT) (c5:LB) (c6 c7:Int) (c8:BA) (c_:LC) (da:LT) (dc:LB) (Y:(Br Tm)×Int->OS S):OS S:=af (ak b.kids 0) fun x1=>ab k (AP k 14 cS [(ae x1),(Tm.mk cJ cK cL cM cO cP)]) fun r2=>ab k (FF k (Tm.mk r2.1 r2.2.1 r2.2.2.1 r2.2.2.2.1 r2.2.2.2.2 []) (ae c2) eV cS cJ cK cL cM cO cP de df cW cX cY cZ c5 c6 c7 c8 c_ da dc) fun r3=>ab k (h_ k b.face [(Tm.mk r3.1 r3.2.1 r3.2.2.1 r3.2.2.2.1 r3.2.2.2.2.1 [])]) fun r4=>Y (r4,r3.2.2.2.2.2)
def KR (k:Nat) (Y:LB×Int->OS S) (c2:Tm) (cS:LC) (cW:Int) (cX:BA) (cY:LC) (cZ:LT) (c5:LB) (c6 c7:Int) (c8:BA) (c_:LC) (da:LT) (cJ:Int) (dc:LB) (cK:Int) (cL:BA) (cM:LC) (cO:LT) (cP de:LB) (df:Int) (l:LB) (rec0:Int->Int->(LB)->OS S) (eI v10:Int) (out5:LB):OS S:=ac (decide ((v10:Int)<(l.length:Int))) (af (ak l v10) fun x1=>ab k (Lx k x1 (ae c2) eI cS cJ cK cL cM cO cP de df cW cX cY cZ c5 c6 c7 c8 c_ da dc) fun r2=>af (aE 1099511627776 out5.length [r2.1].length) fun x3=>rec0 r2.2 (ag .i64 (v10+1)) (out5++[r2.1])) (Y (out5,eI))
def G2 (k:Nat) (Y:LB×Int->OS S) (c2:Tm) (cS:LC) (cW:Int) (cX:BA) (cY:LC) (cZ:LT) (c5:LB) (c6 c7:Int) (c8:BA) (c_:LC) (da:LT) (cJ:Int) (dc:LB) (cK:Int) (cL:BA) (cM:LC) (cO:LT) (cP de:LB) (df:Int) (l:LB):Nat->Int->Int->(LB)->OS S
 |0=>fun _ _ _=> .none
 |m+1=>fun eI v10 out5=>KR k Y c2 cS cW cX cY cZ c5 c6 c7 c8 c_ da cJ dc cK cL cM cO cP de df l (G2 k Y c2 cS cW cX cY cZ c5 c6 c7 c8 c_ da cJ dc cK cL cM cO cP de df l m) eI v10 out5
def Ui (k:Nat) (Y:LB×Int->OS S) (J0:Int->Int->(LB)->OS S) (l:LB) (c2:Tm) (eV:Int) (cS:LC) (cJ cK:Int) (cL:BA) (cM:LC) (cO:LT) (cP de:LB) (df cW:Int) (cX:BA) (cY:LC) (cZ:LT) (c5:LB) (c6 c7:Int) (c8:BA) (c_:LC) (da:LT) (dc:LB):OS S:=J0 eV 0 ([]:LB)
def LG (k:Nat) (l:LB) (c2:Tm) (eV:Int) (cS:LC) (cJ cK:Int) (cL:BA) (cM:LC) (cO:LT) (cP de:LB) (df cW:Int) (cX:BA) (cY:LC) (cZ:LT) (c5:LB) (c6 c7:Int) (c8:BA) (c_:LC) (da:LT) (dc:LB) (Y:LB×Int->OS S):OS S:=Ui k Y (fun eI v10 out5=>G2 k Y c2 cS cW cX cY cZ c5 c6 c7 c8 c_ da cJ dc cK cL cM cO cP de df l k eI v10 out5) l c2 eV cS cJ cK cL cM cO cP de df cW cX cY cZ c5 c6 c7 c8 c_ da dc
def Ly (k:Nat) (t a_e:Tm) (dO:Int) (c0_1:LC) (bK bL:Int) (bM:BA) (bN:LC) (bO:LT) (bP dX:LB) (cx cq:Int) (cr:BA) (ct:LC) (cu:LT) (cv:LB) (bW bX:Int) (bY:BA) (bZ:LC) (b8:LT) (b9:LB) (Y:Int×Int×BA×LT×LB×Int->OS S):OS S:=ab k (fS k 10 [(ae a_e)]) fun r1=>ab k (fS k 6 [(Tm.mk r1.1 r1.2.1 r1.2.2.1 [] r1.2.2.2 []),(Tm.mk cx cq cr ct cu cv)]) fun r2=>ab k (rP k (ae a_e)) fun r3=>ab k (LM k (ae t) (Tm.mk bW bX bY bZ b8 b9) (Tm.mk r3.1 r3.2.1 r3.2.2.1 [] r3.2.2.2 []) (Tm.mk cx cq cr ct cu cv) dO) fun r4=>ab k (LA k r4.2 c0_1 bK bL bM bN bO bP dX cx cq cr ct cu cv bW bX bY bZ b8 b9 (Tm.mk r2.1 r2.2.1 r2.2.2.1 [] r2.2.2.2 [])) fun r5=>ab k (LG k dX (Tm.mk r2.1 r2.2.1 r2.2.2.1 [] r2.2.2.2 []) r5.2 c0_1 bK bL bM bN bO bP dX cx cq cr ct cu cv bW bX bY bZ b8 b9) fun r6=>af (aE 1099511627776 r5.1.length r6.1.length) fun x7=>ab k (fS k 9 [(Tm.mk r2.1 r2.2.1 r2.2.2.1 [] r2.2.2.2 [])]) fun r8=>ab k (iZ k 15 (r5.1++r6.1) [(ae r4.1),(Tm.mk r8.1 r8.2.1 r8.2.2.1 [] r8.2.2.2 [])]) fun r9=>Y (r9.1,r9.2.1,r9.2.2.1,r9.2.2.2.1,r9.2.2.2.2,r6.2)
def Lu (k:Nat) (b:(Br Tm)) (dE:Int) (aU:LC) (a6 a7:Int) (a8:BA) (a_:LC) (ba:LT) (be bq:LB) (bg aV:Int) (aW:BA) (aX:LC) (aY:LT) (aZ:LB) (bj bk:Int) (bm:BA) (bn:LC) (bo:LT) (bp:LB) (Y:Int×Int×BA×LT×LB×Int->OS S):OS S:=af (ak b.kids 0) fun x1=>af (ak b.kids 1) fun x2=>ab k (Ly k (ae x1) (ae x2) dE aU a6 a7 a8 a_ ba be bq bg aV aW aX aY aZ bj bk bm bn bo bp) fun r3=>Y (r3.1,r3.2.1,r3.2.2.1,r3.2.2.2.1,r3.2.2.2.2.1,r3.2.2.2.2.2)
def KQ (k:Nat) (Y:LT×Int->OS S) (aU:LC) (aV:Int) (aW:BA) (aX:LC) (aY:LT) (aZ:LB) (bj bk:Int) (bm:BA) (bn:LC) (bo:LT) (a6:Int) (bp:LB) (a7:Int) (a8:BA) (a_:LC) (ba:LT) (be bq:LB) (bg:Int) (l:LB) (rec0:Int->Int->(LT)->OS S) (dh v10:Int) (out5:LT):OS S:=ac (decide ((v10:Int)<(l.length:Int))) (af (ak l v10) fun x1=>ab k (Lu k x1 dh aU a6 a7 a8 a_ ba be bq bg aV aW aX aY aZ bj bk bm bn bo bp) fun r2=>af (aE 1099511627776 out5.length [(Tm.mk r2.1 r2.2.1 r2.2.2.1 [] r2.2.2.2.1 r2.2.2.2.2.1)].length) fun x3=>rec0 r2.2.2.2.2.2 (ag .i64 (v10+1)) (out5++[(Tm.mk r2.1 r2.2.1 r2.2.2.1 [] r2.2.2.2.1 r2.2.2.2.2.1)])) (Y (out5,dh))
def GZ (k:Nat) (Y:LT×Int->OS S) (aU:LC) (aV:Int) (aW:BA) (aX:LC) (aY:LT) (aZ:LB) (bj bk:Int) (bm:BA) (bn:LC) (bo:LT) (a6:Int) (bp:LB) (a7:Int) (a8:BA) (a_:LC) (ba:LT) (be bq:LB) (bg:Int) (l:LB):Nat->Int->Int->(LT)->OS S
 |0=>fun _ _ _=> .none
 |m+1=>fun dh v10 out5=>KQ k Y aU aV aW aX aY aZ bj bk bm bn bo a6 bp a7 a8 a_ ba be bq bg l (GZ k Y aU aV aW aX aY aZ bj bk bm bn bo a6 bp a7 a8 a_ ba be bq bg l m) dh v10 out5
def Uh (k:Nat) (Y:LT×Int->OS S) (J0:Int->Int->(LT)->OS S) (l:LB) (dE:Int) (aU:LC) (a6 a7:Int) (a8:BA) (a_:LC) (ba:LT) (be bq:LB) (bg aV:Int) (aW:BA) (aX:LC) (aY:LT) (aZ:LB) (bj bk:Int) (bm:BA) (bn:LC) (bo:LT) (bp:LB):OS S:=J0 dE 0 ([]:LT)
def FI (k:Nat) (l:LB) (dE:Int) (aU:LC) (a6 a7:Int) (a8:BA) (a_:LC) (ba:LT) (be bq:LB) (bg aV:Int) (aW:BA) (aX:LC) (aY:LT) (aZ:LB) (bj bk:Int) (bm:BA) (bn:LC) (bo:LT) (bp:LB) (Y:LT×Int->OS S):OS S:=Uh k Y (fun dh v10 out5=>GZ k Y aU aV aW aX aY aZ bj bk bm bn bo a6 bp a7 a8 a_ ba be bq bg l k dh v10 out5) l dE aU a6 a7 a8 a_ ba be bq bg aV aW aX aY aZ bj bk bm bn bo bp
def vU (k:Nat) (dE:Int) (aU:LC) (a6 a7:Int) (a8:BA) (a_:LC) (ba:LT) (be bq:LB) (bg aV:Int) (aW:BA) (aX:LC) (aY:LT) (aZ:LB) (bj bk:Int) (bm:BA) (bn:LC) (bo:LT) (bp:LB) (Y:Tm×Int->OS S):OS S:=ab k (jY k (Tm.mk bg aV aW aX aY aZ) 0 1 dE) fun r1=>Y ((ae r1.1),r1.2)
def FG (k:Nat) (dO:Int) (c0_1:LC) (bK bL:Int) (bM:BA) (bN:LC) (bO:LT) (bP dX:LB) (cx cq:Int) (cr:BA) (ct:LC) (cu:LT) (cv:LB) (bW bX:Int) (bY:BA) (bZ:LC) (b8:LT) (b9:LB) (Y:LB×Int->OS S):OS S:=ac ((c0_1.length:Int)==0) (Y (([]:LB),dO)) (ab k (vU k dO c0_1 bK bL bM bN bO bP dX cx cq cr ct cu cv bW bX bY bZ b8 b9) fun r1=>ab k (h_ k c0_1 [(ae r1.1)]) fun r2=>Y ([r2],r1.2))
def KN (k:Nat) (Y:Tm×Bool×Int->OS S) (r3:Tm) (r6:Int×LB×Int×Int×BA×LC×LT×LB) (x4:Tm) (r8:Tm×Int) (rec0:Int->Int->Int->BA->(LC)->(LT)->(LB)->(LB)->Int->(LT)->(LB)->OS S) (jN jO jP:Int) (jQ:BA) (jR:LC) (jS:LT) (jT parts10:LB) (v79:Int) (ws8:LT) (sys9:LB):OS S:=ac (decide ((v79:Int)<(r8.1.sys.length:Int))) (af (ak r8.1.sys v79) fun x12=>af (ak ws8 v79) fun x13=>af (ak ws8 v79) fun x14=>ab k (jY k (ae x14) 0 1 jN) fun r15=>ab k (jY k (Tm.mk r6.2.2.1 r6.2.2.2.1 r6.2.2.2.2.1 r6.2.2.2.2.2.1 r6.2.2.2.2.2.2.1 r6.2.2.2.2.2.2.2) 0 1 r15.2) fun r16=>af (ak x12.kids 1) fun x17=>ab k (jY k (ae x17) 0 1 r16.2) fun r18=>ab k (rP k (ae r18.1)) fun r19=>ab k (fS k 9 [(ae r15.1)]) fun r20=>ab k (fS k 6 [(Tm.mk r19.1 r19.2.1 r19.2.2.1 [] r19.2.2.2 []),(Tm.mk r20.1 r20.2.1 r20.2.2.1 [] r20.2.2.2 [])]) fun r21=>ab k (fS k 10 [(ae r15.1)]) fun r22=>ab k (AP k 13 [(Cl.mk 1 0)] [(Tm.mk r22.1 r22.2.1 r22.2.2.1 [] r22.2.2.2 []),(ae r16.1),(Tm.mk r21.1 r21.2.1 r21.2.2.1 [] r21.2.2.2 [])]) fun r23=>ab k (h_ k x12.face [(Tm.mk r23.1 r23.2.1 r23.2.2.1 r23.2.2.2.1 r23.2.2.2.2 [])]) fun r24=>af (aE 1099511627776 sys9.length [r24].length) fun x25=>af (ak ws8 v79) fun x26=>af (ak ws8 v79) fun x27=>ab k (fS k 9 [(ae x27)]) fun r28=>ab k (h_ k x12.face [(Tm.mk r28.1 r28.2.1 r28.2.2.1 [] r28.2.2.2 [])]) fun r29=>af (aE 1099511627776 parts10.length [r29].length) fun x30=>rec0 r18.2 jO jP jQ jR jS jT (parts10++[r29]) (ag .i64 (v79+1)) ws8 (sys9++[r24])) (ab k (iZ k 15 sys9 [(Tm.mk jO jP jQ jR jS jT),(Tm.mk r6.2.2.1 r6.2.2.2.1 r6.2.2.2.2.1 r6.2.2.2.2.2.1 r6.2.2.2.2.2.2.1 r6.2.2.2.2.2.2.2)]) fun r31=>ab k (iZ k 17 parts10 [(Tm.mk r31.1 r31.2.1 r31.2.2.1 [] r31.2.2.2.1 r31.2.2.2.2)]) fun r32=>ab k (pU k (Tm.mk r32.1 r32.2.1 r32.2.2.1 [] r32.2.2.2.1 r32.2.2.2.2) jN) fun r33=>Y ((ae r33.1),r33.2.1,r33.2.2.1))
def GW (k:Nat) (Y:Tm×Bool×Int->OS S) (r3:Tm) (r6:Int×LB×Int×Int×BA×LC×LT×LB) (x4:Tm) (r8:Tm×Int):Nat->Int->Int->Int->BA->(LC)->(LT)->(LB)->(LB)->Int->(LT)->(LB)->OS S
 |0=>fun _ _ _ _ _ _ _ _ _ _ _=> .none
 |m+1=>fun jN jO jP jQ jR jS jT parts10 v79 ws8 sys9=>KN k Y r3 r6 x4 r8 (GW k Y r3 r6 x4 r8 m) jN jO jP jQ jR jS jT parts10 v79 ws8 sys9
def Uc (k:Nat) (Y:Tm×Bool×Int->OS S) (J0:Tm->(Int×LB×Int×Int×BA×LC×LT×LB)->Tm->(Tm×Int)->Int->Int->Int->BA->(LC)->(LT)->(LB)->(LB)->Int->(LT)->(LB)->OS S) (t:Tm):OS S:=ab k (ld k (ae t)) fun r1=>ac (!(r1==0)) (Y ((Tm.mk 0 0 av [] [] []),false,r1)) (ac (!(t.kind==14)) (Y ((Tm.mk 0 0 av [] [] []),false,0)) (af (ak t.kids 0) fun x2=>ac (!(x2.kind==16)) (Y ((Tm.mk 0 0 av [] [] []),false,0)) (fT k (ae t) fun r3=>af (ak r3.kids 1) fun x4=>af (ak r3.kids 0) fun x5=>ab k (Lw k (ae x5) 0 r3.r x4.kind x4.n x4.name x4.r x4.kids x4.sys 0 0 av [] [] [] 0 0 av [] [] []) fun r6=>af (ak r3.kids 0) fun x7=>ab k (LK k (ae x7) r6.1) fun r8=>ac ((r8.1.kids.length:Int)==1) (af (ak r8.1.kids 0) fun x9=>ab k (FI k r8.1.sys r8.2 r3.r x4.kind x4.n x4.name x4.r x4.kids x4.sys r6.2.1 r6.2.2.1 r6.2.2.2.1 r6.2.2.2.2.1 r6.2.2.2.2.2.1 r6.2.2.2.2.2.2.1 r6.2.2.2.2.2.2.2 x9.kind x9.n x9.name x9.r x9.kids x9.sys) fun r10=>ab k (FG k r10.2 r3.r x4.kind x4.n x4.name x4.r x4.kids x4.sys r6.2.1 r6.2.2.1 r6.2.2.2.1 r6.2.2.2.2.1 r6.2.2.2.2.2.1 r6.2.2.2.2.2.2.1 r6.2.2.2.2.2.2.2 x9.kind x9.n x9.name x9.r x9.kids x9.sys) fun r11=>J0 r3 r6 x4 r8 r11.2 x9.kind x9.n x9.name x9.r x9.kids x9.sys ([]:LB) 0 r10.1 r11.1) (ab k (FI k r8.1.sys r8.2 r3.r x4.kind x4.n x4.name x4.r x4.kids x4.sys r6.2.1 r6.2.2.1 r6.2.2.2.1 r6.2.2.2.2.1 r6.2.2.2.2.2.1 r6.2.2.2.2.2.2.1 r6.2.2.2.2.2.2.2 0 0 av [] [] []) fun r34=>ab k (FG k r34.2 r3.r x4.kind x4.n x4.name x4.r x4.kids x4.sys r6.2.1 r6.2.2.1 r6.2.2.2.1 r6.2.2.2.2.1 r6.2.2.2.2.2.1 r6.2.2.2.2.2.2.1 r6.2.2.2.2.2.2.2 0 0 av [] [] []) fun r35=>J0 r3 r6 x4 r8 r35.2 0 0 av [] [] [] ([]:LB) 0 r34.1 r35.1))))
def Lt (k:Nat) (t:Tm) (Y:Tm×Bool×Int->OS S):OS S:=Uc k Y (fun r3 r6 x4 r8 jN jO jP jQ jR jS jT parts10 v79 ws8 sys9=>GW k Y r3 r6 x4 r8 k jN jO jP jQ jR jS jT parts10 v79 ws8 sys9) t
def rx (k:Nat) (Y:Bool->OS S) (a b:LC) (rec0:Int->OS S) (i5:Int):OS S:=ac (decide ((i5:Int)<(a.length:Int))) (af (ak a i5) fun x1=>af (ak b i5) fun x2=>ac (!((x1.pos==x2.pos)&&((x1.neg==x2.neg)&&true))) (Y false) (rec0 (ag .i64 (i5+1)))) (Y true)
def na (k:Nat) (Y:Bool->OS S) (a b:LC):Nat->Int->OS S
 |0=>fun _=> .none
 |m+1=>fun i5=>rx k Y a b (na k Y a b m) i5
def DA (k:Nat) (Y:Bool->OS S) (J0:Int->OS S) (a b:LC):OS S:=ac (!((a.length:Int)==(b.length:Int))) (Y false) (J0 0)
def og (k:Nat) (a b:LC) (Y:Bool->OS S):OS S:=DA k Y (fun i5=>na k Y a b k i5) a b
abbrev iQ (S:Type):=Tm->Tm->(Bool->OS S)->OS S
def zP (hd:iQ S) (k:Nat) (Y:Bool->OS S) (a b:LT) (rec0:Int->OS S) (i5:Int):OS S:=ac (decide ((i5:Int)<(a.length:Int))) (af (ak a i5) fun x1=>af (ak b i5) fun x2=>hd (ae x1) (ae x2) fun r3=>ac (!r3) (Y false) (rec0 (ag .i64 (i5+1)))) (Y true)
def tr (hd:iQ S) (k:Nat) (Y:Bool->OS S) (a b:LT):Nat->Int->OS S
 |0=>fun _=> .none
 |m+1=>fun i5=>zP hd k Y a b (tr hd k Y a b m) i5
def JV (hd:iQ S) (k:Nat) (Y:Bool->OS S) (J0:Int->OS S) (a b:LT):OS S:=ac (!((a.length:Int)==(b.length:Int))) (Y false) (J0 0)
def wl (hd:iQ S) (k:Nat) (a b:LT) (Y:Bool->OS S):OS S:=JV hd k Y (fun i5=>tr hd k Y a b k i5) a b
def zN (hd:iQ S) (k:Nat) (Y:Bool->OS S) (a b:Tm) (rec0:Int->OS S) (i5:Int):OS S:=ac (decide ((i5:Int)<(a.sys.length:Int))) (af (ak a.sys i5) fun x3=>af (ak b.sys i5) fun x4=>ab k (og k x3.face x4.face) fun r5=>ac (!r5) (Y false) (af (ak a.sys i5) fun x6=>af (ak b.sys i5) fun x7=>ab k (wl hd k x6.kids x7.kids) fun r8=>ac (!r8) (Y false) (rec0 (ag .i64 (i5+1))))) (Y true)
def tp (hd:iQ S) (k:Nat) (Y:Bool->OS S) (a b:Tm):Nat->Int->OS S
 |0=>fun _=> .none
 |m+1=>fun i5=>zN hd k Y a b (tp hd k Y a b m) i5
def JT (hd:iQ S) (k:Nat) (Y:Bool->OS S) (J0:Int->OS S) (a b:Tm):OS S:=ac (!(a.kind==b.kind)) (Y false) (ac (!(a.n==b.n)) (Y false) (ac (!(a.name==b.name)) (Y false) (ab k (og k a.r b.r) fun r1=>ac (!r1) (Y false) (ab k (wl hd k a.kids b.kids) fun r2=>ac (!r2) (Y false) (ac (!((a.sys.length:Int)==(b.sys.length:Int))) (Y false) (J0 0))))))
def ie:Nat->Tm->Tm->(Bool->OS S)->OS S
 |0=>fun _ _ _=> .none
 |k+1=>fun a b Y=>JT (ie k) k Y (fun i5=>tp (ie k) k Y a b k i5) a b
abbrev kU (S:Type):=Tm->(Tm->OS S)->OS S
def zL (hd:kU S) (k:Nat) (Y:Tm->OS S) (t:Tm) (b3_4:LT) (b3_5:LB) (x5:(Br Tm)) (i5:Int) (rec1:(LB)->Int->OS S) (rec2:(LT)->Int->OS S) (b6_1:LT) (v7:Int):OS S:=af (ak t.sys i5) fun x7=>ac (decide ((v7:Int)<(x7.kids.length:Int))) (af (ak t.sys i5) fun x8=>af (ak x8.kids v7) fun x9=>hd (ae x9) fun r10=>af (aE 1099511627776 b6_1.length [(ae r10)].length) fun x11=>rec2 (b6_1++[(ae r10)]) (ag .i64 (v7+1))) (af (aE 1099511627776 b3_5.length [(Br.mk (([]:LC)++x5.face) b6_1)].length) fun x12=>rec1 (b3_5++[(Br.mk (([]:LC)++x5.face) b6_1)]) (ag .i64 (i5+1)))
def qv (hd:kU S) (k:Nat) (Y:Tm->OS S) (rec1:(LB)->Int->OS S) (t:Tm) (b3_4:LT) (b3_5:LB) (x5:(Br Tm)) (i5:Int):Nat->(LT)->Int->OS S
 |0=>fun _ _=> .none
 |m+1=>fun b6_1 v7=>zL hd k Y t b3_4 b3_5 x5 i5 rec1 (qv hd k Y rec1 t b3_4 b3_5 x5 i5 m) b6_1 v7
def vg (hd:kU S) (k:Nat) (Y:Tm->OS S) (t:Tm) (b3_4:LT) (J2:(LB)->(Br Tm)->Int->(LT)->Int->OS S) (rec1:(LB)->Int->OS S) (b3_5:LB) (i5:Int):OS S:=ac (decide ((i5:Int)<(t.sys.length:Int))) (af (ak t.sys i5) fun x5=>af (aE 1099511627776 ([]:LC).length x5.face.length) fun x6=>J2 b3_5 x5 i5 ([]:LT) 0) (Y (Tm.mk t.kind t.n t.name (([]:LC)++t.r) b3_4 b3_5))
def nf (hd:kU S) (k:Nat) (Y:Tm->OS S) (t:Tm) (b3_4:LT):Nat->(LB)->Int->OS S
 |0=>fun _ _=> .none
 |m+1=>fun b3_5 i5=>vg hd k Y t b3_4 (fun b3_5 x5 i5 b6_1 v7=>qv hd k Y (nf hd k Y t b3_4 m) t b3_4 b3_5 x5 i5 k b6_1 v7) (nf hd k Y t b3_4 m) b3_5 i5
def vf (hd:kU S) (k:Nat) (Y:Tm->OS S) (t:Tm) (J1:(LT)->(LB)->Int->OS S) (rec0:(LT)->Int->OS S) (b3_4:LT) (i4:Int):OS S:=ac (decide ((i4:Int)<(t.kids.length:Int))) (af (ak t.kids i4) fun x2=>hd (ae x2) fun r3=>af (aE 1099511627776 b3_4.length [(ae r3)].length) fun x4=>rec0 (b3_4++[(ae r3)]) (ag .i64 (i4+1))) (J1 b3_4 ([]:LB) 0)
def tn (hd:kU S) (k:Nat) (Y:Tm->OS S) (t:Tm):Nat->(LT)->Int->OS S
 |0=>fun _ _=> .none
 |m+1=>fun b3_4 i4=>vf hd k Y t (fun b3_4 b3_5 i5=>nf hd k Y t b3_4 k b3_5 i5) (tn hd k Y t m) b3_4 i4
def JR (hd:kU S) (k:Nat) (Y:Tm->OS S) (J0:(LT)->Int->OS S) (t:Tm):OS S:=af (aE 1099511627776 ([]:LC).length t.r.length) fun x1=>J0 ([]:LT) 0
def ma:Nat->Tm->(Tm->OS S)->OS S
 |0=>fun _ _=> .none
 |k+1=>fun t Y=>JR (ma k) k Y (fun b3_4 i4=>tn (ma k) k Y t k b3_4 i4) t
abbrev kV (S:Type):=Tm->(Int->OS S)->OS S
def zM (hd:kV S) (k:Nat) (Y:Int->OS S) (t:Tm) (i6:Int) (rec1:Int->Int->OS S) (rec2:Int->Int->OS S) (most3'' v7:Int):OS S:=af (ak t.sys i6) fun x3=>ac (decide ((v7:Int)<(x3.kids.length:Int))) (af (ak t.sys i6) fun x4=>af (ak x4.kids v7) fun x5=>hd (ae x5) fun r6=>ac (decide ((r6:Int)>most3'')) (rec2 r6 (ag .i64 (v7+1))) (rec2 most3'' (ag .i64 (v7+1)))) (rec1 most3'' (ag .i64 (i6+1)))
def oV (hd:kV S) (k:Nat) (Y:Int->OS S) (rec1:Int->Int->OS S) (t:Tm) (i6:Int):Nat->Int->Int->OS S
 |0=>fun _ _=> .none
 |m+1=>fun most3'' v7=>zM hd k Y t i6 rec1 (oV hd k Y rec1 t i6 m) most3'' v7
def vi (hd:kV S) (k:Nat) (Y:Int->OS S) (t:Tm) (J2:Int->Int->Int->OS S) (rec1:Int->Int->OS S) (most3' i6:Int):OS S:=ac (decide ((i6:Int)<(t.sys.length:Int))) (J2 i6 most3' 0) (Y (ag .i64 (most3'+1)))
def ng (hd:kV S) (k:Nat) (Y:Int->OS S) (t:Tm):Nat->Int->Int->OS S
 |0=>fun _ _=> .none
 |m+1=>fun most3' i6=>vi hd k Y t (fun i6 most3'' v7=>oV hd k Y (ng hd k Y t m) t i6 k most3'' v7) (ng hd k Y t m) most3' i6
def vh (hd:kV S) (k:Nat) (Y:Int->OS S) (t:Tm) (J1:Int->Int->OS S) (rec0:Int->Int->OS S) (most3 i4:Int):OS S:=ac (decide ((i4:Int)<(t.kids.length:Int))) (af (ak t.kids i4) fun x1=>hd (ae x1) fun r2=>ac (decide ((r2:Int)>most3)) (rec0 r2 (ag .i64 (i4+1))) (rec0 most3 (ag .i64 (i4+1)))) (J1 most3 0)
def qw (hd:kV S) (k:Nat) (Y:Int->OS S) (t:Tm):Nat->Int->Int->OS S
 |0=>fun _ _=> .none
 |m+1=>fun most3 i4=>vh hd k Y t (fun most3' i6=>ng hd k Y t k most3' i6) (qw hd k Y t m) most3 i4
def JS (hd:kV S) (k:Nat) (Y:Int->OS S) (J0:Int->Int->OS S) (t:Tm):OS S:=J0 0 0
def mb:Nat->Tm->(Int->OS S)->OS S
 |0=>fun _ _=> .none
 |k+1=>fun t Y=>JS (mb k) k Y (fun most3 i4=>qw (mb k) k Y t k most3 i4) t
abbrev kW (S:Type):=Tm->(Int->OS S)->OS S
def zO (hd:kW S) (k:Nat) (Y:Int->OS S) (t:Tm) (i5:Int) (rec1:Int->Int->OS S) (rec2:Int->Int->OS S) (v3'' v6:Int):OS S:=af (ak t.sys i5) fun x3=>ac (decide ((v6:Int)<(x3.kids.length:Int))) (af (ak t.sys i5) fun x4=>af (ak x4.kids v6) fun x5=>hd (ae x5) fun r6=>rec2 (ag .i64 (v3''+r6)) (ag .i64 (v6+1))) (rec1 v3'' (ag .i64 (i5+1)))
def qx (hd:kW S) (k:Nat) (Y:Int->OS S) (rec1:Int->Int->OS S) (t:Tm) (i5:Int):Nat->Int->Int->OS S
 |0=>fun _ _=> .none
 |m+1=>fun v3'' v6=>zO hd k Y t i5 rec1 (qx hd k Y rec1 t i5 m) v3'' v6
def vk (hd:kW S) (k:Nat) (Y:Int->OS S) (t:Tm) (J2:Int->Int->Int->OS S) (rec1:Int->Int->OS S) (v3' i5:Int):OS S:=ac (decide ((i5:Int)<(t.sys.length:Int))) (J2 i5 v3' 0) (Y v3')
def nh (hd:kW S) (k:Nat) (Y:Int->OS S) (t:Tm):Nat->Int->Int->OS S
 |0=>fun _ _=> .none
 |m+1=>fun v3' i5=>vk hd k Y t (fun i5 v3'' v6=>qx hd k Y (nh hd k Y t m) t i5 k v3'' v6) (nh hd k Y t m) v3' i5
def vj (hd:kW S) (k:Nat) (Y:Int->OS S) (t:Tm) (J1:Int->Int->OS S) (rec0:Int->Int->OS S) (v3 i4:Int):OS S:=ac (decide ((i4:Int)<(t.kids.length:Int))) (af (ak t.kids i4) fun x1=>hd (ae x1) fun r2=>rec0 (ag .i64 (v3+r2)) (ag .i64 (i4+1))) (J1 v3 0)
def tq (hd:kW S) (k:Nat) (Y:Int->OS S) (t:Tm):Nat->Int->Int->OS S
 |0=>fun _ _=> .none
 |m+1=>fun v3 i4=>vj hd k Y t (fun v3' i5=>nh hd k Y t k v3' i5) (tq hd k Y t m) v3 i4
def JU (hd:kW S) (k:Nat) (Y:Int->OS S) (J0:Int->Int->OS S) (t:Tm):OS S:=J0 1 0
def mc:Nat->Tm->(Int->OS S)->OS S
 |0=>fun _ _=> .none
 |k+1=>fun t Y=>JU (mc k) k Y (fun v3 i4=>tq (mc k) k Y t k v3 i4) t
def A1 (k:Nat) (t:Tm) (Y:Int->OS S):OS S:=mb k (ae t) fun r1=>ac (decide ((r1:Int)>200)) (Y 62) (mc k (ae t) fun r2=>ac (decide ((r2:Int)>20000)) (Y 221) (Y 0))
def rY (k:Nat) (kind:Int) (Y:Int->OS S):OS S:=ac (decide ((kind:Int)<0)) (Y (-1)) (ac (decide ((kind:Int)>28)) (Y (-1)) (af (dT (0<=kind/\kind<(29:Int))) fun x1=>af (ak [(-1),0,0,0,2,1,2,2,2,1,1,3,1,3,2,2,1,1,1,0,0,0,4,1,0,0,1,5,2] kind) fun x2=>Y x2))
def r_ (k:Nat) (kind:Int) (Y:Int->OS S):OS S:=ac (kind==16) (Y 2) (ac (kind==15) (Y 1) (ac (kind==17) (Y 1) (ac (kind==18) (Y 1) (Y 0))))
def E5 (k:Nat) (Y:Bool->OS S) (s:BA) (i3:Int) (x1:UInt8) (rec0:Int->OS S):OS S:=ac (!((x1.toNat:Int)==95)) (ac (decide (((x1.toNat:Int):Int)<97)) (ac (decide (((x1.toNat:Int):Int)<65)) (Y false) (ac (decide (((x1.toNat:Int):Int)>90)) (Y false) (rec0 (ag .i64 (i3+1))))) (ac (decide (((x1.toNat:Int):Int)>122)) (ac (decide (((x1.toNat:Int):Int)<65)) (Y false) (ac (decide (((x1.toNat:Int):Int)>90)) (Y false) (rec0 (ag .i64 (i3+1))))) (rec0 (ag .i64 (i3+1))))) (rec0 (ag .i64 (i3+1)))
def B5 (k:Nat) (Y:Bool->OS S) (rec0:Int->OS S) (s:BA) (i3:Int) (x1:UInt8):Nat->OS S
 |0=> .none
 |_+1=>E5 k Y s i3 x1 rec0
def vl (k:Nat) (Y:Bool->OS S) (s:BA) (J1:Int->UInt8->OS S) (rec0:Int->OS S) (i3:Int):OS S:=ac (decide ((i3:Int)<(s.size:Int))) (af (ak s.data.toList i3) fun x1=>ac (decide (((x1.toNat:Int):Int)>=48)) (ac (decide (((x1.toNat:Int):Int)<=57)) (ac (decide ((i3:Int)>0)) (rec0 (ag .i64 (i3+1))) (J1 i3 x1)) (J1 i3 x1)) (J1 i3 x1)) (Y (decide (((s.size:Int):Int)>0)))
def qy (k:Nat) (Y:Bool->OS S) (s:BA):Nat->Int->OS S
 |0=>fun _=> .none
 |m+1=>fun i3=>vl k Y s (fun i3 x1=>B5 k Y (qy k Y s m) s i3 x1 k) (qy k Y s m) i3
def JW (k:Nat) (Y:Bool->OS S) (J0:Int->OS S) (s:BA):OS S:=J0 0
def A0 (k:Nat) (s:BA) (Y:Bool->OS S):OS S:=JW k Y (fun i3=>qy k Y s k i3) s
def zq (k:Nat) (Y:Int->OS S) (a_n:Int) (rec0:Int->Int->OS S) (p3 i4:Int):OS S:=ac (decide ((i4:Int)<a_n)) (rec0 (ag .i64 (p3*2)) (ag .i64 (i4+1))) (Y p3)
def s_ (k:Nat) (Y:Int->OS S) (a_n:Int):Nat->Int->Int->OS S
 |0=>fun _ _=> .none
 |m+1=>fun p3 i4=>zq k Y a_n (s_ k Y a_n m) p3 i4
def Jz (k:Nat) (Y:Int->OS S) (J0:Int->Int->OS S) (a_n:Int):OS S:=J0 1 0
def rV (k:Nat) (a_n:Int) (Y:Int->OS S):OS S:=Jz k Y (fun p3 i4=>s_ k Y a_n k p3 i4) a_n
def rU (k:Nat) (s:Int) (Y:Bool->OS S):OS S:=ab k (rV k 24) fun r1=>Y (decide ((ag .i64 s:Int)<r1))
def wg (k:Nat) (c:Cl) (Y:Bool->OS S):OS S:=ab k (rU k c.pos) fun r1=>ac (r1) (ab k (rU k c.neg) fun r2=>Y r2) (Y false)
def AQ (k:Nat) (a b:Cl) (Y:Bool->OS S):OS S:=ac ((co .or .u32 a.pos b.pos)==a.pos) (Y ((co .or .u32 a.neg b.neg)==a.neg)) (Y false)
def zu (k:Nat) (Y:Bool->OS S) (c:Cl) (l:LC) (rec0:Int->OS S) (i5:Int):OS S:=ac (decide ((i5:Int)<(l.length:Int))) (af (ak l i5) fun x1=>ac (!((x1.pos==c.pos)&&((x1.neg==c.neg)&&true))) (af (ak l i5) fun x2=>ab k (AQ k c x2) fun r3=>ac (r3) (Y false) (rec0 (ag .i64 (i5+1)))) (rec0 (ag .i64 (i5+1)))) (Y true)
def tc (k:Nat) (Y:Bool->OS S) (c:Cl) (l:LC):Nat->Int->OS S
 |0=>fun _=> .none
 |m+1=>fun i5=>zu k Y c l (tc k Y c l m) i5
def JC (k:Nat) (Y:Bool->OS S) (J0:Int->OS S) (l:LC) (c:Cl):OS S:=J0 0
def AU (k:Nat) (l:LC) (c:Cl) (Y:Bool->OS S):OS S:=JC k Y (fun i5=>tc k Y c l k i5) l c
def AR (k:Nat) (a b:Cl) (Y:Bool->OS S):OS S:=ac (decide ((a.pos:Int)<b.pos)) (Y true) (ac (a.pos==b.pos) (Y (decide ((a.neg:Int)<b.neg))) (Y false))
def zt (k:Nat) (Y:LC×Int->OS S) (l out5:LC) (i6:Int) (rec1:(LC)->Int->OS S) (rec2:Int->OS S) (v7:Int):OS S:=ac (decide ((v7:Int)<(out5.length:Int))) (af (ak out5 v7) fun x5=>af (ak out5 v7) fun x6=>af (ak l i6) fun x7=>ab k (AR k x6 x7) fun r8=>ac (r8) (rec2 (ag .i64 (v7+1))) (ac (v7==(out5.length:Int)) (af (dT (0<=v7/\v7<=(out5.length:Int))) fun x9=>af (aE 1099511627776 ([]:LC).length (List.take (dH v7) out5).length) fun x10=>af (ak l i6) fun x11=>af (aE 1099511627776 (([]:LC)++(List.take (dH v7) out5)).length [x11].length) fun x12=>af (dT (0<=v7/\v7<=(out5.length:Int))) fun x13=>af (aE 1099511627776 ((([]:LC)++(List.take (dH v7) out5))++[x11]).length (List.drop (dH v7) out5).length) fun x14=>rec1 (((([]:LC)++(List.take (dH v7) out5))++[x11])++(List.drop (dH v7) out5)) (ag .i64 (i6+1))) (af (ak out5 v7) fun x15=>af (ak out5 v7) fun x16=>af (ak l i6) fun x17=>ac (!((x16.pos==x17.pos)&&((x16.neg==x17.neg)&&true))) (af (dT (0<=v7/\v7<=(out5.length:Int))) fun x18=>af (aE 1099511627776 ([]:LC).length (List.take (dH v7) out5).length) fun x19=>af (ak l i6) fun x20=>af (aE 1099511627776 (([]:LC)++(List.take (dH v7) out5)).length [x20].length) fun x21=>af (dT (0<=v7/\v7<=(out5.length:Int))) fun x22=>af (aE 1099511627776 ((([]:LC)++(List.take (dH v7) out5))++[x20]).length (List.drop (dH v7) out5).length) fun x23=>rec1 (((([]:LC)++(List.take (dH v7) out5))++[x20])++(List.drop (dH v7) out5)) (ag .i64 (i6+1))) (rec1 out5 (ag .i64 (i6+1)))))) (ac (v7==(out5.length:Int)) (af (dT (0<=v7/\v7<=(out5.length:Int))) fun x24=>af (aE 1099511627776 ([]:LC).length (List.take (dH v7) out5).length) fun x25=>af (ak l i6) fun x26=>af (aE 1099511627776 (([]:LC)++(List.take (dH v7) out5)).length [x26].length) fun x27=>af (dT (0<=v7/\v7<=(out5.length:Int))) fun x28=>af (aE 1099511627776 ((([]:LC)++(List.take (dH v7) out5))++[x26]).length (List.drop (dH v7) out5).length) fun x29=>rec1 (((([]:LC)++(List.take (dH v7) out5))++[x26])++(List.drop (dH v7) out5)) (ag .i64 (i6+1))) (af (ak out5 v7) fun x30=>af (ak out5 v7) fun x31=>af (ak l i6) fun x32=>ac (!((x31.pos==x32.pos)&&((x31.neg==x32.neg)&&true))) (af (dT (0<=v7/\v7<=(out5.length:Int))) fun x33=>af (aE 1099511627776 ([]:LC).length (List.take (dH v7) out5).length) fun x34=>af (ak l i6) fun x35=>af (aE 1099511627776 (([]:LC)++(List.take (dH v7) out5)).length [x35].length) fun x36=>af (dT (0<=v7/\v7<=(out5.length:Int))) fun x37=>af (aE 1099511627776 ((([]:LC)++(List.take (dH v7) out5))++[x35]).length (List.drop (dH v7) out5).length) fun x38=>rec1 (((([]:LC)++(List.take (dH v7) out5))++[x35])++(List.drop (dH v7) out5)) (ag .i64 (i6+1))) (rec1 out5 (ag .i64 (i6+1)))))
def qk (k:Nat) (Y:LC×Int->OS S) (rec1:(LC)->Int->OS S) (l out5:LC) (i6:Int):Nat->Int->OS S
 |0=>fun _=> .none
 |m+1=>fun v7=>zt k Y l out5 i6 rec1 (qk k Y rec1 l out5 i6 m) v7
def u3 (k:Nat) (Y:LC×Int->OS S) (l:LC) (J2:(LC)->Int->Int->OS S) (rec1:(LC)->Int->OS S) (out5:LC) (i6:Int):OS S:=ac (decide ((i6:Int)<(l.length:Int))) (af (ak l i6) fun x3=>ab k (AU k l x3) fun r4=>ac (!r4) (rec1 out5 (ag .i64 (i6+1))) (J2 out5 i6 0)) (ac (decide (((out5.length:Int):Int)>64)) (Y (([]:LC),3)) (Y (out5,0)))
def m_ (k:Nat) (Y:LC×Int->OS S) (l:LC):Nat->(LC)->Int->OS S
 |0=>fun _ _=> .none
 |m+1=>fun out5 i6=>u3 k Y l (fun out5 i6 v7=>qk k Y (m_ k Y l m) l out5 i6 k v7) (m_ k Y l m) out5 i6
def uZ (k:Nat) (Y:LC×Int->OS S) (l:LC) (J1:(LC)->Int->OS S) (rec0:Int->OS S) (i4:Int):OS S:=ac (decide ((i4:Int)<(l.length:Int))) (af (ak l i4) fun x1=>ab k (wg k x1) fun r2=>ac (!r2) (Y (([]:LC),2)) (rec0 (ag .i64 (i4+1)))) (J1 ([]:LC) 0)
def tb (k:Nat) (Y:LC×Int->OS S) (l:LC):Nat->Int->OS S
 |0=>fun _=> .none
 |m+1=>fun i4=>uZ k Y l (fun out5 i6=>m_ k Y l k out5 i6) (tb k Y l m) i4
def JB (k:Nat) (Y:LC×Int->OS S) (J0:Int->OS S) (l:LC):OS S:=J0 0
def l9 (k:Nat) (l:LC) (Y:LC×Int->OS S):OS S:=JB k Y (fun i4=>tb k Y l k i4) l
def ic (k:Nat) (f:LC) (Y:Bool->OS S):OS S:=ab k (l9 k f) fun r1=>ac (r1.2==0) (ab k (og k r1.1 f) fun r2=>Y r2) (Y false)
def gQ (k:Nat) (s i:Int) (Y:Bool->OS S):OS S:=ac (decide ((i:Int)>=0)) (ac (decide ((i:Int)<24)) (ab k (rV k i) fun r1=>af (dT (r1≠0)) fun x2=>Y ((Int.tmod (ag .i64 (Int.tdiv (ag .i64 s) r1)) 2)==1)) (Y false)) (Y false)
def zo (k:Nat) (Y:Int->OS S) (l:List Int) (rec0:Int->Int->OS S) (v3 i4:Int):OS S:=ac (decide ((i4:Int)<(l.length:Int))) (af (ak l i4) fun x1=>ab k (rV k x1) fun r2=>rec0 (ag .i64 (v3+r2)) (ag .i64 (i4+1))) (Y (ag .u32 v3))
def s8 (k:Nat) (Y:Int->OS S) (l:List Int):Nat->Int->Int->OS S
 |0=>fun _ _=> .none
 |m+1=>fun v3 i4=>zo k Y l (s8 k Y l m) v3 i4
def Jx (k:Nat) (Y:Int->OS S) (J0:Int->Int->OS S) (l:List Int):OS S:=J0 0 0
def l7 (k:Nat) (l:List Int) (Y:Int->OS S):OS S:=Jx k Y (fun v3 i4=>s8 k Y l k v3 i4) l
def zx (k:Nat) (Y:Int->OS S) (f:LC) (l3:List Int) (i4:Int) (rec0:(List Int)->Int->OS S) (rec1:Bool->Int->OS S) (v5:Bool) (v6:Int):OS S:=ac (decide ((v6:Int)<(f.length:Int))) (ac (v5) (rec1 true (ag .i64 (v6+1))) (af (ak f v6) fun x1=>ab k (gQ k x1.pos i4) fun r2=>ac (r2) (rec1 true (ag .i64 (v6+1))) (af (ak f v6) fun x3=>ab k (gQ k x3.neg i4) fun r4=>rec1 r4 (ag .i64 (v6+1))))) (ac (v5) (af (aE 1099511627776 l3.length [i4].length) fun x5=>rec0 (l3++[i4]) (ag .i64 (i4+1))) (rec0 l3 (ag .i64 (i4+1))))
def ql (k:Nat) (Y:Int->OS S) (rec0:(List Int)->Int->OS S) (f:LC) (l3:List Int) (i4:Int):Nat->Bool->Int->OS S
 |0=>fun _ _=> .none
 |m+1=>fun v5 v6=>zx k Y f l3 i4 rec0 (ql k Y rec0 f l3 i4 m) v5 v6
def u4 (k:Nat) (Y:Int->OS S) (f:LC) (J1:(List Int)->Int->Bool->Int->OS S) (rec0:(List Int)->Int->OS S) (l3:List Int) (i4:Int):OS S:=ac (decide ((i4:Int)<24)) (J1 l3 i4 false 0) (ab k (l7 k l3) fun r6=>Y r6)
def oQ (k:Nat) (Y:Int->OS S) (f:LC):Nat->(List Int)->Int->OS S
 |0=>fun _ _=> .none
 |m+1=>fun l3 i4=>u4 k Y f (fun l3 i4 v5 v6=>ql k Y (oQ k Y f m) f l3 i4 k v5 v6) (oQ k Y f m) l3 i4
def JE (k:Nat) (Y:Int->OS S) (J0:(List Int)->Int->OS S) (f:LC):OS S:=J0 ([]:List Int) 0
def wj (k:Nat) (f:LC) (Y:Int->OS S):OS S:=JE k Y (fun l3 i4=>oQ k Y f k l3 i4) f
def E2 (k:Nat) (Y:List Int->OS S) (s:Int) (rec0:(List Int)->Int->OS S) (out3:List Int) (i4:Int):OS S:=ac (decide ((i4:Int)<24)) (ab k (gQ k s i4) fun r1=>ac (r1) (af (aE 1099511627776 out3.length [i4].length) fun x2=>rec0 (out3++[i4]) (ag .i64 (i4+1))) (rec0 out3 (ag .i64 (i4+1)))) (Y out3)
def xa (k:Nat) (Y:List Int->OS S) (s:Int):Nat->(List Int)->Int->OS S
 |0=>fun _ _=> .none
 |m+1=>fun out3 i4=>E2 k Y s (xa k Y s m) out3 i4
def Jw (k:Nat) (Y:List Int->OS S) (J0:(List Int)->Int->OS S) (s:Int):OS S:=J0 ([]:List Int) 0
def l6 (k:Nat) (s:Int) (Y:List Int->OS S):OS S:=Jw k Y (fun out3 i4=>xa k Y s k out3 i4) s
def wm (k:Nat) (f:LC) (dims:Int) (Y:Bool->OS S):OS S:=ab k (wj k f) fun r1=>ab k (l6 k r1) fun r2=>ac ((r2.length:Int)==0) (Y true) (af (ak r2 (ag .i64 ((r2.length:Int)-1))) fun x3=>af (ak r2 (ag .i64 ((r2.length:Int)-1))) fun x4=>Y (decide ((x4:Int)<dims)))
def E4 (k:Nat) (Y:Int×Int->OS S) (kind kid:Int):OS S:=ac (kid==0) (ac (kind==11) (Y (0,1)) (ac (kind==12) (Y (0,1)) (ac (kind==14) (Y (0,1)) (Y (0,0))))) (Y (0,0))
def B4 (k:Nat) (Y:Int×Int->OS S) (kind kid:Int):Nat->OS S
 |0=> .none
 |_+1=>E4 k Y kind kid
def zJ (k:Nat) (Y:Int×Int->OS S) (kind kid:Int) (J1:OS S):OS S:=ac (kid==0) (ac (kind==5) (Y (1,0)) (ac (kind==22) (Y (1,0)) (ac (kind==27) (Y (1,0)) (J1)))) (J1)
def G3 (k:Nat) (Y:Int×Int->OS S) (kind kid:Int):Nat->OS S
 |0=> .none
 |_+1=>zJ k Y kind kid (B4 k Y kind kid k)
def JP (k:Nat) (Y:Int×Int->OS S) (J0:OS S) (kind kid:Int):OS S:=ac (kid==1) (ac (kind==4) (Y (1,0)) (ac (kind==7) (Y (1,0)) (J0))) (J0)
def rX (k:Nat) (kind kid:Int) (Y:Int×Int->OS S):OS S:=JP k Y (G3 k Y kind kid k) kind kid
def zr (k:Nat) (Y:Bool->OS S) (c:Cl) (rec0:Int->OS S) (i3:Int):OS S:=ac (decide ((i3:Int)<24)) (ab k (gQ k c.pos i3) fun r1=>ac (r1) (ab k (gQ k c.neg i3) fun r2=>ac (r2) (Y true) (rec0 (ag .i64 (i3+1)))) (rec0 (ag .i64 (i3+1)))) (Y false)
def ta (k:Nat) (Y:Bool->OS S) (c:Cl):Nat->Int->OS S
 |0=>fun _=> .none
 |m+1=>fun i3=>zr k Y c (ta k Y c m) i3
def JA (k:Nat) (Y:Bool->OS S) (J0:Int->OS S) (c:Cl):OS S:=J0 0
def wd (k:Nat) (c:Cl) (Y:Bool->OS S):OS S:=JA k Y (fun i3=>ta k Y c k i3) c
def zE (k:Nat) (Y:Bool->OS S) (f:LC) (rec0:Int->OS S) (i3:Int):OS S:=ac (decide ((i3:Int)<(f.length:Int))) (af (ak f i3) fun x2=>ab k (wd k x2) fun r3=>ac (r3) (Y false) (rec0 (ag .i64 (i3+1)))) (Y true)
def ti (k:Nat) (Y:Bool->OS S) (f:LC):Nat->Int->OS S
 |0=>fun _=> .none
 |m+1=>fun i3=>zE k Y f (ti k Y f m) i3
def JM (k:Nat) (Y:Bool->OS S) (J0:Int->OS S) (f:LC):OS S:=ab k (ic k f) fun r1=>ac (!r1) (Y false) (J0 0)
def l_ (k:Nat) (f:LC) (Y:Bool->OS S):OS S:=JM k Y (fun i3=>ti k Y f k i3) f
def rZ (k:Nat) (kind:Int) (Y:Int->OS S):OS S:=ac (kind==15) (Y 1) (Y 0)
abbrev gJ (S:Type):=Tm->Int->Int->Bool->(Bool->OS S)->OS S
def zI (hd:gJ S) (k:Nat) (Y:Bool->OS S) (x11:(Br Tm)) (t:Tm) (vars i12 dims:Int) (bound:Bool) (rec5:Int->OS S) (rec6:Int->OS S) (v14:Int):OS S:=ac (decide ((v14:Int)<(x11.kids.length:Int))) (af (ak x11.kids v14) fun x15=>ab k (rZ k t.kind) fun r16=>hd (ae x15) vars (ag .i64 (dims+r16)) bound fun r17=>ac (!r17) (Y false) (rec6 (ag .i64 (v14+1)))) (rec5 (ag .i64 (i12+1)))
def oU (hd:gJ S) (k:Nat) (Y:Bool->OS S) (rec5:Int->OS S) (x11:(Br Tm)) (t:Tm) (vars i12 dims:Int) (bound:Bool):Nat->Int->OS S
 |0=>fun _=> .none
 |m+1=>fun v14=>zI hd k Y x11 t vars i12 dims bound rec5 (oU hd k Y rec5 x11 t vars i12 dims bound m) v14
def vc (hd:gJ S) (k:Nat) (Y:Bool->OS S) (t:Tm) (vars dims:Int) (bound:Bool) (J6:(Br Tm)->Int->Int->OS S) (rec5:Int->OS S) (i12:Int):OS S:=ac (decide ((i12:Int)<(t.sys.length:Int))) (af (ak t.sys i12) fun x11=>ab k (r_ k t.kind) fun r12=>ac (!((x11.kids.length:Int)==r12)) (Y false) (ab k (l_ k x11.face) fun r13=>ac (!r13) (Y false) (ab k (wm k x11.face dims) fun r14=>ac (!r14) (Y false) (J6 x11 i12 0)))) (Y true)
def lq (hd:gJ S) (k:Nat) (Y:Bool->OS S) (t:Tm) (vars dims:Int) (bound:Bool):Nat->Int->OS S
 |0=>fun _=> .none
 |m+1=>fun i12=>vc hd k Y t vars dims bound (fun x11 i12 v14=>oU hd k Y (lq hd k Y t vars dims bound m) x11 t vars i12 dims bound k v14) (lq hd k Y t vars dims bound m) i12
def va (hd:gJ S) (k:Nat) (Y:Bool->OS S) (t:Tm) (vars dims:Int) (bound:Bool) (J5:Int->OS S) (rec4:Int->OS S) (i9:Int):OS S:=ac (decide ((i9:Int)<(t.kids.length:Int))) (ab k (rX k t.kind i9) fun r6=>ac (decide ((vars:Int)<0)) (af (ak t.kids i9) fun x7=>hd (ae x7) (ag .i64 (vars+0)) (ag .i64 (dims+r6.2)) bound fun r8=>ac (!r8) (Y false) (rec4 (ag .i64 (i9+1)))) (af (ak t.kids i9) fun x9=>hd (ae x9) (ag .i64 (vars+r6.1)) (ag .i64 (dims+r6.2)) bound fun r10=>ac (!r10) (Y false) (rec4 (ag .i64 (i9+1))))) (J5 0)
def nc (hd:gJ S) (k:Nat) (Y:Bool->OS S) (t:Tm) (vars dims:Int) (bound:Bool):Nat->Int->OS S
 |0=>fun _=> .none
 |m+1=>fun i9=>va hd k Y t vars dims bound (fun i12=>lq hd k Y t vars dims bound k i12) (nc hd k Y t vars dims bound m) i9
def zH (hd:gJ S) (k:Nat) (Y:Bool->OS S) (t:Tm) (vars dims:Int) (bound:Bool) (J4:Int->OS S):OS S:=ab k (wm k t.r dims) fun r5=>ac (!r5) (Y false) (J4 0)
def tl (hd:gJ S) (k:Nat) (Y:Bool->OS S) (t:Tm) (vars dims:Int) (bound:Bool):Nat->OS S
 |0=> .none
 |_+1=>zH hd k Y t vars dims bound (fun i9=>nc hd k Y t vars dims bound k i9)
def u_ (hd:gJ S) (k:Nat) (Y:Bool->OS S) (t:Tm) (vars dims:Int) (bound:Bool) (J3:OS S):OS S:=ac (t.kind==13) (ab k (ic k t.r) fun r4=>ac (!r4) (Y false) (J3)) (ac (t.kind==21) (ab k (ic k t.r) fun r18=>ac (!r18) (Y false) (J3)) (ac (t.kind==26) (ab k (ic k t.r) fun r19=>ac (!r19) (Y false) (J3)) (ac (t.kind==14) (ab k (l_ k t.r) fun r20=>ac (!r20) (Y false) (J3)) (ac (decide (((t.r.length:Int):Int)>0)) (Y false) (J3)))))
def tk (hd:gJ S) (k:Nat) (Y:Bool->OS S) (t:Tm) (vars dims:Int) (bound:Bool):Nat->OS S
 |0=> .none
 |_+1=>u_ hd k Y t vars dims bound (tl hd k Y t vars dims bound k)
def u9 (hd:gJ S) (k:Nat) (Y:Bool->OS S) (t:Tm) (vars dims:Int) (bound:Bool) (J2:OS S):OS S:=ac (t.kind==2) (ab k (A0 k t.name) fun r3=>ac (!r3) (Y false) (ac (!(t.kind==2)) (ac (!(t.name==av)) (Y false) (J2)) (J2))) (ac (!(t.kind==2)) (ac (!(t.name==av)) (Y false) (J2)) (J2))
def xb (hd:gJ S) (k:Nat) (Y:Bool->OS S) (t:Tm) (vars dims:Int) (bound:Bool):Nat->OS S
 |0=> .none
 |_+1=>u9 hd k Y t vars dims bound (tk hd k Y t vars dims bound k)
def zG (hd:gJ S) (k:Nat) (Y:Bool->OS S) (t:Tm) (vars dims:Int) (bound:Bool) (J1:OS S):OS S:=ac (t.kind==1) (ac (decide ((t.n:Int)<0)) (Y false) (ac (decide ((vars:Int)>=0)) (ac (decide ((t.n:Int)>=vars)) (Y false) (J1)) (J1))) (ac (!(t.n==0)) (Y false) (J1))
def B3 (hd:gJ S) (k:Nat) (Y:Bool->OS S) (t:Tm) (vars dims:Int) (bound:Bool):Nat->OS S
 |0=> .none
 |_+1=>zG hd k Y t vars dims bound (xb hd k Y t vars dims bound k)
def JO (hd:gJ S) (k:Nat) (Y:Bool->OS S) (J0:OS S) (t:Tm) (vars dims:Int) (bound:Bool):OS S:=ac (bound) (ac (decide ((dims:Int)>24)) (Y false) (ab k (rY k t.kind) fun r1=>ac (!(r1==(t.kids.length:Int))) (Y false) (ac (decide (((t.sys.length:Int):Int)>0)) (ab k (r_ k t.kind) fun r2=>ac (r2==0) (Y false) (J0)) (J0)))) (ab k (rY k t.kind) fun r21=>ac (!(r21==(t.kids.length:Int))) (Y false) (ac (decide (((t.sys.length:Int):Int)>0)) (ab k (r_ k t.kind) fun r22=>ac (r22==0) (Y false) (J0)) (J0)))
def eW:Nat->Tm->Int->Int->Bool->(Bool->OS S)->OS S
 |0=>fun _ _ _ _ _=> .none
 |k+1=>fun t vars dims bound Y=>JO (eW k) k Y (B3 (eW k) k Y t vars dims bound k) t vars dims bound
def pW (k:Nat) (t:Tm) (Y:Int->OS S):OS S:=ab k (A1 k (ae t)) fun r1=>ac (r1==0) (eW k (ae t) (-1) 24 false fun r2=>ac (!r2) (Y 100) (Y r1)) (Y r1)
def FP (k:Nat) (t:Tm) (a b:Int) (Y:Int->OS S):OS S:=ab k (pW k (ae t)) fun r1=>ac (r1==0) (ac (decide ((a:Int)<0)) (Y 2) (ac (decide ((b:Int)<0)) (Y 2) (Y r1))) (Y r1)
def iC (k:Nat) (a_e:Int) (Y:Int×Int×BA->OS S):OS S:=Y (ag .i64 (0-a_e),0,av)
def zn (k:Nat) (Y:Int×Int->OS S) (a_from a_by:Int) (rec0:(List Int)->Int->OS S) (l8:List Int) (v9:Int):OS S:=ac (decide ((v9:Int)<(l8.length:Int))) (af (ak l8 v9) fun x2=>af (ak l8 v9) fun x3=>ac (decide ((x3:Int)<a_from)) (rec0 l8 (ag .i64 (v9+1))) (af (ak l8 v9) fun x4=>af (ak l8 v9) fun x5=>ac (decide ((a_by:Int)>=(ag .i64 (24-x5)))) (Y (0,10)) (af (ak l8 v9) fun x6=>af (ak l8 v9) fun x7=>af (ak l8 v9) fun x8=>af (ak l8 v9) fun x9=>rec0 (l8.set (dH v9) (ag .i64 (x7+a_by))) (ag .i64 (v9+1))))) (ab k (l7 k l8) fun r10=>Y (r10,0))
def qj (k:Nat) (Y:Int×Int->OS S) (a_from a_by:Int):Nat->(List Int)->Int->OS S
 |0=>fun _ _=> .none
 |m+1=>fun l8 v9=>zn k Y a_from a_by (qj k Y a_from a_by m) l8 v9
def yC (k:Nat) (Y:Int×Int->OS S) (J0:(List Int)->Int->OS S) (s a_from a_by:Int):OS S:=ac (decide ((a_from:Int)<0)) (Y (0,2)) (ac (decide ((a_by:Int)<0)) (Y (0,2)) (ab k (l6 k s) fun r1=>J0 r1 0))
def oe (k:Nat) (s a_from a_by:Int) (Y:Int×Int->OS S):OS S:=yC k Y (fun l8 v9=>qj k Y a_from a_by k l8 v9) s a_from a_by
def AT (k:Nat) (c:Cl) (a_from a_by:Int) (Y:Cl×Int->OS S):OS S:=ab k (wg k c) fun r1=>ac (!r1) (Y ((Cl.mk 0 0),2)) (ab k (oe k c.pos a_from a_by) fun r2=>ac (!(r2.2==0)) (Y ((Cl.mk 0 0),r2.2)) (ab k (oe k c.neg a_from a_by) fun r3=>ac (!(r3.2==0)) (Y ((Cl.mk 0 0),r3.2)) (Y ((Cl.mk r2.1 r3.1),0))))
def zy (k:Nat) (Y:LC×Int->OS S) (f:LC) (a_from a_by:Int) (rec0:(LC)->Int->OS S) (out8:LC) (i9:Int):OS S:=ac (decide ((i9:Int)<(f.length:Int))) (af (ak f i9) fun x2=>ab k (AT k x2 a_from a_by) fun r3=>ac (!(r3.2==0)) (Y (([]:LC),r3.2)) (af (aE 1099511627776 out8.length [r3.1].length) fun x4=>rec0 (out8++[r3.1]) (ag .i64 (i9+1)))) (ab k (l9 k out8) fun r5=>Y (r5.1,r5.2))
def te (k:Nat) (Y:LC×Int->OS S) (f:LC) (a_from a_by:Int):Nat->(LC)->Int->OS S
 |0=>fun _ _=> .none
 |m+1=>fun out8 i9=>zy k Y f a_from a_by (te k Y f a_from a_by m) out8 i9
def JF (k:Nat) (Y:LC×Int->OS S) (J0:(LC)->Int->OS S) (f:LC) (a_from a_by:Int):OS S:=ab k (ic k f) fun r1=>ac (!r1) (Y (([]:LC),2)) (J0 ([]:LC) 0)
def oh (k:Nat) (f:LC) (a_from a_by:Int) (Y:LC×Int->OS S):OS S:=JF k Y (fun out8 i9=>te k Y f a_from a_by k out8 i9) f a_from a_by
def wn (k:Nat) (f:LC) (a_from a_by:Int) (Y:LC×Int->OS S):OS S:=ac ((f.length:Int)==0) (Y (([]:LC),0)) (ab k (oh k f a_from a_by) fun r1=>Y (r1.1,r1.2))
abbrev jJ (S:Type):=Tm->Int->Int->Int->Int->(Tm->OS S)->OS S
def zQ (hd:jJ S) (k:Nat) (Y:Tm->OS S) (t:Tm) (bG:Int) (r2:LC×Int) (b11_4:LT) (b11_5:LB) (r9:LC×Int) (v i18 vby d dby:Int) (rec2:(LB)->Int->OS S) (rec3:(LT)->Int->OS S) (b21_1:LT) (v22:Int):OS S:=af (ak t.sys i18) fun x11=>ac (decide ((v22:Int)<(x11.kids.length:Int))) (af (ak t.sys i18) fun x12=>af (ak x12.kids v22) fun x13=>ab k (rZ k t.kind) fun r14=>hd (ae x13) v vby (ag .i64 (d+r14)) dby fun r15=>ac (decide ((r15.kind:Int)<0)) (Y (ae r15)) (af (aE 1099511627776 b21_1.length [(ae r15)].length) fun x16=>rec3 (b21_1++[(ae r15)]) (ag .i64 (v22+1)))) (af (aE 1099511627776 b11_5.length [(Br.mk r9.1 b21_1)].length) fun x17=>rec2 (b11_5++[(Br.mk r9.1 b21_1)]) (ag .i64 (i18+1)))
def mn (hd:jJ S) (k:Nat) (Y:Tm->OS S) (rec2:(LB)->Int->OS S) (t:Tm) (bG:Int) (r2:LC×Int) (b11_4:LT) (b11_5:LB) (r9:LC×Int) (v i18 vby d dby:Int):Nat->(LT)->Int->OS S
 |0=>fun _ _=> .none
 |m+1=>fun b21_1 v22=>zQ hd k Y t bG r2 b11_4 b11_5 r9 v i18 vby d dby rec2 (mn hd k Y rec2 t bG r2 b11_4 b11_5 r9 v i18 vby d dby m) b21_1 v22
def vo (hd:jJ S) (k:Nat) (Y:Tm->OS S) (t:Tm) (bG:Int) (r2:LC×Int) (b11_4:LT) (v vby d dby:Int) (J3:(LB)->(LC×Int)->Int->(LT)->Int->OS S) (rec2:(LB)->Int->OS S) (b11_5:LB) (i18:Int):OS S:=ac (decide ((i18:Int)<(t.sys.length:Int))) (af (ak t.sys i18) fun x8=>ab k (wn k x8.face d dby) fun r9=>ac (!(r9.2==0)) (ab k (iC k r9.2) fun r10=>Y (Tm.mk r10.1 r10.2.1 r10.2.2 [] [] [])) (J3 b11_5 r9 i18 ([]:LT) 0)) (Y (Tm.mk t.kind bG t.name r2.1 b11_4 b11_5))
def jb (hd:jJ S) (k:Nat) (Y:Tm->OS S) (t:Tm) (bG:Int) (r2:LC×Int) (b11_4:LT) (v vby d dby:Int):Nat->(LB)->Int->OS S
 |0=>fun _ _=> .none
 |m+1=>fun b11_5 i18=>vo hd k Y t bG r2 b11_4 v vby d dby (fun b11_5 r9 i18 b21_1 v22=>mn hd k Y (jb hd k Y t bG r2 b11_4 v vby d dby m) t bG r2 b11_4 b11_5 r9 v i18 vby d dby k b21_1 v22) (jb hd k Y t bG r2 b11_4 v vby d dby m) b11_5 i18
def vn (hd:jJ S) (k:Nat) (Y:Tm->OS S) (t:Tm) (bG:Int) (r2:LC×Int) (v vby d dby:Int) (J2:(LT)->(LB)->Int->OS S) (rec1:(LT)->Int->OS S) (b11_4:LT) (i14:Int):OS S:=ac (decide ((i14:Int)<(t.kids.length:Int))) (ab k (rX k t.kind i14) fun r4=>af (ak t.kids i14) fun x5=>hd (ae x5) (ag .i64 (v+r4.1)) vby (ag .i64 (d+r4.2)) dby fun r6=>ac (decide ((r6.kind:Int)<0)) (Y (ae r6)) (af (aE 1099511627776 b11_4.length [(ae r6)].length) fun x7=>rec1 (b11_4++[(ae r6)]) (ag .i64 (i14+1)))) (J2 b11_4 ([]:LB) 0)
def lr (hd:jJ S) (k:Nat) (Y:Tm->OS S) (t:Tm) (bG:Int) (r2:LC×Int) (v vby d dby:Int):Nat->(LT)->Int->OS S
 |0=>fun _ _=> .none
 |m+1=>fun b11_4 i14=>vn hd k Y t bG r2 v vby d dby (fun b11_4 b11_5 i18=>jb hd k Y t bG r2 b11_4 v vby d dby k b11_5 i18) (lr hd k Y t bG r2 v vby d dby m) b11_4 i14
def vm (hd:jJ S) (k:Nat) (Y:Tm->OS S) (t:Tm) (v vby d dby:Int) (J1:Int->(LC×Int)->(LT)->Int->OS S) (bG:Int):OS S:=ab k (wn k t.r d dby) fun r2=>ac (!(r2.2==0)) (ab k (iC k r2.2) fun r3=>Y (Tm.mk r3.1 r3.2.1 r3.2.2 [] [] [])) (J1 bG r2 ([]:LT) 0)
def B6 (hd:jJ S) (k:Nat) (Y:Tm->OS S) (t:Tm) (v vby d dby:Int):Nat->Int->OS S
 |0=>fun _=> .none
 |_+1=>fun bG=>vm hd k Y t v vby d dby (fun bG r2 b11_4 i14=>lr hd k Y t bG r2 v vby d dby k b11_4 i14) bG
def JX (hd:jJ S) (k:Nat) (Y:Tm->OS S) (J0:Int->OS S) (t:Tm) (v vby d dby:Int):OS S:=ac (t.kind==1) (ac (decide ((t.n:Int)>=v)) (ac (decide ((t.n:Int)>(ag .i64 (1000000000-vby)))) (ab k (iC k 100) fun r1=>Y (Tm.mk r1.1 r1.2.1 r1.2.2 [] [] [])) (J0 (ag .i64 (t.n+vby)))) (J0 t.n)) (J0 t.n)
def fm:Nat->Tm->Int->Int->Int->Int->(Tm->OS S)->OS S
 |0=>fun _ _ _ _ _ _=> .none
 |k+1=>fun t v vby d dby Y=>JX (fm k) k Y (fun bG=>B6 (fm k) k Y t v vby d dby k bG) t v vby d dby
def A3 (k:Nat) (t:Tm) (Y:Tm×Int->OS S):OS S:=ac (decide ((t.kind:Int)<0)) (Y ((Tm.mk 0 0 av [] [] []),ag .i64 (0-t.kind))) (Y ((ae t),0))
def A2 (k:Nat) (t:Tm) (a_from a_by:Int) (Y:Tm×Int->OS S):OS S:=ab k (FP k (ae t) a_from a_by) fun r1=>ac (!(r1==0)) (Y ((Tm.mk 0 0 av [] [] []),r1)) (ac (decide ((a_from:Int)>1000000000)) (fm k (ae t) 0 0 1000000000 a_by fun r2=>ab k (A3 k (ae r2)) fun r3=>Y ((ae r3.1),r3.2)) (fm k (ae t) 0 0 a_from a_by fun r4=>ab k (A3 k (ae r4)) fun r5=>Y ((ae r5.1),r5.2)))
def zp (k:Nat) (Y:Int->OS S) (i:Int) (r1:List Int) (rec0:(List Int)->Int->OS S) (out6:List Int) (v7:Int):OS S:=ac (decide ((v7:Int)<(r1.length:Int))) (af (ak r1 v7) fun x2=>af (ak r1 v7) fun x3=>ac (!(x3==i)) (af (ak r1 v7) fun x4=>af (ak r1 v7) fun x5=>af (aE 1099511627776 out6.length [x5].length) fun x6=>rec0 (out6++[x5]) (ag .i64 (v7+1))) (rec0 out6 (ag .i64 (v7+1)))) (ab k (l7 k out6) fun r7=>Y r7)
def s9 (k:Nat) (Y:Int->OS S) (i:Int) (r1:List Int):Nat->(List Int)->Int->OS S
 |0=>fun _ _=> .none
 |m+1=>fun out6 v7=>zp k Y i r1 (s9 k Y i r1 m) out6 v7
def Jy (k:Nat) (Y:Int->OS S) (J0:(List Int)->(List Int)->Int->OS S) (s i:Int):OS S:=ab k (l6 k s) fun r1=>J0 r1 ([]:List Int) 0
def kB (k:Nat) (s i:Int) (Y:Int->OS S):OS S:=Jy k Y (fun r1 out6 v7=>s9 k Y i r1 k out6 v7) s i
def zF (k:Nat) (Y:LC×Int->OS S) (l:LC) (rec0:(LC)->Int->OS S) (out4:LC) (i5:Int):OS S:=ac (decide ((i5:Int)<(l.length:Int))) (af (ak l i5) fun x1=>ab k (wd k x1) fun r2=>ac (!r2) (af (ak l i5) fun x3=>af (aE 1099511627776 out4.length [x3].length) fun x4=>rec0 (out4++[x3]) (ag .i64 (i5+1))) (rec0 out4 (ag .i64 (i5+1)))) (ab k (l9 k out4) fun r5=>Y (r5.1,r5.2))
def tj (k:Nat) (Y:LC×Int->OS S) (l:LC):Nat->(LC)->Int->OS S
 |0=>fun _ _=> .none
 |m+1=>fun out4 i5=>zF k Y l (tj k Y l m) out4 i5
def JN (k:Nat) (Y:LC×Int->OS S) (J0:(LC)->Int->OS S) (l:LC):OS S:=J0 ([]:LC) 0
def pV (k:Nat) (l:LC) (Y:LC×Int->OS S):OS S:=JN k Y (fun out4 i5=>tj k Y l k out4 i5) l
def AY (k:Nat) (f:LC) (Y:LC×Int->OS S):OS S:=ab k (ic k f) fun r1=>ac (!r1) (Y (([]:LC),2)) (ab k (pV k f) fun r2=>Y (r2.1,r2.2))
def zB (k:Nat) (Y:LC->OS S) (c:Cl) (rec0:(LC)->Int->OS S) (out3:LC) (i4:Int):OS S:=ac (decide ((i4:Int)<24)) (ab k (l7 k [i4]) fun r1=>ab k (gQ k c.pos i4) fun r2=>ac (r2) (af (aE 1099511627776 out3.length [(Cl.mk 0 r1)].length) fun x3=>ab k (gQ k c.neg i4) fun r4=>ac (r4) (af (aE 1099511627776 (out3++[(Cl.mk 0 r1)]).length [(Cl.mk r1 0)].length) fun x5=>rec0 ((out3++[(Cl.mk 0 r1)])++[(Cl.mk r1 0)]) (ag .i64 (i4+1))) (rec0 (out3++[(Cl.mk 0 r1)]) (ag .i64 (i4+1)))) (ab k (gQ k c.neg i4) fun r6=>ac (r6) (af (aE 1099511627776 out3.length [(Cl.mk r1 0)].length) fun x7=>rec0 (out3++[(Cl.mk r1 0)]) (ag .i64 (i4+1))) (rec0 out3 (ag .i64 (i4+1))))) (ab k (l9 k out3) fun r8=>Y r8.1)
def th (k:Nat) (Y:LC->OS S) (c:Cl):Nat->(LC)->Int->OS S
 |0=>fun _ _=> .none
 |m+1=>fun out3 i4=>zB k Y c (th k Y c m) out3 i4
def JJ (k:Nat) (Y:LC->OS S) (J0:(LC)->Int->OS S) (c:Cl):OS S:=J0 ([]:LC) 0
def AX (k:Nat) (c:Cl) (Y:LC->OS S):OS S:=JJ k Y (fun out3 i4=>th k Y c k out3 i4) c
def wc (k:Nat) (s i:Int) (Y:Int->OS S):OS S:=ac (decide ((i:Int)<0)) (ab k (kB k s (-1)) fun r1=>Y r1) (ac (decide ((i:Int)>=24)) (ab k (kB k s (-1)) fun r2=>Y r2) (ab k (kB k s i) fun r3=>ab k (l6 k r3) fun r4=>af (aE 1099511627776 r4.length [i].length) fun x5=>ab k (l7 k (r4++[i])) fun r6=>Y r6))
def zw (k:Nat) (Y:Int->OS S) (r1:List Int) (rec0:Int->Int->OS S) (a0 i6:Int):OS S:=ac (decide ((i6:Int)<(r1.length:Int))) (af (ak r1 i6) fun x2=>af (ak r1 i6) fun x3=>ab k (wc k a0 x3) fun r4=>rec0 r4 (ag .i64 (i6+1))) (Y a0)
def td (k:Nat) (Y:Int->OS S) (r1:List Int):Nat->Int->Int->OS S
 |0=>fun _ _=> .none
 |m+1=>fun a0 i6=>zw k Y r1 (td k Y r1 m) a0 i6
def JD (k:Nat) (Y:Int->OS S) (J0:(List Int)->Int->Int->OS S) (a b:Int):OS S:=ab k (l6 k b) fun r1=>J0 r1 a 0
def wi (k:Nat) (a b:Int) (Y:Int->OS S):OS S:=JD k Y (fun r1 a0 i6=>td k Y r1 k a0 i6) a b
def we (k:Nat) (a b:Cl) (Y:Cl->OS S):OS S:=ab k (wi k a.pos b.pos) fun r1=>ab k (wi k a.neg b.neg) fun r2=>Y (Cl.mk r1 r2)
def zz (k:Nat) (Y:LC×Int->OS S) (f g:LC) (i7:Int) (rec0:(LC)->Int->OS S) (rec1:(LC)->Int->OS S) (out6':LC) (v8:Int):OS S:=ac (decide ((v8:Int)<(g.length:Int))) (af (ak f i7) fun x3=>af (ak g v8) fun x4=>ab k (we k x3 x4) fun r5=>af (aE 1099511627776 out6'.length [r5].length) fun x6=>rec1 (out6'++[r5]) (ag .i64 (v8+1))) (rec0 out6' (ag .i64 (i7+1)))
def qm (k:Nat) (Y:LC×Int->OS S) (rec0:(LC)->Int->OS S) (f g:LC) (i7:Int):Nat->(LC)->Int->OS S
 |0=>fun _ _=> .none
 |m+1=>fun out6' v8=>zz k Y f g i7 rec0 (qm k Y rec0 f g i7 m) out6' v8
def u5 (k:Nat) (Y:LC×Int->OS S) (f g:LC) (J1:Int->(LC)->Int->OS S) (rec0:(LC)->Int->OS S) (out6:LC) (i7:Int):OS S:=ac (decide ((i7:Int)<(f.length:Int))) (J1 i7 out6 0) (ab k (l9 k out6) fun r7=>Y (r7.1,r7.2))
def oR (k:Nat) (Y:LC×Int->OS S) (f g:LC):Nat->(LC)->Int->OS S
 |0=>fun _ _=> .none
 |m+1=>fun out6 i7=>u5 k Y f g (fun i7 out6' v8=>qm k Y (oR k Y f g m) f g i7 k out6' v8) (oR k Y f g m) out6 i7
def JG (k:Nat) (Y:LC×Int->OS S) (J0:(LC)->Int->OS S) (f g:LC):OS S:=ab k (ic k f) fun r1=>ac (!r1) (Y (([]:LC),2)) (ab k (ic k g) fun r2=>ac (!r2) (Y (([]:LC),2)) (J0 ([]:LC) 0))
def mV (k:Nat) (f g:LC) (Y:LC×Int->OS S):OS S:=JG k Y (fun out6 i7=>oR k Y f g k out6 i7) f g
def zA (k:Nat) (Y:LC×Int->OS S) (f:LC) (rec0:(LC)->Int->Int->OS S) (v4:LC) (v5 i6:Int):OS S:=ac (decide ((i6:Int)<(f.length:Int))) (ac (v5==0) (af (ak f i6) fun x2=>ab k (AX k x2) fun r3=>ab k (mV k v4 r3) fun r4=>rec0 r4.1 r4.2 (ag .i64 (i6+1))) (Y (v4,v5))) (Y (v4,v5))
def tf (k:Nat) (Y:LC×Int->OS S) (f:LC):Nat->(LC)->Int->Int->OS S
 |0=>fun _ _ _=> .none
 |m+1=>fun v4 v5 i6=>zA k Y f (tf k Y f m) v4 v5 i6
def JH (k:Nat) (Y:LC×Int->OS S) (J0:(LC)->Int->Int->OS S) (f:LC):OS S:=ab k (ic k f) fun r1=>ac (!r1) (Y (([]:LC),2)) (J0 [(Cl.mk 0 0)] 0 0)
def rW (k:Nat) (f:LC) (Y:LC×Int->OS S):OS S:=JH k Y (fun v4 v5 i6=>tf k Y f k v4 v5 i6) f
def wk (k:Nat) (f:LC) (Y:LC×Int->OS S):OS S:=ab k (rW k f) fun r1=>ac (!(r1.2==0)) (Y (([]:LC),r1.2)) (ab k (pV k r1.1) fun r2=>Y (r2.1,r2.2))
def zC (k:Nat) (Y:LC×Int->OS S) (f g:LC) (i7:Int) (rec0:(LC)->Int->OS S) (rec1:(LC)->Int->OS S) (out6':LC) (v8:Int):OS S:=ac (decide ((v8:Int)<(g.length:Int))) (af (ak f i7) fun x3=>af (ak g v8) fun x4=>ab k (we k x3 x4) fun r5=>af (aE 1099511627776 out6'.length [r5].length) fun x6=>rec1 (out6'++[r5]) (ag .i64 (v8+1))) (rec0 out6' (ag .i64 (i7+1)))
def qn (k:Nat) (Y:LC×Int->OS S) (rec0:(LC)->Int->OS S) (f g:LC) (i7:Int):Nat->(LC)->Int->OS S
 |0=>fun _ _=> .none
 |m+1=>fun out6' v8=>zC k Y f g i7 rec0 (qn k Y rec0 f g i7 m) out6' v8
def u7 (k:Nat) (Y:LC×Int->OS S) (f g:LC) (J1:Int->(LC)->Int->OS S) (rec0:(LC)->Int->OS S) (out6:LC) (i7:Int):OS S:=ac (decide ((i7:Int)<(f.length:Int))) (J1 i7 out6 0) (ab k (pV k out6) fun r7=>Y (r7.1,r7.2))
def oT (k:Nat) (Y:LC×Int->OS S) (f g:LC):Nat->(LC)->Int->OS S
 |0=>fun _ _=> .none
 |m+1=>fun out6 i7=>u7 k Y f g (fun i7 out6' v8=>qn k Y (oT k Y f g m) f g i7 k out6' v8) (oT k Y f g m) out6 i7
def JK (k:Nat) (Y:LC×Int->OS S) (J0:(LC)->Int->OS S) (f g:LC):OS S:=ab k (l_ k f) fun r1=>ac (!r1) (Y (([]:LC),2)) (ab k (l_ k g) fun r2=>ac (!r2) (Y (([]:LC),2)) (J0 ([]:LC) 0))
def oi (k:Nat) (f g:LC) (Y:LC×Int->OS S):OS S:=JK k Y (fun out6 i7=>oT k Y f g k out6 i7) f g
def kC (k:Nat) (f g:LC) (Y:LC×Int->OS S):OS S:=ab k (l_ k f) fun r1=>ac (!r1) (Y (([]:LC),2)) (ab k (l_ k g) fun r2=>ac (!r2) (Y (([]:LC),2)) (af (aE 1099511627776 ([]:LC).length f.length) fun x3=>af (aE 1099511627776 (([]:LC)++f).length g.length) fun x4=>ab k (pV k ((([]:LC)++f)++g)) fun r5=>Y (r5.1,r5.2)))
def zD (k:Nat) (Y:LC×Int->OS S) (f:LC) (i:Int) (a_r:LC) (rec0:(LC)->Int->OS S) (v8:LC) (v9:Int):OS S:=ac (decide ((v9:Int)<(f.length:Int))) (af (ak f v9) fun x3=>ab k (kB k x3.pos i) fun r4=>ab k (kB k x3.neg i) fun r5=>ab k (gQ k x3.pos i) fun r6=>ac (r6) (ab k (AY k a_r) fun r7=>ab k (gQ k x3.neg i) fun r8=>ac (r8) (ab k (wk k a_r) fun r9=>ac (r9.2==0) (ab k (oi k [(Cl.mk r4 r5)] r9.1) fun r10=>ac (r10.2==0) (ab k (kC k v8 r10.1) fun r11=>ac (!(r11.2==0)) (Y (([]:LC),r11.2)) (rec0 r11.1 (ag .i64 (v9+1)))) (ac (!(r10.2==0)) (Y (([]:LC),r10.2)) (rec0 v8 (ag .i64 (v9+1))))) (ac (r9.2==0) (ab k (kC k v8 [(Cl.mk r4 r5)]) fun r12=>ac (!(r12.2==0)) (Y (([]:LC),r12.2)) (rec0 r12.1 (ag .i64 (v9+1)))) (ac (!(r9.2==0)) (Y (([]:LC),r9.2)) (rec0 v8 (ag .i64 (v9+1)))))) (ac (r7.2==0) (ab k (oi k [(Cl.mk r4 r5)] r7.1) fun r13=>ac (r13.2==0) (ab k (kC k v8 r13.1) fun r14=>ac (!(r14.2==0)) (Y (([]:LC),r14.2)) (rec0 r14.1 (ag .i64 (v9+1)))) (ac (!(r13.2==0)) (Y (([]:LC),r13.2)) (rec0 v8 (ag .i64 (v9+1))))) (ac (r7.2==0) (ab k (kC k v8 [(Cl.mk r4 r5)]) fun r15=>ac (!(r15.2==0)) (Y (([]:LC),r15.2)) (rec0 r15.1 (ag .i64 (v9+1)))) (ac (!(r7.2==0)) (Y (([]:LC),r7.2)) (rec0 v8 (ag .i64 (v9+1))))))) (ab k (gQ k x3.neg i) fun r16=>ac (r16) (ab k (wk k a_r) fun r17=>ac (r17.2==0) (ab k (oi k [(Cl.mk r4 r5)] r17.1) fun r18=>ac (r18.2==0) (ab k (kC k v8 r18.1) fun r19=>ac (!(r19.2==0)) (Y (([]:LC),r19.2)) (rec0 r19.1 (ag .i64 (v9+1)))) (ac (!(r18.2==0)) (Y (([]:LC),r18.2)) (rec0 v8 (ag .i64 (v9+1))))) (ac (r17.2==0) (ab k (kC k v8 [(Cl.mk r4 r5)]) fun r20=>ac (!(r20.2==0)) (Y (([]:LC),r20.2)) (rec0 r20.1 (ag .i64 (v9+1)))) (ac (!(r17.2==0)) (Y (([]:LC),r17.2)) (rec0 v8 (ag .i64 (v9+1)))))) (ab k (oi k [(Cl.mk r4 r5)] [(Cl.mk 0 0)]) fun r21=>ac (r21.2==0) (ab k (kC k v8 r21.1) fun r22=>ac (!(r22.2==0)) (Y (([]:LC),r22.2)) (rec0 r22.1 (ag .i64 (v9+1)))) (ac (!(r21.2==0)) (Y (([]:LC),r21.2)) (rec0 v8 (ag .i64 (v9+1))))))) (Y (v8,0))
def qr (k:Nat) (Y:LC×Int->OS S) (f:LC) (i:Int) (a_r:LC):Nat->(LC)->Int->OS S
 |0=>fun _ _=> .none
 |m+1=>fun v8 v9=>zD k Y f i a_r (qr k Y f i a_r m) v8 v9
def JL (k:Nat) (Y:LC×Int->OS S) (J0:(LC)->Int->OS S) (f:LC) (i:Int) (a_r:LC):OS S:=ab k (l_ k f) fun r1=>ac (!r1) (Y (([]:LC),2)) (ac (decide ((i:Int)<0)) (Y (([]:LC),2)) (ac (decide ((i:Int)>=24)) (Y (([]:LC),2)) (ab k (ic k a_r) fun r2=>ac (!r2) (Y (([]:LC),2)) (J0 [] 0))))
def AZ (k:Nat) (f:LC) (i:Int) (a_r:LC) (Y:LC×Int->OS S):OS S:=JL k Y (fun v8 v9=>qr k Y f i a_r k v8 v9) f i a_r
def AV (k:Nat) (f g:LC) (Y:LC×Int->OS S):OS S:=ab k (ic k f) fun r1=>ac (!r1) (Y (([]:LC),2)) (ab k (ic k g) fun r2=>ac (!r2) (Y (([]:LC),2)) (af (aE 1099511627776 ([]:LC).length f.length) fun x3=>af (aE 1099511627776 (([]:LC)++f).length g.length) fun x4=>ab k (l9 k ((([]:LC)++f)++g)) fun r5=>Y (r5.1,r5.2)))
def E3 (k:Nat) (Y:LC×Int->OS S) (f:LC) (i:Int) (a_r v8:LC) (v9:Int) (rec0:(LC)->Int->OS S) (g11:LC) (v12:Int):OS S:=ac (v12==0) (ab k (AV k v8 g11) fun r11=>ac (!(r11.2==0)) (Y (([]:LC),r11.2)) (rec0 r11.1 (ag .i64 (v9+1)))) (ac (!(v12==0)) (Y (([]:LC),v12)) (rec0 v8 (ag .i64 (v9+1))))
def tg (k:Nat) (Y:LC×Int->OS S) (rec0:(LC)->Int->OS S) (f:LC) (i:Int) (a_r v8:LC) (v9:Int):Nat->(LC)->Int->OS S
 |0=>fun _ _=> .none
 |_+1=>fun g11 v12=>E3 k Y f i a_r v8 v9 rec0 g11 v12
def u6 (k:Nat) (Y:LC×Int->OS S) (f:LC) (i:Int) (a_r:LC) (J1:(LC)->Int->(LC)->Int->OS S) (rec0:(LC)->Int->OS S) (v8:LC) (v9:Int):OS S:=ac (decide ((v9:Int)<(f.length:Int))) (af (ak f v9) fun x3=>ab k (kB k x3.pos i) fun r4=>ab k (kB k x3.neg i) fun r5=>ab k (gQ k x3.pos i) fun r6=>ac (r6) (ab k (mV k [(Cl.mk r4 r5)] a_r) fun r7=>ac (r7.2==0) (ab k (gQ k x3.neg i) fun r8=>ac (r8) (ab k (rW k a_r) fun r9=>ac (r9.2==0) (ab k (mV k r7.1 r9.1) fun r10=>J1 v8 v9 r10.1 r10.2) (J1 v8 v9 r7.1 r9.2)) (J1 v8 v9 r7.1 r7.2)) (J1 v8 v9 r7.1 r7.2)) (ab k (gQ k x3.neg i) fun r12=>ac (r12) (ab k (rW k a_r) fun r13=>ac (r13.2==0) (ab k (mV k [(Cl.mk r4 r5)] r13.1) fun r14=>J1 v8 v9 r14.1 r14.2) (J1 v8 v9 [(Cl.mk r4 r5)] r13.2)) (J1 v8 v9 [(Cl.mk r4 r5)] 0))) (Y (v8,0))
def oS (k:Nat) (Y:LC×Int->OS S) (f:LC) (i:Int) (a_r:LC):Nat->(LC)->Int->OS S
 |0=>fun _ _=> .none
 |m+1=>fun v8 v9=>u6 k Y f i a_r (fun v8 v9 g11 v12=>tg k Y (oS k Y f i a_r m) f i a_r v8 v9 k g11 v12) (oS k Y f i a_r m) v8 v9
def JI (k:Nat) (Y:LC×Int->OS S) (J0:(LC)->Int->OS S) (f:LC) (i:Int) (a_r:LC):OS S:=ab k (ic k f) fun r1=>ac (!r1) (Y (([]:LC),2)) (ab k (ic k a_r) fun r2=>ac (!r2) (Y (([]:LC),2)) (ac (decide ((i:Int)<0)) (Y (([]:LC),2)) (ac (decide ((i:Int)>=24)) (Y (([]:LC),2)) (J0 [] 0))))
def AW (k:Nat) (f:LC) (i:Int) (a_r:LC) (Y:LC×Int->OS S):OS S:=JI k Y (fun v8 v9=>oS k Y f i a_r k v8 v9) f i a_r
def wt (k:Nat) (f:LC) (isFace:Bool) (i:Int) (a_r:LC) (depth:Int) (Y:LC×Int->OS S):OS S:=ab k (wj k f) fun r1=>ab k (gQ k r1 (ag .i64 (i+depth))) fun r2=>ac (!r2) (Y (f,0)) (ab k (oh k a_r 0 depth) fun r3=>ac (!(r3.2==0)) (Y (([]:LC),r3.2)) (ac (isFace) (ab k (AZ k f (ag .i64 (i+depth)) r3.1) fun r4=>Y (r4.1,r4.2)) (ab k (AW k f (ag .i64 (i+depth)) r3.1) fun r5=>Y (r5.1,r5.2))))
def zm (k:Nat) (Y:Int->OS S) (i:Int) (rec0:(List Int)->Int->OS S) (l5:List Int) (v6:Int):OS S:=ac (decide ((v6:Int)<(l5.length:Int))) (ac (decide ((i:Int)>=0)) (af (ak l5 v6) fun x3=>af (ak l5 v6) fun x4=>ac (decide ((x4:Int)>i)) (af (ak l5 v6) fun x5=>af (ak l5 v6) fun x6=>af (ak l5 v6) fun x7=>af (ak l5 v6) fun x8=>rec0 (l5.set (dH v6) (ag .i64 (x6-1))) (ag .i64 (v6+1))) (rec0 l5 (ag .i64 (v6+1)))) (rec0 l5 (ag .i64 (v6+1)))) (ab k (l7 k l5) fun r9=>Y r9)
def qi (k:Nat) (Y:Int->OS S) (i:Int):Nat->(List Int)->Int->OS S
 |0=>fun _ _=> .none
 |m+1=>fun l5 v6=>zm k Y i (qi k Y i m) l5 v6
def Jv (k:Nat) (Y:Int->OS S) (J0:(List Int)->Int->OS S) (s i:Int):OS S:=ab k (kB k s i) fun r1=>ab k (l6 k r1) fun r2=>J0 r2 0
def rT (k:Nat) (s i:Int) (Y:Int->OS S):OS S:=Jv k Y (fun l5 v6=>qi k Y i k l5 v6) s i
def zR (k:Nat) (Y:LC->OS S) (f:LC) (i:Int) (rec0:(LC)->Int->OS S) (out5:LC) (v6:Int):OS S:=ac (decide ((v6:Int)<(f.length:Int))) (af (ak f v6) fun x1=>ab k (rT k x1.pos i) fun r2=>af (ak f v6) fun x3=>ab k (rT k x3.neg i) fun r4=>af (aE 1099511627776 out5.length [(Cl.mk r2 r4)].length) fun x5=>rec0 (out5++[(Cl.mk r2 r4)]) (ag .i64 (v6+1))) (ab k (l9 k out5) fun r6=>Y r6.1)
def tt (k:Nat) (Y:LC->OS S) (f:LC) (i:Int):Nat->(LC)->Int->OS S
 |0=>fun _ _=> .none
 |m+1=>fun out5 v6=>zR k Y f i (tt k Y f i m) out5 v6
def JY (k:Nat) (Y:LC->OS S) (J0:(LC)->Int->OS S) (f:LC) (i:Int):OS S:=J0 ([]:LC) 0
def ws (k:Nat) (f:LC) (i:Int) (Y:LC->OS S):OS S:=JY k Y (fun out5 v6=>tt k Y f i k out5 v6) f i
abbrev kX (S:Type):=Tm->Int->(LC)->Int->Bool->(Tm->OS S)->OS S
def zS (hd:kX S) (k:Nat) (Y:Tm->OS S) (t:Tm) (cE:LC) (b11_4:LT) (b11_5:LB) (i v18:Int) (a_r:LC) (depth:Int) (drop:Bool) (rec1:(LB)->Int->OS S) (rec2:(LC)->(LT)->Int->OS S) (iw:LC) (b21_1:LT) (v22:Int):OS S:=af (ak t.sys v18) fun x12=>ac (decide ((v22:Int)<(x12.kids.length:Int))) (af (ak t.sys v18) fun x13=>af (ak x13.kids v22) fun x14=>ab k (rZ k t.kind) fun r15=>hd (ae x14) i a_r (ag .i64 (depth+r15)) drop fun r16=>ac (decide ((r16.kind:Int)<0)) (Y (ae r16)) (af (aE 1099511627776 b21_1.length [(ae r16)].length) fun x17=>rec2 iw (b21_1++[(ae r16)]) (ag .i64 (v22+1)))) (af (aE 1099511627776 b11_5.length [(Br.mk iw b21_1)].length) fun x18=>rec1 (b11_5++[(Br.mk iw b21_1)]) (ag .i64 (v18+1)))
def ni (hd:kX S) (k:Nat) (Y:Tm->OS S) (rec1:(LB)->Int->OS S) (t:Tm) (cE:LC) (b11_4:LT) (b11_5:LB) (i v18:Int) (a_r:LC) (depth:Int) (drop:Bool):Nat->(LC)->(LT)->Int->OS S
 |0=>fun _ _ _=> .none
 |m+1=>fun iw b21_1 v22=>zS hd k Y t cE b11_4 b11_5 i v18 a_r depth drop rec1 (ni hd k Y rec1 t cE b11_4 b11_5 i v18 a_r depth drop m) iw b21_1 v22
def vr (hd:kX S) (k:Nat) (Y:Tm->OS S) (t:Tm) (cE:LC) (b11_4:LT) (i:Int) (a_r:LC) (depth:Int) (drop:Bool) (J2:(LB)->Int->(LC)->(LT)->Int->OS S) (rec1:(LB)->Int->OS S) (b11_5:LB) (v18:Int):OS S:=ac (decide ((v18:Int)<(t.sys.length:Int))) (af (ak t.sys v18) fun x8=>ab k (wt k x8.face true i a_r depth) fun r9=>ac (!(r9.2==0)) (ab k (iC k r9.2) fun r10=>Y (Tm.mk r10.1 r10.2.1 r10.2.2 [] [] [])) (ac ((r9.1.length:Int)==0) (rec1 b11_5 (ag .i64 (v18+1))) (ac (drop) (ab k (ws k r9.1 (ag .i64 (i+depth))) fun r11=>J2 b11_5 v18 r11 ([]:LT) 0) (J2 b11_5 v18 r9.1 ([]:LT) 0)))) (Y (Tm.mk t.kind t.n t.name cE b11_4 b11_5))
def lu (hd:kX S) (k:Nat) (Y:Tm->OS S) (t:Tm) (cE:LC) (b11_4:LT) (i:Int) (a_r:LC) (depth:Int) (drop:Bool):Nat->(LB)->Int->OS S
 |0=>fun _ _=> .none
 |m+1=>fun b11_5 v18=>vr hd k Y t cE b11_4 i a_r depth drop (fun b11_5 v18 iw b21_1 v22=>ni hd k Y (lu hd k Y t cE b11_4 i a_r depth drop m) t cE b11_4 b11_5 i v18 a_r depth drop k iw b21_1 v22) (lu hd k Y t cE b11_4 i a_r depth drop m) b11_5 v18
def vq (hd:kX S) (k:Nat) (Y:Tm->OS S) (t:Tm) (i:Int) (a_r:LC) (depth:Int) (drop:Bool) (J1:(LC)->(LT)->(LB)->Int->OS S) (rec0:(LC)->(LT)->Int->OS S) (cE:LC) (b11_4:LT) (v14:Int):OS S:=ac (decide ((v14:Int)<(t.kids.length:Int))) (ab k (rX k t.kind v14) fun r4=>af (ak t.kids v14) fun x5=>hd (ae x5) i a_r (ag .i64 (depth+r4.2)) drop fun r6=>ac (decide ((r6.kind:Int)<0)) (Y (ae r6)) (af (aE 1099511627776 b11_4.length [(ae r6)].length) fun x7=>rec0 cE (b11_4++[(ae r6)]) (ag .i64 (v14+1)))) (J1 cE b11_4 ([]:LB) 0)
def oW (hd:kX S) (k:Nat) (Y:Tm->OS S) (t:Tm) (i:Int) (a_r:LC) (depth:Int) (drop:Bool):Nat->(LC)->(LT)->Int->OS S
 |0=>fun _ _ _=> .none
 |m+1=>fun cE b11_4 v14=>vq hd k Y t i a_r depth drop (fun cE b11_4 b11_5 v18=>lu hd k Y t cE b11_4 i a_r depth drop k b11_5 v18) (oW hd k Y t i a_r depth drop m) cE b11_4 v14
def JZ (hd:kX S) (k:Nat) (Y:Tm->OS S) (J0:(LC)->(LT)->Int->OS S) (t:Tm) (i:Int) (a_r:LC) (depth:Int) (drop:Bool):OS S:=ab k (wt k t.r (t.kind==14) i a_r depth) fun r1=>ac (!(r1.2==0)) (ab k (iC k r1.2) fun r2=>Y (Tm.mk r2.1 r2.2.1 r2.2.2 [] [] [])) (ac (drop) (ab k (ws k r1.1 (ag .i64 (i+depth))) fun r3=>J0 r3 ([]:LT) 0) (J0 r1.1 ([]:LT) 0))
def jZ:Nat->Tm->Int->(LC)->Int->Bool->(Tm->OS S)->OS S
 |0=>fun _ _ _ _ _ _=> .none
 |k+1=>fun t i a_r depth drop Y=>JZ (jZ k) k Y (fun cE b11_4 v14=>oW (jZ k) k Y t i a_r depth drop k cE b11_4 v14) t i a_r depth drop
def wq (k:Nat) (t:Tm) (i:Int) (a_r:LC) (Y:Tm->OS S):OS S:=ac (decide ((t.kind:Int)<0)) (Y (ae t)) (ab k (oh k a_r i 1) fun r1=>ac (!(r1.2==0)) (ab k (iC k r1.2) fun r2=>Y (Tm.mk r2.1 r2.2.1 r2.2.2 [] [] [])) (jZ k (ae t) i r1.1 0 true fun r3=>Y (ae r3)))
def rq (k:Nat) (Y:Tm×Int->OS S) (a:Tm) (r5:Int×Int×BA×LT) (sys:LB) (rec0:Int->(LB)->Int->OS S) (d_:Int) (b9_5:LB) (v29:Int):OS S:=ac (decide ((v29:Int)<(sys.length:Int))) (af (ak sys v29) fun x6=>ab k (fR k d_) fun r7=>ac (!r7) (ab k (iz k (ae a) 0 2 d_) fun r8=>af (aE 1099511627776 b9_5.length [(Br.mk [(Cl.mk 0 1)] [(ae r8.1)])].length) fun x9=>ab k (iy k (Tm.mk r5.1 r5.2.1 r5.2.2.1 [] r5.2.2.2 (b9_5++[(Br.mk [(Cl.mk 0 1)] [(ae r8.1)])])) r8.2) fun r10=>Y ((ae r10.1),r10.2.1)) (ab k (pQ k x6.face d_) fun r11=>af (ak x6.kids 0) fun x12=>ab k (mR k (ae x12) [(Cl.mk 3 0)] r11.2) fun r13=>af (aE 1099511627776 b9_5.length [(Br.mk r11.1 [(ae r13.1)])].length) fun x14=>rec0 r13.2 (b9_5++[(Br.mk r11.1 [(ae r13.1)])]) (ag .i64 (v29+1)))) (ab k (iz k (ae a) 0 2 d_) fun r15=>af (aE 1099511627776 b9_5.length [(Br.mk [(Cl.mk 0 1)] [(ae r15.1)])].length) fun x16=>ab k (iy k (Tm.mk r5.1 r5.2.1 r5.2.2.1 [] r5.2.2.2 (b9_5++[(Br.mk [(Cl.mk 0 1)] [(ae r15.1)])])) r15.2) fun r17=>Y ((ae r17.1),r17.2.1))
def kL (k:Nat) (Y:Tm×Int->OS S) (a:Tm) (r5:Int×Int×BA×LT) (sys:LB):Nat->Int->(LB)->Int->OS S
 |0=>fun _ _ _=> .none
 |m+1=>fun d_ b9_5 v29=>rq k Y a r5 sys (kL k Y a r5 sys m) d_ b9_5 v29
def I7 (k:Nat) (Y:Tm×Int->OS S) (J0:(Int×Int×BA×LT)->Int->(LB)->Int->OS S) (t a:Tm) (sys:LB):OS S:=ab k (rG k sys) fun r1=>ab k (n5 k [(ae t),(ae a),(Tm.mk r1.1 r1.2.1 r1.2.2.1 [] r1.2.2.2.1 r1.2.2.2.2)]) fun r2=>ab k (iz k (ae t) 0 1 r2) fun r3=>ab k (iz k (ae a) 0 1 r3.2) fun r4=>ab k (jm k 15 [(ae r3.1),(ae r4.1)]) fun r5=>J0 r5 r4.2 ([]:LB) 0
def Aj (k:Nat) (t a:Tm) (sys:LB) (Y:Tm×Int->OS S):OS S:=I7 k Y (fun r5 d_ b9_5 v29=>kL k Y a r5 sys k d_ b9_5 v29) t a sys
def AO (k:Nat) (t a:Tm) (sys:LB) (c0:Int) (Y:Tm×Int->OS S):OS S:=ab k (iA k c0) fun r1=>ac (!r1) (Y ((Tm.mk 0 0 av [] [] []),c0)) (ab k (Aj k (ae t) (ae a) sys) fun r2=>ab k (kA k (ae r2.1) r2.2 c0) fun r3=>Y ((ae r3.1),r3.2))
def AG (k:Nat) (a_x:(Br Tm)) (c1:LB) (c2:Int) (Y:(Br Tm)×Int->OS S):OS S:=ab k (fS k 3 ([]:LT)) fun r1=>ab k (n9 k (Tm.mk r1.1 r1.2.1 r1.2.2.1 [] r1.2.2.2 []) c1) fun r2=>ab k (jY k (Tm.mk r2.1 r2.2.1 r2.2.2.1 [] r2.2.2.2.1 r2.2.2.2.2) 0 1 c2) fun r3=>af (ak a_x.kids 0) fun x4=>ab k (h_ k a_x.face [(Tm.mk r3.1.kind r3.1.n r3.1.name r3.1.r [(ae x4)] r3.1.sys)]) fun r5=>Y (r5,r3.2)
def zh (k:Nat) (Y:LB×Int->OS S) (c1 l:LB) (rec0:Int->Int->(LB)->OS S) (j7 v10:Int) (out5:LB):OS S:=ac (decide ((v10:Int)<(l.length:Int))) (af (ak l v10) fun x1=>ab k (AG k x1 c1 j7) fun r2=>af (aE 1099511627776 out5.length [r2.1].length) fun x3=>rec0 r2.2 (ag .i64 (v10+1)) (out5++[r2.1])) (Y (out5,j7))
def sY (k:Nat) (Y:LB×Int->OS S) (c1 l:LB):Nat->Int->Int->(LB)->OS S
 |0=>fun _ _ _=> .none
 |m+1=>fun j7 v10 out5=>zh k Y c1 l (sY k Y c1 l m) j7 v10 out5
def Ug (k:Nat) (Y:LB×Int->OS S) (J0:Int->Int->(LB)->OS S) (l c1:LB) (c2:Int):OS S:=J0 c2 0 ([]:LB)
def LF (k:Nat) (l c1:LB) (c2:Int) (Y:LB×Int->OS S):OS S:=Ug k Y (fun j7 v10 out5=>sY k Y c1 l k j7 v10 out5) l c1 c2
def AH (k:Nat) (a_x:(Br Tm)) (c1 c2:Tm) (c3:Int) (Y:(Br Tm)×Int->OS S):OS S:=af (ak a_x.kids 1) fun x1=>ab k (jY k (ae x1) 0 1 c3) fun r2=>ab k (rP k (ae r2.1)) fun r3=>af (ak a_x.kids 0) fun x4=>ab k (AO k (ae x4) (ae c1) c2.sys r2.2) fun r5=>ab k (fS k 6 [(Tm.mk r3.1 r3.2.1 r3.2.2.1 [] r3.2.2.2 []),(ae r5.1)]) fun r6=>ab k (h_ k a_x.face [(Tm.mk r6.1 r6.2.1 r6.2.2.1 [] r6.2.2.2 [])]) fun r7=>Y (r7,r5.2)
def zg (k:Nat) (Y:LB×Int->OS S) (c1 c2:Tm) (l:LB) (rec0:Int->Int->(LB)->OS S) (eI v10:Int) (out5:LB):OS S:=ac (decide ((v10:Int)<(l.length:Int))) (af (ak l v10) fun x1=>ab k (AH k x1 (ae c1) (ae c2) eI) fun r2=>af (aE 1099511627776 out5.length [r2.1].length) fun x3=>rec0 r2.2 (ag .i64 (v10+1)) (out5++[r2.1])) (Y (out5,eI))
def sX (k:Nat) (Y:LB×Int->OS S) (c1 c2:Tm) (l:LB):Nat->Int->Int->(LB)->OS S
 |0=>fun _ _ _=> .none
 |m+1=>fun eI v10 out5=>zg k Y c1 c2 l (sX k Y c1 c2 l m) eI v10 out5
def Uf (k:Nat) (Y:LB×Int->OS S) (J0:Int->Int->(LB)->OS S) (l:LB) (c1 c2:Tm) (c3:Int):OS S:=J0 c3 0 ([]:LB)
def FH (k:Nat) (l:LB) (c1 c2:Tm) (c3:Int) (Y:LB×Int->OS S):OS S:=Uf k Y (fun eI v10 out5=>sX k Y c1 c2 l k eI v10 out5) l c1 c2 c3
def FE (k:Nat) (a_x:(Br Tm)) (c0 c1:Tm) (Y:(Br Tm)->OS S):OS S:=af (ak a_x.kids 0) fun x1=>ab k (iZ k 15 c0.sys [(ae x1),(ae c1)]) fun r2=>ab k (h_ k a_x.face [(Tm.mk r2.1 r2.2.1 r2.2.2.1 [] r2.2.2.2.1 r2.2.2.2.2)]) fun r3=>Y r3
def zf (k:Nat) (Y:LB->OS S) (c0 c1:Tm) (l:LB) (rec0:Int->(LB)->OS S) (v10:Int) (out5:LB):OS S:=ac (decide ((v10:Int)<(l.length:Int))) (af (ak l v10) fun x1=>ab k (FE k x1 (ae c0) (ae c1)) fun r2=>af (aE 1099511627776 out5.length [r2].length) fun x3=>rec0 (ag .i64 (v10+1)) (out5++[r2])) (Y out5)
def sW (k:Nat) (Y:LB->OS S) (c0 c1:Tm) (l:LB):Nat->Int->(LB)->OS S
 |0=>fun _ _=> .none
 |m+1=>fun v10 out5=>zf k Y c0 c1 l (sW k Y c0 c1 l m) v10 out5
def Jr (k:Nat) (Y:LB->OS S) (J0:Int->(LB)->OS S) (l:LB) (c0 c1:Tm):OS S:=J0 0 ([]:LB)
def vY (k:Nat) (l:LB) (c0 c1:Tm) (Y:LB->OS S):OS S:=Jr k Y (fun v10 out5=>sW k Y c0 c1 l k v10 out5) l c0 c1
def vV (k:Nat) (t:Tm) (Y:Tm×Bool×Int->OS S):OS S:=ab k (ld k (ae t)) fun r1=>ac (!(r1==0)) (Y ((Tm.mk 0 0 av [] [] []),false,r1)) (ac (!(t.kind==15)) (Y ((Tm.mk 0 0 av [] [] []),false,0)) (af (ak t.kids 0) fun x2=>ac (!(x2.kind==16)) (Y ((Tm.mk 0 0 av [] [] []),false,0)) (fT k (ae t) fun r3=>af (ak r3.kids 0) fun x4=>af (ak r3.kids 1) fun x5=>af (ak r3.kids 0) fun x6=>ab k (vZ k (ae x6)) fun r7=>ab k (LF k r3.sys r7 0) fun r8=>ab k (FH k x4.sys (ae x5) (ae r3) r8.2) fun r9=>af (aE 1099511627776 r8.1.length r9.1.length) fun x10=>af (ak x4.kids 0) fun x11=>ab k (n9 k (ae x5) r7) fun r12=>ab k (iZ k 15 (r8.1++r9.1) [(ae x11),(Tm.mk r12.1 r12.2.1 r12.2.2.1 [] r12.2.2.2.1 r12.2.2.2.2)]) fun r13=>ab k (vY k x4.sys (ae r3) (ae x5)) fun r14=>ab k (iZ k 17 r14 [(Tm.mk r13.1 r13.2.1 r13.2.2.1 [] r13.2.2.2.1 r13.2.2.2.2)]) fun r15=>ab k (pU k (Tm.mk r15.1 r15.2.1 r15.2.2.1 [] r15.2.2.2.1 r15.2.2.2.2) r9.2) fun r16=>Y ((ae r16.1),r16.2.1,r16.2.2.1))))
def lc (k:Nat) (t:Tm) (vars dims:Int) (Y:Tm->OS S):OS S:=ac (decide ((t.kind:Int)<0)) (Y (ae t)) (fm k (ae t) 0 vars 0 0 fun r1=>ac (decide ((r1.kind:Int)<0)) (Y (ae r1)) (fm k (ae r1) 0 0 0 dims fun r2=>Y (ae r2)))
def zT (k:Nat) (Y:Tm->OS S) (kind:Int) (kids:LT) (rec0:Int->OS S) (i5:Int):OS S:=ac (decide ((i5:Int)<(kids.length:Int))) (af (ak kids i5) fun x1=>ac (decide ((x1.kind:Int)<0)) (af (ak kids i5) fun x2=>Y (ae x2)) (rec0 (ag .i64 (i5+1)))) (Y (Tm.mk kind 0 av [] kids []))
def tv (k:Nat) (Y:Tm->OS S) (kind:Int) (kids:LT):Nat->Int->OS S
 |0=>fun _=> .none
 |m+1=>fun i5=>zT k Y kind kids (tv k Y kind kids m) i5
def DB (k:Nat) (Y:Tm->OS S) (J0:Int->OS S) (kind:Int) (kids:LT):OS S:=J0 0
def wx (k:Nat) (kind:Int) (kids:LT) (Y:Tm->OS S):OS S:=DB k Y (fun i5=>tv k Y kind kids k i5) kind kids
def md (k:Nat) (kind:Int) (a b:Tm) (Y:Tm->OS S):OS S:=ab k (wx k kind [(ae a),(ae b)]) fun r1=>Y (ae r1)
def jp (k:Nat) (t:Tm) (f:LC) (kid:Tm) (Y:Tm->OS S):OS S:=ac (decide ((t.kind:Int)<0)) (Y (ae t)) (ac (decide ((kid.kind:Int)<0)) (Y (ae kid)) (af (aE 1099511627776 ([]:LB).length t.sys.length) fun x1=>af (aE 1099511627776 (([]:LB)++t.sys).length [(Br.mk f [(ae kid)])].length) fun x2=>Y (Tm.mk t.kind t.n t.name t.r t.kids ((([]:LB)++t.sys)++[(Br.mk f [(ae kid)])]))))
def oj (k:Nat) (kind:Int) (a:Tm) (Y:Tm->OS S):OS S:=ab k (wx k kind [(ae a)]) fun r1=>Y (ae r1)
def E6 (k:Nat) (Y:Tm->OS S) (kind:Int) (l:LB) (rec0:(LT)->Int->OS S) (b5_4:LT) (i6:Int):OS S:=ab k (rY k kind) fun r1=>ac (decide ((i6:Int)<r1)) (af (aE 1099511627776 b5_4.length [(Tm.mk 3 0 av [] [] [])].length) fun x2=>rec0 (b5_4++[(Tm.mk 3 0 av [] [] [])]) (ag .i64 (i6+1))) (Y (Tm.mk kind 0 av [] b5_4 l))
def tu (k:Nat) (Y:Tm->OS S) (kind:Int) (l:LB):Nat->(LT)->Int->OS S
 |0=>fun _ _=> .none
 |m+1=>fun b5_4 i6=>E6 k Y kind l (tu k Y kind l m) b5_4 i6
def J7 (k:Nat) (Y:Tm->OS S) (J0:(LT)->Int->OS S) (kind:Int) (l:LB):OS S:=J0 ([]:LT) 0
def A4 (k:Nat) (kind:Int) (l:LB) (Y:Tm->OS S):OS S:=J7 k Y (fun b5_4 i6=>tu k Y kind l k b5_4 i6) kind l
def zU (k:Nat) (Y:Int->OS S) (l:LT) (rec0:Int->OS S) (i3:Int):OS S:=ac (decide ((i3:Int)<(l.length:Int))) (af (ak l i3) fun x1=>ab k (pW k (ae x1)) fun r2=>ac (!(r2==0)) (Y r2) (rec0 (ag .i64 (i3+1)))) (Y 0)
def tw (k:Nat) (Y:Int->OS S) (l:LT):Nat->Int->OS S
 |0=>fun _=> .none
 |m+1=>fun i3=>zU k Y l (tw k Y l m) i3
def J9 (k:Nat) (Y:Int->OS S) (J0:Int->OS S) (l:LT):OS S:=J0 0
def wy (k:Nat) (l:LT) (Y:Int->OS S):OS S:=J9 k Y (fun i3=>tw k Y l k i3) l
def wv (k:Nat) (line:Tm) (a_r:LC) (Y:Tm->OS S):OS S:=ac (decide ((line.kind:Int)<0)) (Y (ae line)) (ab k (A2 k (ae line) 1 2) fun r1=>ac (!(r1.2==0)) (ab k (iC k r1.2) fun r2=>Y (Tm.mk r2.1 r2.2.1 r2.2.2 [] [] [])) (ab k (wq k (ae r1.1) 0 a_r) fun r3=>Y (ae r3)))
def ry (k:Nat) (Y:Tm->OS S) (a:Tm) (sys:LB) (rec0:Tm->Int->OS S) (b7:Tm) (i8:Int):OS S:=ac (decide ((i8:Int)<(sys.length:Int))) (ac (decide ((b7.kind:Int)>=0)) (af (ak sys i8) fun x4=>ab k (oh k x4.face 0 1) fun r5=>ac (!(r5.2==0)) (ab k (iC k r5.2) fun r6=>Y (Tm.mk r6.1 r6.2.1 r6.2.2 [] [] [])) (af (ak sys i8) fun x7=>af (ak x7.kids 0) fun x8=>ab k (wv k (ae x8) [(Cl.mk 3 0)]) fun r9=>ab k (jp k (ae b7) r5.1 (ae r9)) fun r10=>rec0 (ae r10) (ag .i64 (i8+1)))) (ab k (lc k (ae a) 0 2) fun r11=>ab k (jp k (ae b7) [(Cl.mk 0 1)] (ae r11)) fun r12=>Y (ae r12))) (ab k (lc k (ae a) 0 2) fun r13=>ab k (jp k (ae b7) [(Cl.mk 0 1)] (ae r13)) fun r14=>Y (ae r14))
def nj (k:Nat) (Y:Tm->OS S) (a:Tm) (sys:LB):Nat->Tm->Int->OS S
 |0=>fun _ _=> .none
 |m+1=>fun b7 i8=>ry k Y a sys (nj k Y a sys m) b7 i8
def J8 (k:Nat) (Y:Tm->OS S) (J0:Tm->Int->OS S) (t a:Tm) (sys:LB):OS S:=ab k (lc k (ae t) 0 1) fun r1=>ab k (lc k (ae a) 0 1) fun r2=>ab k (md k 15 (ae r1) (ae r2)) fun r3=>J0 (ae r3) 0
def ww (k:Nat) (t a:Tm) (sys:LB) (Y:Tm->OS S):OS S:=J8 k Y (fun b7 i8=>nj k Y a sys k b7 i8) t a sys
def sa (k:Nat) (t:Tm) (Y:Tm×Int->OS S):OS S:=ac (decide ((t.kind:Int)<0)) (Y ((Tm.mk 0 0 av [] [] []),ag .i64 (0-t.kind))) (ab k (pW k (ae t)) fun r1=>ac (!(r1==0)) (Y ((Tm.mk 0 0 av [] [] []),r1)) (Y ((ae t),0)))
def A5 (k:Nat) (t a:Tm) (sys:LB) (Y:Tm×Int->OS S):OS S:=ab k (A4 k 15 sys) fun r1=>ab k (wy k [(ae t),(ae a),(ae r1)]) fun r2=>ac (!(r2==0)) (Y ((Tm.mk 0 0 av [] [] []),r2)) (ab k (ww k (ae t) (ae a) sys) fun r3=>ab k (sa k (ae r3)) fun r4=>Y ((ae r4.1),r4.2))
abbrev XP (S:Type):=Tm->Int->(Int->OS S)->OS S
abbrev XQ (S:Type):=Tm->Int->Tm->Int->Int->(Tm->OS S)->OS S
def zW (k:Nat) (Y:LB->OS S) (g:Tm) (rec0:(LB)->Int->OS S) (out3:LB) (i4:Int):OS S:=ac (decide ((i4:Int)<(g.sys.length:Int))) (af (ak g.sys i4) fun x1=>af (ak g.sys i4) fun x2=>af (ak x2.kids 1) fun x3=>af (aE 1099511627776 out3.length [(Br.mk x1.face [(ae x3)])].length) fun x4=>rec0 (out3++[(Br.mk x1.face [(ae x3)])]) (ag .i64 (i4+1))) (Y out3)
def tx (k:Nat) (Y:LB->OS S) (g:Tm):Nat->(LB)->Int->OS S
 |0=>fun _ _=> .none
 |m+1=>fun out3 i4=>zW k Y g (tx k Y g m) out3 i4
def Ka (k:Nat) (Y:LB->OS S) (J0:(LB)->Int->OS S) (g:Tm):OS S:=J0 ([]:LB) 0
def A_ (k:Nat) (g:Tm) (Y:LB->OS S):OS S:=Ka k Y (fun out3 i4=>tx k Y g k out3 i4) g
def sc (k:Nat) (a:Tm) (es:LB) (Y:Tm->OS S):OS S:=ab k (oj k 18 (ae a)) fun r1=>ac (decide ((r1.kind:Int)>=0)) (Y (Tm.mk r1.kind r1.n r1.name r1.r r1.kids es)) (Y (ae r1))
def A6 (k:Nat) (a_e:Tm) (Y:Tm->OS S):OS S:=ab k (oj k 9 (ae a_e)) fun r1=>Y (ae r1)
def A9 (k:Nat) (t a:Tm) (sys:LB) (Y:Tm->OS S):OS S:=ab k (md k 15 (ae t) (ae a)) fun r1=>ac (decide ((r1.kind:Int)>=0)) (Y (Tm.mk r1.kind r1.n r1.name r1.r r1.kids sys)) (Y (ae r1))
def zV (k:Nat) (Y:Tm->OS S) (t x2 x3:Tm) (rec2:Tm->Int->OS S) (b13:Tm) (i14:Int):OS S:=ac (decide ((i14:Int)<(x2.sys.length:Int))) (ac (decide ((b13.kind:Int)>=0)) (af (ak x2.sys i14) fun x27=>af (ak x2.sys i14) fun x28=>af (ak x28.kids 0) fun x29=>ab k (A9 k (ae x29) (ae x3) t.sys) fun r30=>ab k (jp k (ae b13) x27.face (ae r30)) fun r31=>rec2 (ae r31) (ag .i64 (i14+1))) (Y (ae b13))) (Y (ae b13))
def oY (k:Nat) (Y:Tm->OS S) (t x2 x3:Tm):Nat->Tm->Int->OS S
 |0=>fun _ _=> .none
 |m+1=>fun b13 i14=>zV k Y t x2 x3 (oY k Y t x2 x3 m) b13 i14
def rA (k:Nat) (Y:Tm->OS S) (t x2 x3:Tm) (J2:Tm->Int->OS S) (rec1:Tm->Int->OS S) (b6':Tm) (i9:Int):OS S:=ac (decide ((i9:Int)<(x2.sys.length:Int))) (ac (decide ((b6'.kind:Int)>=0)) (af (ak x2.sys i9) fun x15=>af (ak x15.kids 1) fun x16=>ab k (lc k (ae x16) 0 1) fun r17=>ab k (A6 k (ae r17)) fun r18=>ac (decide ((r18.kind:Int)<0)) (Y (ae r18)) (af (ak x2.sys i9) fun x19=>af (ak x19.kids 0) fun x20=>ab k (A5 k (ae x20) (ae x3) t.sys) fun r21=>ac (!(r21.2==0)) (ab k (iC k r21.2) fun r22=>Y (Tm.mk r22.1 r22.2.1 r22.2.2 [] [] [])) (af (ak x2.sys i9) fun x23=>ab k (md k 6 (ae r18) (ae r21.1)) fun r24=>ab k (jp k (ae b6') x23.face (ae r24)) fun r25=>rec1 (ae r25) (ag .i64 (i9+1))))) (ab k (oj k 17 (ae b6')) fun r26=>J2 (ae r26) 0)) (ab k (oj k 17 (ae b6')) fun r32=>J2 (ae r32) 0)
def nn (k:Nat) (Y:Tm->OS S) (t x2 x3:Tm):Nat->Tm->Int->OS S
 |0=>fun _ _=> .none
 |m+1=>fun b6' i9=>rA k Y t x2 x3 (fun b13 i14=>oY k Y t x2 x3 k b13 i14) (nn k Y t x2 x3 m) b6' i9
def rz (k:Nat) (Y:Tm->OS S) (t x2 x3:Tm) (r4:LB) (J1:Tm->Int->OS S) (rec0:Tm->Int->OS S) (b6:Tm) (i7:Int):OS S:=ac (decide ((i7:Int)<(t.sys.length:Int))) (ac (decide ((b6.kind:Int)>=0)) (ab k (sc k (Tm.mk 3 0 av [] [] []) r4) fun r8=>ab k (lc k (ae r8) 0 1) fun r9=>ac (decide ((r9.kind:Int)<0)) (Y (ae r9)) (af (ak t.sys i7) fun x10=>af (ak t.sys i7) fun x11=>af (ak x11.kids 0) fun x12=>ab k (sc k (ae x12) r9.sys) fun r13=>ab k (jp k (ae b6) x10.face (ae r13)) fun r14=>rec0 (ae r14) (ag .i64 (i7+1)))) (J1 (ae b6) 0)) (J1 (ae b6) 0)
def oX (k:Nat) (Y:Tm->OS S) (t x2 x3:Tm) (r4:LB):Nat->Tm->Int->OS S
 |0=>fun _ _=> .none
 |m+1=>fun b6 i7=>rz k Y t x2 x3 r4 (fun b6' i9=>nn k Y t x2 x3 k b6' i9) (oX k Y t x2 x3 r4 m) b6 i7
def J_ (k:Nat) (Y:Tm->OS S) (J0:Tm->Tm->(LB)->Tm->Int->OS S) (t:Tm):OS S:=ac (!(t.kind==15)) (Y (Tm.mk 0 0 av [] [] [])) (af (ak t.kids 0) fun x1=>ac (!(x1.kind==16)) (Y (Tm.mk 0 0 av [] [] [])) (af (ak t.kids 0) fun x2=>af (ak t.kids 1) fun x3=>ab k (A_ k (ae x2)) fun r4=>af (ak x2.kids 0) fun x5=>ab k (sc k (ae x3) r4) fun r6=>ab k (md k 15 (ae x5) (ae r6)) fun r7=>J0 x2 x3 r4 (ae r7) 0))
def A8 (k:Nat) (t:Tm) (Y:Tm->OS S):OS S:=J_ k Y (fun x2 x3 r4 b6 i7=>oX k Y t x2 x3 r4 k b6 i7) t
def sb (k:Nat) (t out:Tm) (Y:Tm×Bool×Int->OS S):OS S:=ac (out.kind==0) (Y ((Tm.mk 0 0 av [] [] []),false,0)) (ab k (sa k (ae out)) fun r1=>Y ((ae r1.1),r1.2==0,r1.2))
abbrev XM (S:Type):=Tm->(Int->OS S)->OS S
def FL (k:Nat) (t:Tm) (Y:Bool->OS S):OS S:=kE k (ae t) 100 fun r1=>Y (decide ((r1:Int)>100))
def jo (k:Nat) (kind:Int) (kids:LT) (Y:Int×Int×BA×LT->OS S):OS S:=Y (kind,0,av,kids)
def v_ (k:Nat) (Y:Bool->OS S):OS S:=ab k (jo k 19 ([]:LT)) fun r1=>ab k (jo k 20 ([]:LT)) fun r2=>ab k (jo k 16 [(Tm.mk r1.1 r1.2.1 r1.2.2.1 [] r1.2.2.2 [])]) fun r3=>ab k (jo k 15 [(Tm.mk r3.1 r3.2.1 r3.2.2.1 [] r3.2.2.2 []),(Tm.mk r2.1 r2.2.1 r2.2.2.1 [] r2.2.2.2 [])]) fun r4=>ab k (vV k (Tm.mk r4.1 r4.2.1 r4.2.2.1 [] r4.2.2.2 [])) fun r5=>ab k (jo k 16 [(Tm.mk r1.1 r1.2.1 r1.2.2.1 [] r1.2.2.2 [])]) fun r6=>ab k (jo k 14 [(Tm.mk r6.1 r6.2.1 r6.2.2.1 [] r6.2.2.2 []),(Tm.mk r2.1 r2.2.1 r2.2.2.1 [] r2.2.2.2 [])]) fun r7=>ab k (Lt k (Tm.mk r7.1 r7.2.1 r7.2.2.1 [] r7.2.2.2 [])) fun r8=>ab k (jo k 18 [(Tm.mk r2.1 r2.2.1 r2.2.2.1 [] r2.2.2.2 [])]) fun r9=>ab k (jo k 14 [(Tm.mk r1.1 r1.2.1 r1.2.2.1 [] r1.2.2.2 []),(Tm.mk r9.1 r9.2.1 r9.2.2.1 [] r9.2.2.2 [])]) fun r10=>ab k (jo k 15 [(Tm.mk r1.1 r1.2.1 r1.2.2.1 [] r1.2.2.2 []),(Tm.mk r10.1 r10.2.1 r10.2.2.1 [] r10.2.2.2 [])]) fun r11=>ac (r5.2.1) (ac (r5.2.2==0) (ab k (jo k 15 [(Tm.mk r1.1 r1.2.1 r1.2.2.1 [] r1.2.2.2 []),(Tm.mk r9.1 r9.2.1 r9.2.2.1 [] r9.2.2.2 [])]) fun r12=>ab k (jo k 17 [(Tm.mk r12.1 r12.2.1 r12.2.2.1 [] r12.2.2.2 [])]) fun r13=>ie k (ae r5.1) (Tm.mk r13.1 r13.2.1 r13.2.2.1 [] r13.2.2.2 []) fun r14=>ac (r14) (ac (r8.2.1) (ac (r8.2.2==0) (ab k (jo k 15 [(Tm.mk r1.1 r1.2.1 r1.2.2.1 [] r1.2.2.2 []),(Tm.mk r11.1 r11.2.1 r11.2.2.1 [] r11.2.2.2 [])]) fun r15=>ab k (jo k 17 [(Tm.mk r15.1 r15.2.1 r15.2.2.1 [] r15.2.2.2 [])]) fun r16=>ie k (ae r8.1) (Tm.mk r16.1 r16.2.1 r16.2.2.1 [] r16.2.2.2 []) fun r17=>Y r17) (Y false)) (Y false)) (Y false)) (Y false)) (Y false)
def A7 (k:Nat) (t:Tm) (Y:Tm×Bool×Int->OS S):OS S:=ab k (pW k (ae t)) fun r1=>ac (!(r1==0)) (Y ((Tm.mk 0 0 av [] [] []),false,r1)) (ab k (A8 k (ae t)) fun r2=>ab k (sb k (ae t) (ae r2)) fun r3=>Y ((ae r3.1),r3.2.1,r3.2.2))
def AI (k:Nat) (t:Tm) (Y:Bool->OS S):OS S:=ab k (FL k (ae t)) fun r1=>ac (r1) (ab k (v_ k) fun r2=>Y r2) (ma k (ae t) fun r3=>ab k (vV k (ae r3)) fun r4=>ab k (A7 k (ae t)) fun r5=>ie k (ae r4.1) (ae r5.1) fun r6=>ac (r6) (ac (r4.2.1==r5.2.1) (ac (r4.2.2==r5.2.2) (ie k (ae r3) (ae t) fun r7=>ac (r7) (ab k (v_ k) fun r8=>Y r8) (Y false)) (Y false)) (Y false)) (Y false))
abbrev XK (S:Type):=Tm->(Int->OS S)->OS S
abbrev XL (S:Type):=Tm->(Int->OS S)->OS S
end
end Go.Proofs.YtgajalidbabccaaGreatDoor
namespace Go.Proofs.YtgajalidbabccaaGreatDoor
open Go PI
abbrev M24:Nat:=16777215
theorem PY {n:Nat} (h:n<24):2^n<4294967296:=gM (Nat.pow_lt_pow_right (by decide) h) (by decide)
theorem Fe (n:Nat):(2:Int)^n=((2^n:Nat):Int):=by simp
theorem Gn (m n:Nat):Int.fdiv (m:Int) ((2:Int)^n)=((m/2^n:Nat):Int):=by
 grind
variable {S:Type} {k:Nat}
theorem Dx (hk:Fu k) (i:Int) (Y:Bool->OS S):pT k i Y=Y (decide (0<=i/\i<24)):=by
 grind [pT,bS]
theorem alL (hk:Fu k) {m:Nat} (hm:m<4294967296) (Y:Bool->OS S):rR k (m:Int) Y=Y (decide (m<16777216)):=by
 simp only [rR]
 rw [show (16777215:Int)=((16777215:Nat):Int) from rfl,E0 hm (by decide)]
 congr 1
 rw [jK]
 simp only [beq_iff_eq,decide_eq_true_eq]
 have key:gI m 16777215=0↔m<16777216:=by
  constructor
  ·intro h
   apply Nat.lt_pow_two_of_testBit (n:=24)
   intro i hi
   have h2:=o0 m 16777215 i
   rw [h,Nat.zero_testBit] at h2
   have:(16777215:Nat).testBit i=false:=Nat.testBit_lt_two_pow (gM (by decide:16777215<2^24) (jL (by decide) hi))
   grind
  ·intro h
   apply h8
   intro i
   rw [o0,Nat.zero_testBit]
   by_cases hi:i<24
   ·have:(16777215:Nat).testBit i=true:=by
     rw [show (16777215:Nat)=2^24-1 from rfl,Nat.testBit_two_pow_sub_one];grind
    grind
   ·have h2:(2:Nat)^24<=2^i:=jL (by decide) (by omega)
    grind [Nat.testBit_lt_two_pow]
 omega
theorem alJ (hk:Fu k) {m:Nat} (hm:m<4294967296) (i:Int) (Y:Bool->OS S):kz k (m:Int) i Y=Y (decide (0<=i/\i<24)&&m.testBit i.toNat):=by
 simp only [kz,Dx hk,ap hk]
 by_cases h:0<=i/\i<24
 ·obtain ⟨n,rfl⟩: ∃n:Nat,i=n:=⟨i.toNat,by omega⟩
  have hn:n<24:=by omega
  rw [decide_eq_true h,ao,hX,lQ n (by omega),lS _ (by omega)]
  congr 1
  rw [gb,Nat.min_eq_left (by omega),Gn,show (1:Int)=((1:Nat):Int) from rfl,nV (ko (Nat.div_le_self _ _) hm) (by decide)]
  grind
 grind [al]
theorem alM (hk:Fu k) {m:Nat} (hm:m<4294967296) (i:Int) (Y:Int->OS S):lZ k (m:Int) i Y=Y (if 0<=i/\i<24 then (((m&&&M24)|||2^i.toNat:Nat):Int) else ((m&&&M24:Nat):Int)):=by
 simp only [lZ,Dx hk,ap hk]
 have hand:co .and .u32 (m:Int) 16777215=((m&&&M24:Nat):Int):=nV hm (by decide:(16777215:Nat)<4294967296)
 have hlt:m&&&M24<4294967296:=uQ (n:=32) hm
 rw [hand]
 by_cases h:0<=i/\i<24
 ·obtain ⟨n,rfl⟩: ∃n:Nat,i=n:=⟨i.toNat,by omega⟩
  grind [lQ,al,lS,gb,nR,PY,yP]
 ·rw [decide_eq_false h,if_neg h];rfl
theorem alN (hk:Fu k) {m:Nat} (hm:m<4294967296) (i:Int) (Y:Int->OS S):mU k (m:Int) i Y=Y (if 0<=i/\i<24 then ((gI (m&&&M24) (2^i.toNat):Nat):Int) else ((m&&&M24:Nat):Int)):=by
 simp only [mU,Dx hk,ap hk]
 have hand:co .and .u32 (m:Int) 16777215=((m&&&M24:Nat):Int):=nV hm (by decide:(16777215:Nat)<4294967296)
 have hlt:m&&&M24<4294967296:=uQ (n:=32) hm
 rw [hand]
 by_cases h:0<=i/\i<24
 ·grind [lQ,al,lS,gb,nR,PY,E0]
 ·rw [decide_eq_false h,if_neg h];rfl
theorem T4 (hk:Fu k) (n:Nat) (hn:n<18446744073709551616) (Y:Int->OS S):rS k (n:Int) Y=Y ((2^min n 24-1:Nat):Int):=by
 simp only [rS]
 have e:(if (24:Int)<(n:Int) then (24:Int) else (n:Int))=((min n 24:Nat):Int):=by
  omega
 rw [e,lQ _ (by omega),lS _ (by omega),gb]
 congr 1
 generalize hq:min n 24=q
 have hq24:q<=24:=by omega
 rw [Nat.min_eq_left (by omega),Int.one_mul,Fe]
 have h1:2^q<=2^24:=jL (by decide) hq24
 grind [lQ,nR]
def kN (m n:Nat):Nat:=(m&&&M24)&&&(2^min n 24-1)
def fI (m n:Nat):Nat:=gI (m&&&M24) (2^min n 24-1)
def iF (m n b:Nat):Nat×Nat:=
 if fI m n=0 then (kN m n,0) else if 24<=b then (0,10) else if fI m n*2^b>16777215 then (0,10) else (kN m n|||(fI m n*2^b),0)
theorem alK (hk:Fu k) {m:Nat} (hm:m<4294967296) (n b:Nat) (hn:n<9223372036854775808) (hb:b<9223372036854775808) (Y:Int×Int->OS S):
  oa k (m:Int) (n:Int) (b:Int) Y=Y (((iF m n b).1:Int),((iF m n b).2:Int)):=by
 have hand:co .and .u32 (m:Int) 16777215=((m&&&M24:Nat):Int):=nV hm (by decide:(16777215:Nat)<4294967296)
 have hlt:m&&&M24<16777216:=ko Nat.and_le_right (by decide)
 have hbl:2^min n 24-1<4294967296:=by
  have:2^min n 24<=2^24:=jL (by decide) (by omega)
  omega
 have hhi:fI m n<16777216:=xO (n:=24) hlt
 have hlow:co .and .u32 ((m&&&M24:Nat):Int) ((2^min n 24-1:Nat):Int)=((kN m n:Nat):Int):=nV (by omega) hbl
 have hhigh:co .andNot .u32 ((m&&&M24:Nat):Int) ((2^min n 24-1:Nat):Int)=((fI m n:Nat):Int):=E0 (by omega) hbl
 simp only [oa]
 rw [bS,bS,if_neg (by omega),if_neg (by omega)]
 simp only [T4 hk n (by omega),ap hk,hand,hlow,hhigh]
 rw [lQ _ (by omega)]
 unfold iF
 by_cases h0:fI m n=0
 ·grind [ao]
 ·rw [if_neg h0]
  have hb0:(((fI m n:Nat):Int)==0)=false:=by
   grind
  simp only [hb0,al,bS]
  by_cases h24:24<=b
  ·grind
  ·rw [if_neg (by omega),if_neg h24,lQ b (by omega),lS _ (by omega),gb,Nat.min_eq_left (by omega),Fe]
   have hp:2^b<=2^23:=jL (by decide) (by omega)
   have h23:(2:Nat)^23=8388608:=by decide
   have hmul:fI m n*2^b<18446744073709551616:=by
    have:=Nat.mul_le_mul (Nat.le_of_lt hhi) hp
    omega
   have ec:((fI m n:Nat):Int)*((2^b:Nat):Int)=((fI m n*2^b:Nat):Int):=by simp
   rw [ec,lQ _ hmul]
   by_cases hg:fI m n*2^b>16777215
   ·grind
   ·rw [if_neg (by omega),if_neg hg]
    rw [nR _ (by omega),lS _ (by omega),yP (by grind [kN,Nat.and_le_left]) (by omega)]
    rfl
end Go.Proofs.YtgajalidbabccaaGreatDoor
