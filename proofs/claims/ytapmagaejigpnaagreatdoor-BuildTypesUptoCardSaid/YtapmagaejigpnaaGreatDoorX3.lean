/- Part 3 of a proof: the sources, with their names and remarks, lie in wip/. -/
import Derived.Test.YtapmagaejigpnaaGreatDoorX2
import Derived.Recover
import Derived.Orders
import Derived.Test.YtapmagaejigpnaaGreatDoorProg
import Derived.KernelRfl
namespace Go.Proofs.YtapmagaejigpnaaGreatDoor.PI
open Go
set_option linter.unusedVariables false
section
variable {U:Uni} {V:Env U} {P:Program} {X:Link V P} {S:Side U} {c:Ctx}
theorem mG (hI:jV X) (hS:S.rcv=none) (hP:PinOK S c):lz X (bW X) S c:=by
 intro o a w σ g D r τ fp gp next Q hd h hr ht
 obtain ⟨dst,op,ty,pos,after,gd⟩:=o
 cases op with
 |move x=>exact aaW hd h hr ht
 |assign x=>exact aaD hd h hr ht
 |pick x y z=>exact aaZ hd h hr ht
 |alloc t=>exact aaC hP hd h hr ht
 |box t x=>exact aaF hP hd h hr ht
 |build t ps=>exact aaG hd h hr ht
 |buildSlice t n ps=>exact aaH hd h hr ht
 |load t x=>exact aaQ hd h hr ht
 |store t x y=>exact aa1 h hr ht
 |nilCheck x=>exact aaX hd h hr ht
 |binOp b t x y u=>exact aaE hd h hr ht
 |unOp u t x=>exact aa3 hd h hr ht
 |convert s t x=>exact aaK hd h hr ht
 |makeFunc f xs ys=>cases f with
  |func f=>exact aaS hd h hr ht
  |_=>exact hr.elim
 |makeInterface t x=>exact aaT hd h hr ht
 |typeAssert x s t ok=>cases ok with
  |true=>exact aa2 hd h hr ht
  |false=>exact hr.elim
 |makeMap t x=>cases x with
  |none=>exact aaU hd h hr ht
  |some x=>exact hr.elim
 |lookup t m x ok=>exact aaR hd h hr ht
 |mapUpdate t m x y=>exact aaV h hr ht
 |slice t x lo hi mx=>exact aa0 hd h hr ht
 |fieldAddr s x f=>exact aaN hd h hr ht
 |field s x f=>exact aaM hd h hr ht
 |indexAddr t x i=>exact aaP hd h hr ht
 |index t x i=>exact aaO hd h hr ht
 |extract x i=>exact aaL hd h hr ht
 |panic x=>exact aaY h hr ht
 |call cl=>
  cases hc:cl.callee with
  |builtin b=>
   by_cases hb:b= .recover
   ·subst hb
    obtain ⟨callee,args,ats⟩:=cl
    simp only at hc
    subst hc
    simp only [bv,hS] at hr
    exact hr.elim
   ·exact aaI hc hb hd h hr ht
  |value f=>exact aaJ hI hc hd h hr ht
  |invoke x n=>
   obtain ⟨callee,args,ats⟩:=cl
   simp only at hc
   subst hc
   exact hr.elim
 |_=>exact hr.elim
end
end Go.Proofs.YtapmagaejigpnaaGreatDoor.PI
namespace Go.Proofs.YtapmagaejigpnaaGreatDoor.PI
open Go
set_option linter.unusedVariables false
set_option linter.unusedSimpArgs false
section
variable {U:Uni} {V:Env U} {P:Program} {X:Link V P}
theorem adK: ∀ (args:List (PV U)) (s n:Nat),bV (tN s args) n=if s≤n then (args[n-s]?).map (Nr n) else none:=by
 intro args
 induction args with
 |nil=>intro s n;simp [tN,bV]
 |cons p args ih=>
  intro s n
  simp only [tN,gJ,ih]
  by_cases h:s=n
  ·subst h;simp
  ·rw [if_neg h]
   by_cases h2:s≤n
   ·rw [if_pos h2,if_pos (by omega)]
    obtain ⟨k,rfl⟩: ∃k,n=s+(k+1):=⟨n-s-1,by omega⟩
    rw [show s+(k+1)-(s+1)=k by omega,show s+(k+1)-s=k+1 by omega]
    simp
   ·rw [if_neg h2,if_neg (by omega)]
def eV (args:List (PV U)) (j:Nat):Option (Ob U):=match args[j]? with|some (.fresh e l)=>some ⟨0,e,l⟩|_=>none
theorem Nq: ∀ (args:List (PV U)) (s i:Nat),bV (f_ s args) i=if 2000000+s≤i then eV args (i-2000000-s) else none:=by
 intro args
 induction args with
 |nil=>intro s i;simp [f_,bV,eV]
 |cons p args ih=>
  intro s i
  have tail:bV (f_ (s+1) args) i=if 2000000+s≤i∧i≠2000000+s then eV (p::args) (i-2000000-s) else none:=by
   rw [ih]
   by_cases h:2000000+(s+1)≤i
   ·rw [if_pos h,if_pos ⟨by omega,by omega⟩]
    obtain ⟨k,rfl⟩: ∃k,i=2000000+s+(k+1):=⟨i-2000000-s-1,by omega⟩
    rw [show 2000000+s+(k+1)-2000000-(s+1)=k by omega,show 2000000+s+(k+1)-2000000-s=k+1 by omega]
    simp [eV]
   ·rw [if_neg h,if_neg (by omega)]
  have plain:p.notFresh=true→f_ s (p::args)=f_ (s+1) args:=by
   intro hp;cases p<;>first|rfl|cases hp
  by_cases hp:p.notFresh=true
  ·rw [plain hp,tail]
   by_cases h1:2000000+s≤i
   ·rw [if_pos h1]
    by_cases h2:i=2000000+s
    ·subst h2
     rw [if_neg (by omega)]
     have:2000000+s-2000000-s=0:=by omega
     rw [this]
     unfold eV
     simp only [List.getElem?_cons_zero]
     cases p<;>first|rfl|cases hp
    ·rw [if_pos ⟨h1,h2⟩]
   ·rw [if_neg h1,if_neg (by omega)]
  ·cases p with
   |fresh e l=>
    simp only [f_,gJ,tail]
    by_cases h1:2000000+s=i
    ·subst h1
     rw [if_pos rfl,if_pos (Nat.le_refl _)]
     have:2000000+s-2000000-s=0:=by omega
     rw [this];rfl
    ·rw [if_neg h1]
     by_cases h2:2000000+s≤i
     ·rw [if_pos ⟨h2,Ne.symm h1⟩,if_pos h2]
     ·rw [if_neg (by omega),if_neg h2]
   |_=>exact absurd rfl hp
end
end Go.Proofs.YtapmagaejigpnaaGreatDoor.PI
namespace Go.Proofs.YtapmagaejigpnaaGreatDoor.PI
open Go
set_option linter.unusedVariables false
set_option linter.unusedSimpArgs false
section
variable {U:Uni} {V:Env U} {P:Program} {X:Link V P}
theorem aeN {boxes:List (Box U)}: ∀ (n s id:Nat) (bs:List (Box U)),n=bs.length→bV ((cj s n).zip bs) id=if s≤id then bs[id-s]? else none:=by
 intro n
 induction n with
 |zero=>intro s id bs h;have:bs=[]:=List.eq_nil_of_length_eq_zero h.symm;subst this;simp [cj,bV]
 |succ n ih=>
  intro s id bs h
  cases bs with
  |nil=>simp at h
  |cons b bs=>
   simp only [cj,List.zip_cons_cons,gJ]
   rw [ih (s+1) id bs (by simpa using h)]
   by_cases h1:s=id
   ·subst h1;simp
   ·rw [if_neg h1]
    by_cases h2:s≤id
    ·rw [if_pos h2,if_pos (by omega)]
     obtain ⟨k,rfl⟩: ∃k,id=s+(k+1):=⟨id-s-1,by omega⟩
     rw [show s+(k+1)-(s+1)=k by omega,show s+(k+1)-s=k+1 by omega]
     simp
    ·rw [if_neg h2,if_neg (by omega)]
def eP (n:Nat) (ν:Nat→Nat) (args:List (PV U)) (vs:Array Value):Gh U:=
 ⟨fun id=>if 1000000≤id∧id-1000000<n then some (ν (id-1000000)) else none,
  fun i=>if 2000000≤i then (eV args (i-2000000)).map (fun ob=>(0,ob.e,vs.getD (i-2000000) undef)) else none⟩
def li (args:List (PV U)) (δ:Nat→Option Nat):Nat→Option Nat:=fun i=>if 2000000≤i then (eV args (i-2000000)).bind fun _=>δ (i-2000000) else none
def fK (w:World) (N0:aF) (n m:Nat) (ν:Nat→Nat) (δ:Nat→Option Nat) (nt:Nat) (hnt:nt≤1000000) (h:Bnd w N0 n ν δ) (gl:List (Nat×Obj)) (hgl: ∀b o,(b,o)∈gl→w.heap[b]? =some o∧(∀i,i<n→ν i≠b)∧ ∀j,δ j≠some b):Ctx:=
 ⟨w,N0,mD n m ν δ,nt,fun b o hn=>⟨(h.n0 b o hn).1,fun hm=>by
  rcases List.mem_append.1 hm with hm|hm
  ·obtain ⟨k,hk,e⟩:=List.mem_map.1 hm
   exact (h.n0 b o hn).2.1 k (List.mem_range.1 hk) e
  ·obtain ⟨j,_,hj⟩:=List.mem_filterMap.1 hm
   exact (h.n0 b o hn).2.2 j hj⟩,
  fun id=>if 1000000≤id∧id-1000000<n then some (ν (id-1000000)) else none,fun id k h=>(by
  split at h
  ·rename_i h1;exact ⟨h1.1,Nat.le_trans hnt h1.1⟩
  ·cases h),
  gl,fun b o hb=>⟨(hgl b o hb).1,fun hm=>by
  rcases List.mem_append.1 hm with hm|hm
  ·obtain ⟨k,hk,e⟩:=List.mem_map.1 hm
   exact (hgl b o hb).2.1 k (List.mem_range.1 hk) e
  ·obtain ⟨j,_,hj⟩:=List.mem_filterMap.1 hm
   exact (hgl b o hb).2.2 j hj⟩⟩
structure CtxOf (c:Ctx) (w:World) (N0:aF) (n m:Nat) (ν:Nat→Nat) (δ:Nat→Option Nat):Prop where
 cw:c.w0=w
 cN:c.N0=N0
 bl:c.bl=mD n m ν δ
 fix: ∀i,i<n→c.fix (c_ i)=some (ν i)
 other: ∀id k,c.fix id=some k→(∃i,i<n∧id=c_ i)∨w.heap.size≤k
 bnd:Bnd w N0 n ν δ
theorem jQ {w:World} {N0:aF} {n m nt:Nat} {ν:Nat→Nat} {δ:Nat→Option Nat} {hnt:nt≤1000000} {h:Bnd w N0 n ν δ} {gl:List (Nat×Obj)} {hgl: ∀b o,(b,o)∈gl→w.heap[b]? =some o∧(∀i,i<n→ν i≠b)∧ ∀j,δ j≠some b}:CtxOf (fK w N0 n m ν δ nt hnt h gl hgl) w N0 n m ν δ where
 cw:=rfl
 cN:=rfl
 bl:=rfl
 fix i hi:=by
  simp only [fK,c_]
  rw [if_pos ⟨by omega,by omega⟩,show 1000000+i-1000000=i by omega]
 other id k hk:=by
  simp only [fK] at hk
  split at hk
  ·rename_i h1;exact .inl ⟨id-1000000,h1.2,by simp [c_];omega⟩
  ·cases hk
 bnd:=h
variable {w:World} {vs:Array Value} {N0:aF} {ν:Nat→Nat} {δ:Nat→Option Nat} {args:List (PV U)} {boxes:List (Box U)}
theorem tM {i b:Nat} (h:li args δ i=some b):2000000≤i∧δ (i-2000000)=some b∧(eV args (i-2000000)).isSome=true:=by
 unfold li at h
 split at h
 ·rename_i hi
  cases hf:eV args (i-2000000) with
  |none=>rw [hf] at h;cases h
  |some ob=>rw [hf] at h;exact ⟨hi,h,rfl⟩
 ·cases h
theorem adL (hg:Given X w vs N0 ν δ args boxes) (nt:Nat) (hnt:nt≤1000000): ∀b o,((fK w N0 boxes.length args.length ν δ nt hnt hg.bnd X.gblk hg.glob).N (eP boxes.length ν args vs) (li args δ)) b o→(NB N0 boxes.length ν δ) b o:=by
 rintro b o (hn|⟨id,hid⟩|⟨i,hi⟩)
 ·exact .inl hn
 ·simp only [eP] at hid
  split at hid
  ·rename_i h1
   injection hid with hid
   exact .inr (.inl ⟨_,h1.2,hid⟩)
  ·cases hid
 ·exact .inr (.inr ⟨_,(tM hi).2.1⟩)
theorem Ns (id:Nat):(f8 args boxes).b id=if 1000000≤id then (boxes.map (Box.ren false c_))[id-1000000]? else none:=by
 unfold St.b f8
 simp only
 rw [aeN (boxes:=boxes) _ _ _ _ (by simp)]
 rfl
theorem yQ (hg:Given X w vs N0 ν δ args boxes) {nt:Nat} (hnt:args.length≤nt) (hnt2:nt≤1000000):
  Sim X (fK w N0 boxes.length args.length ν δ nt hnt2 hg.bnd X.gblk hg.glob) (vs++Array.replicate (nt-vs.size) undef) w (f8 args boxes) (eP boxes.length ν args vs) (li args δ):=by
 have hsub:=adL hg nt hnt2
 have hμ: ∀i b,(gB U boxes.length ν).μ i=some b→(eP boxes.length ν args vs).μ (c_ i)=some b:=by
  intro i b hb
  simp only [gB] at hb
  split at hb
  ·rename_i hi
   simp only [eP,c_]
   rw [if_pos ⟨by omega,by omega⟩,show 1000000+i-1000000=i by omega]
   exact hb
  ·cases hb
 have hvs: ∀n,n<args.length→(vs++Array.replicate (nt-vs.size) undef).getD n undef=vs.getD n undef:=by
  intro n hn
  have:n<vs.size:=by rw [hg.size];exact hn
  simp [Array.getD_eq_getD_getElem?,Array.getElem?_append,this]
 have ho: ∀i ob,(f8 args boxes).o i=some ob→2000000≤i∧eV args (i-2000000)=some ob:=by
  intro i ob h
  unfold St.o f8 at h
  simp only [Nq] at h
  split at h
  ·rename_i hi;exact ⟨by omega,by simpa using h⟩
  ·cases h
 have hb: ∀id b,(f8 args boxes).b id=some b→1000000≤id∧ ∃b0,boxes[id-1000000]? =some b0∧b=b0.ren false c_:=by
  intro id b h
  rw [Ns] at h
  by_cases hi:1000000≤id
  ·rw [if_pos hi,List.getElem?_map,Option.map_eq_some_iff] at h
   obtain ⟨b0,h1,h2⟩:=h
   exact ⟨by omega,b0,h1,h2.symm⟩
  ·rw [if_neg hi] at h;cases h
 refine {nt:=by simp [fK,hg.size];omega,regs:=fun n=> ?_,boxes:=fun id b h=> ?_,dom:=fun id k hk=> ?_,inj:=fun id id' k h1 h2=> ?_,new:=fun id k hk=> ?_,objs:=fun i ob h=> ?_,nobj:=fun i h=> ?_,dinj:=fun i j b h1 h2=> ?_,dnew:=fun i b h=> ?_,dbox:=fun i id b h1 h2=> ?_,ext:=Ext.refl _ _,gl:=rfl,fix:=fun id k hk=> .inl hk}
 ·unfold St.r f8
  simp only [adK,Nat.zero_le,if_true,Nat.sub_zero]
  cases hp:args[n]? with
  |none=>simp only [Option.map_none];exact .undef _
  |some p=>
   simp only [Option.map_some]
   have hn:=(List.getElem?_eq_some_iff.1 hp).1
   rw [hvs n hn]
   have hr:=hg.args n p hp
   by_cases hf:p.notFresh=true
   ·have:=(hr.rep hf).ren (g':=eP boxes.length ν args vs) (N':=(fK w N0 boxes.length args.length ν δ nt hnt2 hg.bnd X.gblk hg.glob).N (eP boxes.length ν args vs) (li args δ)) false c_ (fun _ _ _ _=>rfl) (fun b o _ h=>hsub b o h) (.inr fun _=>rfl) fun i _ b hb=>hμ i b hb
    cases p<;>first|exact this|cases hf
   ·cases p with
    |fresh e l=>
     obtain ⟨A,n',cp,hval,_⟩:=(show ObOK X w _ _ e l (vs.getD n undef) .wr (δ n) from hr).val
     have hfa:eV args n=some ⟨0,e,l⟩:=by unfold eV;rw [hp]
     refine .own (2000000+n) 0 _ 0 e (vs.getD n undef) ?_ (Nat.le_refl _) (fun _=>rfl) ⟨A,n',cp,hval⟩
     simp only [eP]
     rw [if_pos (by omega),show 2000000+n-2000000=n by omega,hfa];rfl
    |_=>exact absurd rfl hf
 ·obtain ⟨h1,b0,h2,rfl⟩:=hb id b h
  have hlt:=(List.getElem?_eq_some_iff.1 h2).1
  have hμid:(eP boxes.length ν args vs).μ id=some (ν (id-1000000)):=if_pos ⟨h1,hlt⟩
  refine ⟨ν (id-1000000),hμid, ?_⟩
  exact (hg.boxes _ b0 h2).ren false c_ rfl (fun _ _ _ _=>rfl) (fun b o _ h=>hsub b o h) (.inr fun _=>rfl) fun i _ b hb=>hμ i b hb
 ·simp only [eP] at hk
  split at hk
  ·rename_i h1
   obtain ⟨hx1,hx2⟩:=h1
   obtain ⟨b0,hb0⟩: ∃b0,boxes[id-1000000]? =some b0:=⟨_,List.getElem?_eq_getElem hx2⟩
   exact ⟨b0.ren false c_,by rw [Ns,if_pos hx1,List.getElem?_map,hb0];rfl⟩
  ·cases hk
 ·simp only [eP] at h1 h2
  split at h1
  ·rename_i q1
   split at h2
   ·rename_i q2
    injection h1 with h1
    injection h2 with h2
    have:=hg.bnd.inj _ _ q1.2 q2.2 (h1.trans h2.symm)
    omega
   ·cases h2
  ·cases h1
 ·simp only [eP] at hk
  split at hk
  ·rename_i h1
   injection hk with hk
   subst hk
   exact ⟨hg.bnd.lt _ h1.2,.inl (List.mem_append.2 (.inl (List.mem_map.2 ⟨_,List.mem_range.2 h1.2,rfl⟩)))⟩
  ·cases hk
 ·obtain ⟨h1,h2⟩:=ho i ob h
  have hp: ∃e l,args[i-2000000]? =some (.fresh e l)∧ob=⟨0,e,l⟩:=by
   unfold eV at h2
   split at h2
   ·rename_i e l hq
    injection h2 with h2
    exact ⟨e,l,hq,h2.symm⟩
   ·cases h2
  obtain ⟨e,l,hp,rfl⟩:=hp
  have hO:ObOK X w (NB N0 boxes.length ν δ) (gB U boxes.length ν) e l (vs.getD (i-2000000) undef) .wr (δ (i-2000000)):=hg.args _ _ hp
  refine ⟨vs.getD (i-2000000) undef,by simp only [eP];rw [if_pos h1,h2];rfl, ?_⟩
  have hu:(f8 args boxes).u i= .wr:=by
   unfold St.u f8
   simp only
   have hlook: ∀ (l:List (Nat×Ob U)) (n:Nat),bV (l.map fun x=>(x.1,Use.wr)) n=(bV l n).map fun _=>Use.wr:=by
    intro l n
    induction l with
    |nil=>rfl
    |cons x l ih=>
     obtain ⟨m,y⟩:=x
     simp only [List.map_cons,gJ,ih]
     split<;>rfl
   rw [hlook]
   have h':bV (f_ 0 args) i=some ⟨0,e,l⟩:=h
   rw [h'];rfl
  have hD:li args δ i=δ (i-2000000):=by simp only [li];rw [if_pos h1,h2];rfl
  rw [hu,hD]
  exact hO.turn (fun _ _=>rfl) (fun _ _ _ _=>rfl) (fun b o _ h=>hsub b o h)
 ·have hf:2000000≤i→eV args (i-2000000)=none:=by
   intro hi
   have h':bV (f_ 0 args) i=none:=h
   rw [Nq,if_pos (by omega)] at h'
   simpa using h'
  constructor
  ·simp only [eP]
   split
   ·rename_i hi;rw [hf hi];rfl
   ·rfl
  ·simp only [li]
   split
   ·rename_i hi;rw [hf hi];rfl
   ·rfl
 ·obtain ⟨a1,a2,_⟩:=tM h1
  obtain ⟨b1,b2,_⟩:=tM h2
  have:=hg.bnd.dinj _ _ _ a2 b2
  omega
 ·obtain ⟨a1,a2,_⟩:=tM h
  exact ⟨hg.bnd.dlt _ _ a2,.inl (List.mem_append.2 (.inr (List.mem_filterMap.2 ⟨_,List.mem_range.2 (hg.dom _ _ a2),a2⟩)))⟩
 ·obtain ⟨a1,a2,_⟩:=tM h1
  simp only [eP] at h2
  split at h2
  ·rename_i q
   injection h2 with h2
   exact hg.bnd.dν _ _ a2 _ q.2 h2
  ·cases h2
end
end Go.Proofs.YtapmagaejigpnaaGreatDoor.PI
namespace Go.Proofs.YtapmagaejigpnaaGreatDoor.PI
open Go
set_option linter.unusedVariables false
set_option linter.unusedSimpArgs false
section
variable {U:Uni} {V:Env U} {P:Program} {X:Link V P} {K:bX U} {c:Ctx} {tm:Array Value} {w:World} {σ:St U} {g:Gh U} {D:Nat→Option Nat}
variable {r:MR U} {τ:St U} {gp:List Loc}
def lc (tmps:Array Value):ResultVar→Sem Value
 | .tmp t=>pure (tmps.getD t undef)
 | .cell a t=>do loadVar t (←asAddr (tmps.getD a undef))
theorem abW (fn:Func) (tmps:Array Value):results fn tmps=(do
  let vs←fn.results.mapM (lc tmps)
  pure (if h:vs.size=1 then vs[0] else .tuple vs)):=by
 unfold results lc
 rfl
theorem abV (h:Sim X c tm w σ g D): ∀ (res:List ResultVar) {k:List (PV U)→M U} {fp:List Loc},(pu V res k).Rel K σ fp r τ gp→
  ∃ps us fp',(k ps).Rel K σ fp' r τ gp∧us.length=ps.length∧(∀ (j:Nat) p,ps[j]? =some p→Rep X w (c.N g D) g (us.getD j undef) p)∧(res.mapM (lc tm)).run P w= .ok us w:=by
 intro res
 induction res with
 |nil=>intro k fp hr;exact ⟨[],[],fp,hr,rfl,by simp,by simp⟩
 |cons x res ih=>
  intro k fp hr
  have step: ∀ {p:PV U} {v:Value} {fp1:List Loc},(pu V res fun vs=>k (p::vs)).Rel K σ fp1 r τ gp→Rep X w (c.N g D) g v p→(lc tm x).run P w= .ok v w→
    ∃ps us fp',(k ps).Rel K σ fp' r τ gp∧us.length=ps.length∧(∀ (j:Nat) p,ps[j]? =some p→Rep X w (c.N g D) g (us.getD j undef) p)∧((x::res).mapM (lc tm)).run P w= .ok us w:=by
   intro p v fp1 hr1 hp hv
   obtain ⟨ps,us,fp',h1,h2,h3,h4⟩:=ih hr1
   refine ⟨p::ps,v::us,fp',h1,by simp [h2],fun j q hq=> ?_,by simp [List.mapM_cons,Sem.run_bind,hv,h4]⟩
   cases j with
   |zero=>simp at hq;subst hq;exact hp
   |succ j=>exact h3 j q (by simpa using hq)
  cases x with
  |tmp t=>exact step hr (h.regs t) (by simp [lc])
  |cell a t=>
   simp only [pu,M.Rel] at hr
   obtain ⟨x,fp',v,h1,h2,h3⟩:=H0 (a:=⟨tm,[]⟩) h (h.regs a) hr
   refine step h1 h3 ?_
   have h2':=h2
   unfold Instr.loadAt at h2'
   simp only [lc]
   cases hu:tm.getD a undef with
   |pointer q=>
    rw [hu] at h2'
    cases q with
    |none=>simp [Instr.sureAddr] at h2'
    |some q=>simpa [Instr.sureAddr,asAddr] using h2'
   |_=>rw [hu] at h2';simp [Instr.sureAddr] at h2'
theorem Bu: ∀ (l:List Nat) {k:List (Nat×Box U)→M U} {fp:List Loc},(gr l k).Rel K σ fp r τ gp→ ∃bs fp',(k bs).Rel K σ fp' r τ gp∧bs.map (·.1)=l∧ ∀x∈bs,σ.b x.1=some x.2:=by
 intro l
 induction l with
 |nil=>intro k fp hr;exact ⟨[],fp,hr,rfl,by simp⟩
 |cons id l ih=>
  intro k fp hr
  simp only [gr,M.Rel] at hr
  split at hr
  ·rename_i b hb
   obtain ⟨bs,fp',h1,h2,h3⟩:=ih hr
   exact ⟨(id,b)::bs,fp',h1,by simp [h2],fun x hx=>by
    rcases List.mem_cons.1 hx with rfl|hx
    ·exact hb
    ·exact h3 x hx⟩
  ·exact hr.elim
theorem Xu: ∀ (n:Nat) (todo:List Nat) (acc:List (Nat×Box U)) {k:List (Nat×Box U)→M U} {fp:List Loc},(∀x∈acc,σ.b x.1=some x.2)→(ky n todo acc k).Rel K σ fp r τ gp→
  ∃bs fp',(k (acc++bs)).Rel K σ fp' r τ gp∧ ∀x∈acc++bs,σ.b x.1=some x.2:=by
 intro n
 induction n with
 |zero=>intro todo acc k fp _ hr;exact hr.elim
 |succ n ih=>
  intro todo acc k fp hacc hr
  cases todo with
  |nil=>exact ⟨[],fp,by rw [List.append_nil];exact hr,by simpa using hacc⟩
  |cons id todo=>
   simp only [ky] at hr
   split at hr
   ·exact ih todo acc hacc hr
   ·simp only [M.Rel] at hr
    split at hr
    ·rename_i b hb
     obtain ⟨bs,fp',h1,h2⟩:=ih _ _ (fun x hx=>by
      rcases List.mem_append.1 hx with hx|hx
      ·exact hacc x hx
      ·simp at hx;subst hx;exact hb) hr
     exact ⟨(id,b)::bs,fp',by simpa using h1,by simpa using h2⟩
    ·exact hr.elim
theorem RepG.lessN {N N':aF} {v:Value} {Do:Option Nat} {p:PV U} (h:RepG X w N g v Do p) (hN: ∀b o,N' b o→N b o):RepG X w N' g v Do p:=by
 by_cases hp:p.notFresh=true
 ·have:=(h.rep hp).mono X (w':=w) (N':=N') (g':=g) (fun _ _ _ _=>rfl) (fun b o _ hn=>hN b o hn) (Gh.le.refl g)
  cases p<;>first|exact this|cases hp
 ·cases p with
  |fresh e l=>exact ObOK.mono h (fun _ _=>rfl) (fun _ _ _ _=>rfl) (fun b o _ hn=>hN b o hn) (Gh.le.refl g)
  |_=>exact absurd rfl hp
theorem FN {w0:World} {N0:aF} {n m:Nat} {ν:Nat→Nat} {δ:Nat→Option Nat} (hc:CtxOf c w0 N0 n m ν δ) (hdom: ∀j b,δ j=some b→j<m)
  (h:Sim X c tm w σ g D) {bs:List (Nat×Box U)} {qs:List (PV U)} {vs:Array Value} {ν':Nat→Nat} {δ':Nat→Option Nat} {keep:Bool} {N1:aF}
  (hkeys: ∃more,bs.map (·.1)=cj (c_ 0) n++more) (hnd:(bs.map (·.1)).Nodup) (hν: ∀ (k:Nat) id,(bs.map (·.1))[k]? =some id→g.μ id=some (ν' k))
  (hδ: ∀j b,δ' j=some b→ ∃i,D i=some b)
  (hg:Given X w vs N1 ν' δ' qs (bs.map fun b=>b.2.ren keep (bp (bs.map (·.1)))))
  (hN1:NB N1 bs.length ν' δ'=c.N g D):
  Back X w0 w N0 ν δ n m ν' δ' (bs.map fun b=>b.2.ren keep (bp (bs.map (·.1))))∧ ∀b o,(NB N0 bs.length ν' δ') b o→(NB N1 bs.length ν' δ') b o:=by
 obtain ⟨more,hmore⟩:=hkeys
 obtain ⟨c0,cN,cbl,cfix,cother,hb0⟩:=hc
 have hlen:bs.length=n+more.length:=by have:=congrArg List.length hmore;simpa [xE] using this
 have hext: ∀i,i<n→(bs.map (·.1))[i]? =some (c_ i):=by
  intro i hi
  rw [hmore,List.getElem?_append_left (by rw [xE];exact hi),Jy _ _ _ hi]
  simp [c_]
 have hold: ∀i,i<n→ν' i=ν i:=by
  intro i hi
  have h1:=hν i _ (hext i hi)
  rcases h.fix _ _ h1 with h2|⟨h2,_⟩
  ·rw [cfix i hi] at h2;injection h2 with h2;exact h2.symm
  ·rw [cfix i hi] at h2;cases h2
 have hμν: ∀i,i<n→g.μ (c_ i)=some (ν i):=fun i hi=>by rw [←hold i hi];exact hν i _ (hext i hi)
 have hget: ∀k,k<bs.length→ ∃id,(bs.map (·.1))[k]? =some id∧g.μ id=some (ν' k):=fun k hk=>⟨_,List.getElem?_eq_getElem (by simpa using hk),hν k _ (List.getElem?_eq_getElem (by simpa using hk))⟩
 have hsub: ∀b o,(NB N0 bs.length ν' δ') b o→(NB N1 bs.length ν' δ') b o:=by
  intro b o hn
  rw [hN1]
  rcases hn with hn|⟨k,hk,rfl⟩|⟨j,hj⟩
  ·exact .inl (by rw [cN];exact hn)
  ·obtain ⟨id,_,hid⟩:=hget k hk
   exact .inr (.inl ⟨id,hid⟩)
  ·obtain ⟨i,hi⟩:=hδ j b hj
   exact .inr (.inr ⟨i,hi⟩)
 have hnew: ∀i,n≤i→i<bs.length→w0.heap.size≤ν' i:=by
  intro i hi hlt
  obtain ⟨id,h1,h2⟩:=hget i hlt
  rcases h.fix _ _ h2 with h3|⟨_,h3⟩
  ·rcases cother _ _ h3 with ⟨j,hj,e⟩|h4
   ·exfalso
    subst e
    have h7:=hext j hj
    have:=(List.getElem?_inj (by simpa using hlt) hnd).1 (h1.trans h7.symm)
    omega
   ·exact h4
  ·rw [c0] at h3;exact h3
 have hdnew: ∀j b,δ' j=some b→w0.heap.size≤b∨ ∃i,δ i=some b:=by
  intro j b hj
  obtain ⟨i,hi⟩:=hδ j b hj
  rcases (h.dnew i b hi).2 with h1|h1
  ·rw [cbl] at h1
   rcases List.mem_append.1 h1 with h1|h1
   ·obtain ⟨k,hk,e⟩:=List.mem_map.1 h1
    rw [List.mem_range] at hk
    subst e
    exact absurd (hμν k hk) (h.dbox i _ _ hi)
   ·obtain ⟨k,_,hk⟩:=List.mem_filterMap.1 h1
    exact .inr ⟨k,hk⟩
  ·rw [c0] at h1;exact .inl h1
 have hl:(bs.map fun b=>b.2.ren keep (bp (bs.map (·.1)))).length=bs.length:=by simp
 have hgb:=hg.bnd
 rw [hl] at hgb
 have hex:Ext (mD n m ν δ) w0 w:=by have:=h.ext;rwa [c0,cbl] at this
 refine ⟨⟨hex,by rw [hl];omega,hold,by rw [hl];exact hnew,hdnew, ?_,fun k b hb=> ?_⟩,hsub⟩
 ·rw [hl]
  refine ⟨hgb.inj,hgb.lt,hgb.dlt,hgb.dinj,hgb.dν,fun b o hn=>⟨Nat.lt_of_lt_of_le (hb0.n0 b o hn).1 hex.size,fun i hi e=> ?_,fun j hj=> ?_⟩⟩
  ·by_cases hin:i<n
   ·exact (hb0.n0 b o hn).2.1 i hin (by rw [←hold i hin];exact e)
   ·have:=hnew i (by omega) hi
    have:=(hb0.n0 b o hn).1
    omega
  ·rcases hdnew j b hj with h1|⟨i,h1⟩
   ·have:=(hb0.n0 b o hn).1;omega
   ·exact (hb0.n0 b o hn).2.2 i h1
 ·have:=hg.boxes k b hb
  rw [hl] at this ⊢
  exact this.mono rfl (fun _ _ _ _=>rfl) (fun b o _ hn=>hsub b o hn) (Gh.le.refl _)
end
end Go.Proofs.YtapmagaejigpnaaGreatDoor.PI
namespace Go.Proofs.YtapmagaejigpnaaGreatDoor.PI
open Go
set_option linter.unusedVariables false
set_option linter.unusedSimpArgs false
section
variable {U:Uni} {V:Env U} {P:Program} {X:Link V P}
theorem RepG.ofAny {w:World} {N:aF} {g:Gh U} {v:Value} {Do:Option Nat} {p:PV U} (h:Rep X w N g v p):RepG X w N g v Do p:=by
 cases p<;>first|exact h|cases h
theorem RepR.ofG {w:World} {N:aF} {g:Gh U} {v:Value} {δ:Nat→Option Nat} {p:PV U} (h:RepG X w N g v (δ 0) p):RepR X w N g v δ p:=by
 cases p with
 |tuple ps=>
  cases (show Rep X w N g v (.tuple ps) from h) with
  |tuple vs _ hl hh=>exact ⟨vs,rfl,hl,fun j p hp=> .ofAny (hh j p hp)⟩
 |_=>exact h
theorem abX {fn:Func} {tmps:Array Value} {us:List Value} {w:World} (h:(fn.results.toList.mapM (lc tmps)).run P w= .ok us w):
  (results fn tmps).run P w= .ok (if h:us.toArray.size=1 then us.toArray[0] else .tuple us.toArray) w:=by
 rw [abW,Array.mapM_eq_mapM_toList]
 simp [Sem.run_bind,h]
variable {w0:World} {N0:aF} {n m:Nat} {ν:Nat→Nat} {δ:Nat→Option Nat} {K:bX U} {c:Ctx}
theorem pw {fn:Func} {tm:Array Value} {w:World} {σ:St U} {g:Gh U} {D:Nat→Option Nat} (hc:CtxOf c w0 N0 n m ν δ) (hdom: ∀j b,δ j=some b→j<m) (h:Sim X c tm w σ g D)
  {keep:Bool} {hand:List Bool} {out:Out U} {τ:St U} {fp gp:List Loc} (hr:(iD V keep hand fn.results.toList n).Rel K σ fp (.out out) τ gp):
  ∃v,(results fn tm).run P w= .ok v w∧d6 X w0 N0 ν δ n m out (.returned v) w:=by
 unfold iD at hr
 obtain ⟨ps,us,fp1,hr1,hl1,hp1,hrun⟩:=abV h _ hr
 obtain ⟨q1,σ1,D1,fp2,hr2,hF1,hl2,hq1⟩:=Hb hand ps h (fun j=>us.getD j undef) hp1 hr1
 obtain ⟨bs0,fp3,hr3,hk0,hb0'⟩:=Bu _ hr2
 obtain ⟨bs1,fp4,hr4,hb1⟩:=Xu 100 _ bs0 hb0' hr3
 obtain ⟨bs2,σ2,D2,fp5,hr5,hF2,hkeys,hb2⟩:=Bt _ hF1.sim (fun x hx=>hF1.sim.boxes x.1 x.2 (hb1 x hx)) hr4
 have h2:=hF2.sim
 obtain ⟨qs,σ3,fp6,G,δ',hr6,hl6,hSp,_,hδ,hδi,hqs⟩:=He h2 hand q1 (fun j=>us.getD j undef) (.refl σ2) (fun j p hp=>hF2.rep (hq1 j p hp)) hr5
 cases hh:jq qs bs2 with
 |false=>rw [hh] at hr6;exact hr6.elim
 |true=>
 rw [hh] at hr6
 obtain ⟨e1,_,_⟩:=hr6
 injection e1 with e1
 subst e1
 obtain ⟨ν',hν⟩:=Jx hb2
 have hgd: ∀j,us.toArray.getD j undef=us.getD j undef:=fun j=>nS j (by simp)
 obtain ⟨hNB,hg⟩:=Bv h2 keep (vs:=us.toArray) (by simp;omega) hb2 hh (fun j b hj=>by rw [hl6];exact hδ j b hj) hδi (fun j q hq=>by rw [hgd];exact hqs j q hq) hν
 have hnd:=(xa hh).2.2.1
 obtain ⟨hback,hsub⟩:=FN hc hdom h2 ⟨bs1.map (·.1),by rw [hkeys,List.map_append,hk0]⟩ hnd hν (fun j b hj=>by obtain ⟨_,i,_,hi⟩:=hδ j b hj;exact ⟨i,hi⟩) hg hNB
 suffices hR:RepR X w (NB N0 bs2.length ν' δ') (gB U bs2.length ν') (if h:us.toArray.size=1 then us.toArray[0] else .tuple us.toArray) δ' (kX (PV.renL keep (bp (bs2.map (·.1))) qs)) by
  have hrr:=abX hrun
  generalize (if h:us.toArray.size=1 then us.toArray[0] else .tuple us.toArray)=v at hR hrr
  have hbl:(bs2.map fun b=>b.2.ren keep (bp (bs2.map (·.1)))).length=bs2.length:=by simp
  have hret:d6 X w0 N0 ν δ n m (.ret (kX (PV.renL keep (bp (bs2.map (·.1))) qs)) (bs2.map fun b=>b.2.ren keep (bp (bs2.map (·.1))))) (.returned v) w:=by
   simp only [d6]
   refine ⟨ν',δ',hback, ?_⟩
   rw [hbl];exact hR
  exact ⟨v,hrr,hret⟩
 have hbl:(bs2.map fun b=>b.2.ren keep (bp (bs2.map (·.1)))).length=bs2.length:=by simp
 have hargs: ∀ (j:Nat) p,(PV.renL keep (bp (bs2.map (·.1))) qs)[j]? =some p→RepG X w (NB N0 bs2.length ν' δ') (gB U bs2.length ν') (us.toArray.getD j undef) (δ' j) p:=fun j p hp=>by
  have:=hg.args j p hp
  rw [hbl] at this
  exact this.lessN hsub
 have hlr:(PV.renL keep (bp (bs2.map (·.1))) qs).length=us.length:=by rw [gP];simp;omega
 generalize PV.renL keep (bp (bs2.map (·.1))) qs=rs at hargs hlr
 by_cases h1:us.toArray.size=1
 ·rw [dif_pos h1]
  have hu1:us.length=1:=by simpa using h1
  obtain ⟨p,rfl⟩: ∃p,rs=[p]:=by
   match rs,hlr with
   |[p],_=>exact ⟨p,rfl⟩
   |[],h=>simp at h;omega
   |_::_::_,h=>simp at h;omega
  have:=hargs 0 p rfl
  have hu:us.toArray.getD 0 undef=us.toArray[0]:=by simp [Array.getD,h1]
  rw [hu] at this
  exact .ofG this
 ·rw [dif_neg h1]
  have hone:kX rs= .tuple rs:=by
   match rs,hlr with
   |[],_=>rfl
   |[p],h=>simp at h h1;omega
   |_::_::_,_=>rfl
  rw [hone]
  exact ⟨us.toArray,rfl,by simpa using hlr.symm,hargs⟩
theorem Cz {tm:Array Value} {w:World} {σ:St U} {g:Gh U} {D:Nat→Option Nat} (hc:CtxOf c w0 N0 n m ν δ) (hdom: ∀j b,δ j=some b→j<m) (h:Sim X c tm w σ g D)
  {v:PV U} {val:Value} (hv:Rep X w (c.N g D) g val v) {out:Out U} {τ:St U} {fp gp:List Loc} (hr:(Cy v n).Rel K σ fp (.out out) τ gp):
  d6 X w0 N0 ν δ n m out (.panicked [{v:=val,recovered:=false}]) w:=by
 unfold Cy at hr
 obtain ⟨bs0,fp3,hr3,hk0,hb0'⟩:=Bu _ hr
 obtain ⟨bs2,σ2,D2,fp5,hr5,hF2,hkeys,hb2⟩:=Bt _ h (fun x hx=>h.boxes x.1 x.2 (hb0' x hx)) hr3
 obtain ⟨q,σ3,D3,fp6,hr6,hF3,hq,_⟩:=l7 v hF2.sim (hF2.rep hv) hr5
 cases hh:jq [q] bs2 with
 |false=>simp only [hh] at hr6;exact hr6.elim
 |true=>
 simp only [hh] at hr6
 obtain ⟨e1,_,_⟩:=hr6
 injection e1 with e1
 subst e1
 have hb3: ∀x∈bs2,pI X w (c.N g D3) g x:=fun x hx=>by
  obtain ⟨k,hk,hbx⟩:=hb2 x hx
  exact ⟨k,hk,hbx.mono rfl (fun _ _ _ _=>rfl) (fun b o _ hn=>by
   rcases hn with hn|hn|⟨i,hi⟩
   ·exact .inl hn
   ·exact .inr (.inl hn)
   ·exact .inr (.inr ⟨i,hF3.D i b hi⟩)) (Gh.le.refl g)⟩
 have hkk:bs2.map (·.1)=cj (c_ 0) n:=hkeys.trans hk0
 have hlen:bs2.length=n:=by have:=congrArg List.length hkk;simpa [xE] using this
 have hν: ∀ (k:Nat) id,(bs2.map (·.1))[k]? =some id→g.μ id=some (ν k):=by
  intro k id hid
  obtain ⟨x,hx,rfl⟩:=List.mem_map.1 (List.mem_of_getElem? hid)
  obtain ⟨kb,hk,_⟩:=hb3 x hx
  have hkn:k<n:=by have:=(List.getElem?_eq_some_iff.1 hid).1;simp at this;omega
  rw [hkk,Jy _ _ _ hkn] at hid
  injection hid with hid
  have hfix:c.fix x.1=some (ν k):=by
   rw [←hid,←hc.fix k hkn]
   simp [c_]
  rcases h.fix _ _ hk with h2|⟨h2,_⟩
  ·rw [hfix] at h2;rw [hk,←h2]
  ·rw [hfix] at h2;cases h2
 obtain ⟨hNB,hg⟩:=Bv (G:=[]) (δ:=fun _=>none) hF3.sim false (vs:= #[val]) (by simp) hb3 hh (by simp) (by simp) (fun j q' hq'=>by
  cases j with
  |zero=>simp at hq';subst hq';exact .of hq
  |succ j=>simp at hq') hν
 obtain ⟨hback,hsub⟩:=FN hc hdom hF3.sim ⟨[],by rw [hkk];simp⟩ (xa hh).2.2.1 hν (by simp) hg hNB
 refine ⟨by simp [hlen],val,rfl,hback, ?_⟩
 have hbl:(bs2.map fun b=>b.2.ren false (bp (bs2.map (·.1)))).length=bs2.length:=by simp
 have:=hg.args 0 _ rfl
 rw [hbl] at this
 have:=this.lessN hsub
 rw [hlen] at this
 have hf:(q.ren false (bp (bs2.map (·.1)))).notFresh=true:=by
  rw [yw]
  cases q<;>first|rfl|cases hq
 exact this.rep hf
theorem Ma (hm:P.follows .mixedOrders=true) (hI:jV X) {S:Side U} (hS:S.rcv=none) (hpin:S.pin=fun _=>false) {R:Type} {C:Oracle U R} (hC:C.Tells (bW X)) {f:FuncId} {fn:Func} (hf:P.funcs[f]? =some fn)
  (hname:(fn.name== "runtime.NumGoroutine")=false) (hbody:fn.body.isNone=false) (hnt:fn.ntmps=S.nt) (hlow:S.nt≤1000000) {args:List (PV U)} {boxes:List (Box U)} (hargs:args.length≤S.nt)
  {ann:Nat→Option Ann} {fuel:Nat} {keep:Bool} {hand:List Bool} {κ:Out U→Option R} {x:R} (h:py V S C ann fuel keep hand fn args boxes κ=some x): ∃out,κ out=some x∧bW X f args boxes out:=by
 obtain ⟨code,hcode⟩: ∃code,fn.body=some code:=by
  cases hb:fn.body with
  |none=>rw [hb] at hbody;cases hbody
  |some code=>exact ⟨code,rfl⟩
 unfold py fO at h
 rw [hcode] at h
 obtain ⟨e,τ,hbig,hk⟩:=yD (bW X) V S ann hC fuel code h
 have key: ∀ {M:M U} {out:Out U} {τ0:St U} {gp:List Loc},M.Rel (bW X) τ [] (.out out) τ0 gp→(∀ (w:World) (vs:Array Value) (N0:aF) (ν:Nat→Nat) (δ:Nat→Option Nat) (hg:Given X w vs N0 ν δ args boxes),
   Lands X (fK w N0 boxes.length args.length ν δ S.nt hlow hg.bnd X.gblk hg.glob) [] e τ (bodyPost P fn (d6 X w N0 ν δ boxes.length args.length out)))→bW X f args boxes out:=by
  intro M out τ0 gp _ hl
  refine ⟨⟨fn,hf,hname,hbody⟩,fun w vs N0 ν δ hg=> ?_⟩
  refine calls_of_wp hf hcode ?_
  have hs:=yQ hg hargs hlow
  rw [hnt]
  exact m8 hm (mG hI hS fun d hd=>by rw [hpin] at hd;cases hd) rfl hbig _ w _ _ _ hs (hl w vs N0 ν δ hg)
 cases e with
 |exit id=>cases hk
 |normal=>
  obtain ⟨r,τ0,τ1,gp,hr,ht,hfin⟩:=fP hC _ hk (St.eqv.refl τ)
  cases r with
  |out o=>
   refine ⟨o,hfin,key hr fun w vs N0 ν δ hg a' w' g' D' hd hs=> ?_⟩
   obtain ⟨v,h1,h2⟩:=pw jQ hg.dom hs hr
   exact ⟨hd,v,h1,h2⟩
  |_=>cases hfin
 |ret=>
  obtain ⟨r,τ0,τ1,gp,hr,ht,hfin⟩:=fP hC _ hk (St.eqv.refl τ)
  cases r with
  |out o=>
   refine ⟨o,hfin,key hr fun w vs N0 ν δ hg a' w' g' D' hd hs=> ?_⟩
   obtain ⟨v,h1,h2⟩:=pw jQ hg.dom hs hr
   exact ⟨hd,v,h1,h2⟩
  |_=>cases hfin
 |panic v=>
  obtain ⟨r,τ0,τ1,gp,hr,ht,hfin⟩:=fP hC _ hk (St.eqv.refl τ)
  cases r with
  |out o=>
   refine ⟨o,hfin,key hr fun w vs N0 ν δ hg a' w' g' D' hd hs val hval=> ?_⟩
   exact ⟨hd,Cz jQ hg.dom hs hval hr⟩
  |_=>cases hfin
end
end Go.Proofs.YtapmagaejigpnaaGreatDoor.PI
namespace Go.Proofs.YtapmagaejigpnaaGreatDoor.PI
open Go
section
variable {U:Uni} {R:Type} (V:Env U) (S:Side U) (C:Oracle U R) (ann:Nat→Option Ann) (fuel:Nat)
def LW (o:Oper):Option Tmp:=
 match o.dst,o.op,o.guard with
 |some d,.call c,.none=>match c.callee with
  | .builtin .recover=>some d
  |_=> .none
 |_,_,_=> .none
def Mc (v:PV U):Code→St U→(Ex U→St U→Option R)→Option R
 | .seq (.region _ ops draw) b,σ,κ=>match ops.toList with
  |o::more=>match LW o with
   |some d=>bif !draw&&(Nat.blt d S.nt&&more.all (bj S.nt)) then pz V S C ops.toList more [] (σ.setR d v) fun
     | .normal,σ',_=>run V S C ann fuel b σ' κ
     |_,_,_=> .none
    else .none
   | .none=> .none
  |[]=> .none
 |_,_,_=> .none
def Dt (keep:Bool) (hand:List Bool) (fn:Func) (v:PV U) (args:List (PV U)) (boxes:List (Box U)) (κ:Out U→Option R):Option R:=
 Mc V S C ann fuel v (fO fn) (f8 args boxes) (kF V C keep hand fn boxes.length κ)
def A1:List Oper→Option (Oper×Tmp)
 |[o,q]=>match o.dst,o.guard,q.dst,q.op,q.guard with
  |some m,.none,.none,.defer c,.none=>match c.callee with
   | .value (.tmp n)=>bif Nat.beq m n&&c.args.isEmpty then some (o,n) else .none
   |_=> .none
  |_,_,_,_,_=> .none
 |_=> .none
def PV.pinned:PV U→Bool
 | .ptr id _=>Nat.ble 1000000 id
 |_=>false
def mP:Code→St U→(Ex U→St U→Option R)→(FuncId→List (PV U)→Ex U→St U→Option R)→Option R
 | .seq a b,σ,κ0,κ1=>match a with
  | .region id ops draw=>match A1 ops.toList with
   |some (o,n)=>bif !draw&&bj S.nt o then (bv V S o).cps C σ [] fun
     | .done,σ',_=>match σ'.r n with
      | .func h [] caps=>bif caps.all PV.pinned then run V {S with pin:=fun _=>false} C ann fuel b σ' (κ1 h caps) else .none
      |_=> .none
     |_,_,_=> .none
    else .none
   | .none=>run V S C ann fuel (.region id ops draw) σ fun
    | .normal,σ'=>mP b σ' κ0 κ1
    |e,σ'=>κ0 e σ'
  |a=>run V S C ann fuel a σ fun
   | .normal,σ'=>mP b σ' κ0 κ1
   |e,σ'=>κ0 e σ'
 |_,_,_,_=> .none
def kD (Cd:PV U→Oracle U R) (keep:Bool) (hand:List Bool) (fn:Func) (nb:Nat) (κ:Out U→Option R) (h:FuncId) (caps:List (PV U)):Ex U→St U→Option R
 | .normal,σ=>(gr (PV.idsL caps) fun _=>gZ [] .none (.func h [] caps) []).cps (Cd .nilIface) σ [] fun
  | .done,σ',_=>(iD V keep hand fn.results.toList nb).cps C σ' [] (fin κ)
  |_,_,_=> .none
 | .ret,σ=>(gr (PV.idsL caps) fun _=>gZ [] .none (.func h [] caps) []).cps (Cd .nilIface) σ [] fun
  | .done,σ',_=>(iD V keep hand fn.results.toList nb).cps C σ' [] (fin κ)
  |_,_,_=> .none
 | .panic v,σ=>match v with
  | .iface t (.int k n)=>(gr (PV.idsL caps) fun _=>gZ [] .none (.func h [] caps) []).cps (Cd (.iface t (.int k n))) σ [] fun
   | .done,σ',_=>(iD V keep hand fn.results.toList nb).cps C σ' [] (fin κ)
   |_,_,_=> .none
  |_=> .none
 | .exit _,_=> .none
def HP:Code→List Bool→List (St U→Option R)→(Nat→Option Ann)→(Ex U→St U→Option R)→(FuncId→List (PV U)→Ex U→St U→Option R)→Ex U→St U→Option R
 | .seq a b,false::p,rs,an,κ0,κ1=>kE V S C ann fuel a p rs an fun
  | .normal,σ'=>mP V S C ann fuel b σ' κ0 κ1
  |e,σ'=>κ0 e σ'
 | .seq _ b,true::p,rs,an,κ0,κ1=>HP b p rs an κ0 κ1
 |_,_,_,_,κ0,_=>κ0
def Ds (Cd:PV U→Oracle U R) (keep:Bool) (hand:List Bool) (fn:Func) (args:List (PV U)) (boxes:List (Box U)) (κ:Out U→Option R):Option R:=
 mP V S C ann fuel (fO fn) (f8 args boxes) (kF V C keep hand fn boxes.length κ) (kD V C Cd keep hand fn boxes.length κ)
end
end Go.Proofs.YtapmagaejigpnaaGreatDoor.PI
namespace Go.Proofs.YtapmagaejigpnaaGreatDoor.PI
open Go
set_option linter.unusedVariables false
set_option linter.unusedSimpArgs false
section
variable {U:Uni} {V:Env U} {P:Program} {X:Link V P}
inductive RcvOK:PV U→FrameMode→FrameMode→Prop
 |nil:RcvOK .nilIface .returning .returning
 |err (t:TypeId) (k:IntKind) (n:Int):RcvOK (.iface t (.int k n)) (.panicking [{v:= .iface t (.int k n),recovered:=false}]) (.panicking [{v:= .iface t (.int k n),recovered:=true}])
def jU (P:Program) (u u':FrameMode):FuncId→Array Value→World→(Ending→World→Prop)→Prop:=fun f vs w R=>CallsD P f vs u w fun e u2 w'=>u2=u'∧R e w'
theorem aeE {ops:Array Oper} {cs:List Frame} {Q:Exit→Act→List Frame→World→Prop} (hQ: ¬LetsOut (fun e a' w'=>Q e a' cs w')): ∀ (l:List Nat) (a:Act) (w:World),wpOps P ops (fun e a' w'=>Q e a' cs w') l a w→wpOpsS P ops Q l a cs w:=by
 intro l
 induction l with
 |nil=>intro a w h;exact h
 |cons i l ih=>
  intro a w h
  simp only [wpOps,wpOpsS] at h ⊢
  cases ho:ops[i]? with
  |none=>rw [ho] at h;exact ih _ _ h
  |some o=>
   rw [ho] at h
   simp only at h ⊢
   split
   ·rename_i hw
    rw [if_pos hw] at h
    have h:=h.resolve_right fun h=>hQ h.2
    have h:=Oper.wp_mono ih h
    unfold Oper.wp at h
    split
    ·rename_i w' hrun
     rw [hrun] at h
     exact h.elim
    ·exact h
   ·rename_i hw
    rw [if_neg hw] at h
    exact ih _ _ h
theorem ab4 (hm:P.follows .mixedOrders=true) (hI:jV X) {S:Side U} (hS:S.rcv=none) (hpin:S.pin=fun _=>false) {R:Type} {C:Oracle U R} (hC:C.Tells (bW X)) {f:FuncId} {fn:Func} (hf:P.funcs[f]? =some fn)
  (hname:(fn.name== "runtime.NumGoroutine")=false) (hbody:fn.body.isNone=false) (hnt:fn.ntmps=S.nt) (hlow:S.nt≤1000000) {v:PV U} {u u':FrameMode} (hv:RcvOK v u u') {args:List (PV U)} {boxes:List (Box U)} (hargs:args.length≤S.nt)
  {ann:Nat→Option Ann} {fuel:Nat} {keep:Bool} {hand:List Bool} {κ:Out U→Option R} {x:R} (h:Dt V S C ann fuel keep hand fn v args boxes κ=some x): ∃out,κ out=some x∧iR X (jU P u u') f args boxes out:=by
 obtain ⟨code,hcode⟩: ∃code,fn.body=some code:=by
  cases hb:fn.body with
  |none=>rw [hb] at hbody;cases hbody
  |some code=>exact ⟨code,rfl⟩
 unfold Dt fO at h
 rw [hcode] at h
 simp only at h
 unfold Mc at h
 split at h
 case h_2=>cases h
 rename_i id ops draw b
 split at h
 case h_2=>cases h
 rename_i o more hops
 split at h
 case h_2=>cases h
 rename_i d hrec
 cases hc:(!draw&&(Nat.blt d S.nt&&more.all (bj S.nt))) with
 |false=>rw [hc] at h;cases h
 |true=>
 rw [hc] at h
 simp only [cond_true] at h
 simp only [Bool.and_eq_true,Bool.not_eq_true'] at hc
 obtain ⟨hdraw,hd,hall⟩:=hc
 subst hdraw
 have hd:d<S.nt:=by simpa using hd
 unfold LW at hrec
 obtain ⟨dst,op,ty,pos,after,gd⟩:=o
 simp only at hrec
 split at hrec
 case h_2=>cases hrec
 rename_i d0 cl
 split at hrec
 case h_2=>cases hrec
 rename_i hcl
 injection hrec with hrec
 subst hrec
 obtain ⟨e1,fps,τ0,τ1,hops1,ht1,hk1⟩:=Mb (bW X) V S hC ops.toList more h (St.eqv.refl _)
 cases e1 with
 |exit id=>cases hk1
 |ret=>cases hk1
 |panic v=>cases hk1
 |normal=>
 simp only at hk1
 obtain ⟨e,τ,hbig,hk⟩:=yD (bW X) V S ann hC fuel b hk1
 have hsz:ops.size=more.length+1:=by have:=congrArg List.length hops;simpa using this
 have key: ∀ {out:Out U},(∀ (w:World) (vs:Array Value) (N0:aF) (ν:Nat→Nat) (δ:Nat→Option Nat) (hg:Given X w vs N0 ν δ args boxes),
   Lands X (fK w N0 boxes.length args.length ν δ S.nt hlow hg.bnd X.gblk hg.glob) [] e τ (bodyPost P fn (d6 X w N0 ν δ boxes.length args.length out)))→iR X (jU P u u') f args boxes out:=by
  intro out hl
  refine ⟨⟨fn,hf,hname,hbody⟩,fun w vs N0 ν δ hg=> ?_⟩
  refine callsD_of_wpS hf hcode fun c₀ cs hu=> ?_
  have hs:=yQ hg hargs hlow
  rw [hnt]
  have hl:=hl w vs N0 ν δ hg
  generalize hcx:fK w N0 boxes.length args.length ν δ S.nt hlow hg.bnd X.gblk hg.glob=c at hs hl
  have hcnt:c.nt=S.nt:=by rw [←hcx];rfl
  have hOS:lz X (bW X) S c:=mG hI hS fun d hd=>by rw [hpin] at hd;cases hd
  obtain ⟨val,cs2,hrv,hrep⟩: ∃val cs2,(match recoverD (c₀::cs) with|some (v,cs')=>v=val∧cs'=cs2|none=>val= .nilIface∧cs2=c₀::cs)∧(∃c1:Frame,cs2={c₀ with mode:=u'}::cs)∧ ∀ (w:World) (N:aF) (g:Gh U),Rep X w N g val v:=by
   cases hv with
   |nil=>
    refine ⟨.nilIface,c₀::cs, ?_,⟨c₀, ?_⟩,fun _ _ _=> .nilIface⟩
    ·simp [recoverD,hu]
    ·rw [←hu]
   |err t k n=>
    refine ⟨.iface t (.int k n),_, ?_,⟨c₀,rfl⟩,fun _ _ _=> .iface _ _ _ (.int _ _)⟩
    simp [recoverD,hu]
  obtain ⟨⟨_,hcs2⟩,hrep⟩:=hrep
  refine wpS_seq (wpS_region ?_)
  rw [hsz,List.range_eq_range',List.range'_succ]
  have h0:ops[0]? =some ⟨some d0,.call cl,ty,pos,after,none⟩:=by rw [←Array.getElem?_toList,hops];rfl
  simp only [wpOpsS,h0]
  have hrun:(execOp (Act.eval ⟨vs++Array.replicate (S.nt-vs.size) undef,[]⟩) ⟨some d0,.call cl,ty,pos,after,none⟩).run P w= .ok .recover w:=by
   rw [Mf hcl]
   simp [builtin]
  rw [if_pos (by simp [Region.wanted]),hrun]
  simp only
  have hnext:wpOpsS P ops (Exit.thenS (b.wpS P (bodyPostS P fn c₀ cs fun e u2 w'=>u2=u'∧d6 X w N0 ν δ boxes.length args.length out e w')) (bodyPostS P fn c₀ cs fun e u2 w'=>u2=u'∧d6 X w N0 ν δ boxes.length args.length out e w')) (List.range' (0+1) more.length)
    (Act.put ⟨vs++Array.replicate (S.nt-vs.size) undef,[]⟩ (some d0) val) cs2 w:=by
   have hs1:=hs.put (d:=d0) (by rw [hcnt];exact hd) (hrep w _ _)
   have hLO: ∀ {next:Act→List Frame→World→Prop},¬LetsOut (fun e a' w'=>Exit.thenS next (bodyPostS P fn c₀ cs fun e u2 w'=>u2=u'∧d6 X w N0 ν δ boxes.length args.length out e w') e a' cs2 w'):=by
    rintro next ⟨a',w',u2,_,hq⟩
    exact hq
   refine aeE hLO _ _ _ ?_
   refine PR hOS more 1 _ w _ _ _ fps (by rw [hops];rfl) (by rw [hcnt];exact hall) hs1 hops1 ?_
   intro a2 w2 g2 D2 hd2 hs2
   simp only [Exit.thenS]
   refine wpS_of_wp (m8 hm hOS hcnt hbig a2 w2 g2 D2 _ (hs2.eqv ht1) ?_)
   intro a3 w3 g3 D3 hd3 hs3
   have hd0:a3.defers=[]:=hd3.trans hd2
   have hb:=hl a3 w3 g3 D3 hd0 hs3
   rw [hcs2]
   cases e with
   |normal=>obtain ⟨q1,v1,q2,q3⟩:=hb;exact ⟨q1,u',rfl,v1,q2,rfl,q3⟩
   |ret=>obtain ⟨q1,v1,q2,q3⟩:=hb;exact ⟨q1,u',rfl,v1,q2,rfl,q3⟩
   |exit id=>exact hb.elim
   |panic pv=>intro val' hval';obtain ⟨q1,q3⟩:=hb val' hval';exact ⟨q1,u',rfl,rfl,q3⟩
  cases hrd:recoverD (c₀::cs) with
  |none=>rw [hrd] at hrv;obtain ⟨rfl,rfl⟩:=hrv;exact hnext
  |some p=>obtain ⟨v1,cs1⟩:=p;rw [hrd] at hrv;obtain ⟨rfl,rfl⟩:=hrv;exact hnext
 cases e with
 |exit id=>cases hk
 |normal=>
  obtain ⟨r,τ0,τ1,gp,hr,ht,hfin⟩:=fP hC _ hk (St.eqv.refl τ)
  cases r with
  |out o=>
   refine ⟨o,hfin,key fun w vs N0 ν δ hg a' w' g' D' hd hs=> ?_⟩
   obtain ⟨v,h1,h2⟩:=pw jQ hg.dom hs hr
   exact ⟨hd,v,h1,h2⟩
  |_=>cases hfin
 |ret=>
  obtain ⟨r,τ0,τ1,gp,hr,ht,hfin⟩:=fP hC _ hk (St.eqv.refl τ)
  cases r with
  |out o=>
   refine ⟨o,hfin,key fun w vs N0 ν δ hg a' w' g' D' hd hs=> ?_⟩
   obtain ⟨v,h1,h2⟩:=pw jQ hg.dom hs hr
   exact ⟨hd,v,h1,h2⟩
  |_=>cases hfin
 |panic v=>
  obtain ⟨r,τ0,τ1,gp,hr,ht,hfin⟩:=fP hC _ hk (St.eqv.refl τ)
  cases r with
  |out o=>
   refine ⟨o,hfin,key fun w vs N0 ν δ hg a' w' g' D' hd hs val hval=> ?_⟩
   exact ⟨hd,Cz jQ hg.dom hs hval hr⟩
  |_=>cases hfin
end
end Go.Proofs.YtapmagaejigpnaaGreatDoor.PI
namespace Go.Proofs.YtapmagaejigpnaaGreatDoor.PI
open Go
set_option linter.unusedVariables false
set_option linter.unusedSimpArgs false
section
variable {U:Uni} {V:Env U} {P:Program} {X:Link V P}
def Ctx.refix (c:Ctx) (μ:Nat→Option Nat) (L:List Nat) (hnt:c.nt≤1000000) (hL: ∀id∈L,1000000≤id):Ctx:=
 {c with
  fix:=fun id=>if id∈L then μ id else c.fix id
  low:=fun id k h=>by
   split at h
   ·rename_i h1;exact ⟨hL id h1,Nat.le_trans hnt (hL id h1)⟩
   ·exact c.low id k h}
theorem Sim.refix {c:Ctx} {tm:Array Value} {w:World} {σ:St U} {g:Gh U} {D:Nat→Option Nat} (h:Sim X c tm w σ g D) {L:List Nat} {hnt:c.nt≤1000000} {hL: ∀id∈L,1000000≤id}:
  Sim X (c.refix g.μ L hnt hL) tm w σ g D where
 nt:=h.nt
 regs:=h.regs
 boxes:=h.boxes
 dom:=h.dom
 inj:=h.inj
 new:=h.new
 objs:=h.objs
 nobj:=h.nobj
 dinj:=h.dinj
 dnew:=h.dnew
 dbox:=h.dbox
 ext:=h.ext
 gl:=h.gl
 fix:=fun id k hk=>by
  simp only [Ctx.refix]
  by_cases hin:id∈L
  ·rw [if_pos hin];exact .inl hk
  ·rw [if_neg hin];exact h.fix id k hk
theorem CtxOf.refix {c:Ctx} {tm:Array Value} {w:World} {σ:St U} {g:Gh U} {D:Nat→Option Nat} (h:Sim X c tm w σ g D) {L:List Nat} {hnt:c.nt≤1000000} {hL: ∀id∈L,1000000≤id} (hLμ: ∀id∈L,∃b,g.μ id=some b)
  {w0:World} {N0:aF} {n m:Nat} {ν:Nat→Nat} {δ:Nat→Option Nat} (hc:CtxOf c w0 N0 n m ν δ):CtxOf (c.refix g.μ L hnt hL) w0 N0 n m ν δ where
 cw:=hc.cw
 cN:=hc.cN
 bl:=hc.bl
 fix i hi:=by
  simp only [Ctx.refix]
  by_cases hin:c_ i∈L
  ·rw [if_pos hin]
   obtain ⟨b,hb⟩:=hLμ _ hin
   rcases h.fix _ _ hb with h1|⟨h1,_⟩
   ·rw [hb,←h1];exact hc.fix i hi
   ·rw [hc.fix i hi] at h1;cases h1
  ·rw [if_neg hin];exact hc.fix i hi
 other id k hk:=by
  simp only [Ctx.refix] at hk
  by_cases hin:id∈L
  ·rw [if_pos hin] at hk
   rcases h.fix _ _ hk with h1|⟨_,h1⟩
   ·exact hc.other id k h1
   ·rw [hc.cw] at h1;exact .inr h1
  ·rw [if_neg hin] at hk;exact hc.other id k hk
 bnd:=hc.bnd
def zd (c':Ctx) (caps:List (PV U)) (us:Array Value):Prop:=us.size=caps.length∧ ∀ (j:Nat) p,caps[j]? =some p→ ∃id off b,p= .ptr id off∧c'.fix id=some b∧us.getD j undef= .pointer (some ⟨b,off,none⟩)
def zf (X:Link V P) (S:Side U) (code:Code) (σ:St U) (h:FuncId) (caps:List (PV U)) (e:Ex U) (τ:St U):Prop:=
 ∀ (c:Ctx),PinOK S c→c.nt=S.nt→ ∀ (a:Act) (w:World) (g:Gh U) (D:Nat→Option Nat) (Q:Exit→Act→World→Prop),Sim X c a.tmps w σ g D→a.defers=[]→
  (∀ (us:Array Value) (c':Ctx),(∀w0 N0 n m ν δ,CtxOf c w0 N0 n m ν δ→CtxOf c' w0 N0 n m ν δ)→c'.nt=c.nt→zd c' caps us→Lands X c' [{target:= .fn (.func h) us,args:= #[]}] e τ Q)→code.wp P Q a w
theorem UZ {l:List Oper} {o:Oper} {n:Tmp} (h:A1 l=some (o,n)): ∃q cl,l=[o,q]∧o.dst=some n∧o.guard=none∧q.dst=none∧q.op= .defer cl∧q.guard=none∧cl.callee= .value (.tmp n)∧cl.args= #[]:=by
 unfold A1 at h
 split at h
 case h_2=>cases h
 rename_i o' q
 split at h
 case h_2=>cases h
 rename_i m cl h1 h2 h3 h4 h5
 split at h
 case h_2=>cases h
 rename_i n' hcl
 cases hb:(Nat.beq m n'&&cl.args.isEmpty) with
 |false=>rw [hb] at h;cases h
 |true=>
 rw [hb] at h
 injection h with h
 injection h with e1 e2
 subst e1;subst e2
 simp only [Bool.and_eq_true] at hb
 have hmn:m=n':=by simpa using hb.1
 subst hmn
 exact ⟨q,cl,rfl,h1,h2,h3,h4,h5,hcl,by simpa using hb.2⟩
theorem ab3 (hm:P.follows .mixedOrders=true) (hI:jV X) {S:Side U} (hS:S.rcv=none) (hlow:S.nt≤1000000) {R:Type} {C:Oracle U R} (hC:C.Tells (bW X)) {ann:Nat→Option Ann} {fuel:Nat}:
  ∀ (code:Code) {σ:St U} {κ0:Ex U→St U→Option R} {κ1:FuncId→List (PV U)→Ex U→St U→Option R} {x:R},mP V S C ann fuel code σ κ0 κ1=some x→
   (∃e τ,e≠ .normal∧κ0 e τ=some x∧ ∀c,PinOK S c→c.nt=S.nt→tY X c none code σ e τ)∨
   (∃h caps e τ,κ1 h caps e τ=some x∧zf X S code σ h caps e τ):=by
 intro code
 induction code with
 |seq a b iha ihb=>
  intro σ κ0 κ1 x h
  have step:run V S C ann fuel a σ (fun| .normal,σ'=>mP V S C ann fuel b σ' κ0 κ1|e,σ'=>κ0 e σ')=some x→
    (∃e τ,e≠ .normal∧κ0 e τ=some x∧ ∀c,PinOK S c→c.nt=S.nt→tY X c none (.seq a b) σ e τ)∨
    (∃h caps e τ,κ1 h caps e τ=some x∧zf X S (.seq a b) σ h caps e τ):=by
   intro h
   obtain ⟨e,τ,hbig,hk⟩:=yD (bW X) V S ann hC fuel a h
   have early:e≠ .normal→κ0 e τ=some x→_:=fun he hk=>(.inl ⟨e,τ,he,hk,fun c hP hnt=>m8 hm (mG hI hS hP) hnt (.seqE a b _ _ _ hbig he)⟩:
    (∃e τ,e≠ .normal∧κ0 e τ=some x∧ ∀c,PinOK S c→c.nt=S.nt→tY X c none (.seq a b) σ e τ)∨(∃h caps e τ,κ1 h caps e τ=some x∧zf X S (.seq a b) σ h caps e τ))
   cases e with
   |normal=>
    rcases ihb hk with ⟨e',τ',he',hk',hB⟩|⟨hh,caps,e',τ',hk',hB⟩
    ·exact .inl ⟨e',τ',he',hk',fun c hP hnt a' w g D Q hs hl=>wp_seq (m8 hm (mG hI hS hP) hnt hbig a' w g D _ hs fun a2 w2 g2 D2 hd2 hs2=>hB c hP hnt a2 w2 g2 D2 Q hs2 (by rw [hd2];exact hl))⟩
    ·exact .inr ⟨hh,caps,e',τ',hk',fun c hP hnt a' w g D Q hs hd hl=>wp_seq (m8 hm (mG hI hS hP) hnt hbig a' w g D _ hs fun a2 w2 g2 D2 hd2 hs2=>hB c hP hnt a2 w2 g2 D2 Q hs2 (hd2.trans hd) hl)⟩
   |exit id=>exact early (by simp) hk
   |ret=>exact early (by simp) hk
   |panic v=>exact early (by simp) hk
  clear iha
  unfold mP at h
  split at h
  case h_2=>exact step h
  rename_i id ops draw
  split at h
  case h_2=>exact step h
  rename_i o n hdfr
  obtain ⟨q,cl,hops,ho1,ho2,hq1,hq2,hq3,hcl,hargs⟩:=UZ hdfr
  cases hc:(!draw&&bj S.nt o) with
  |false=>rw [hc] at h;cases h
  |true=>
  rw [hc] at h
  simp only [cond_true] at h
  simp only [Bool.and_eq_true,Bool.not_eq_true'] at hc
  obtain ⟨hdraw,hdo⟩:=hc
  subst hdraw
  obtain ⟨r,τ0,τ,gp,hrel,ht,hk⟩:=fP hC _ h (St.eqv.refl σ)
  cases r with
  |raise v=>cases hk
  |out o=>cases hk
  |done=>
  simp only at hk
  split at hk
  case h_2=>cases hk
  rename_i hh caps hfun
  cases hp:caps.all PV.pinned with
  |false=>rw [hp] at hk;cases hk
  |true=>
  rw [hp] at hk
  simp only [cond_true] at hk
  obtain ⟨e,τ2,hbig,hk2⟩:=yD (bW X) V {S with pin:=fun _=>false} ann hC fuel b hk
  refine .inr ⟨hh,caps,e,τ2,hk2,fun c hP hnt a w g D Q hs hdef hl=>wp_seq (wp_region ?_)⟩
  have hsz:ops.size=2:=by have:=congrArg List.length hops;simpa using this
  have h0:ops[0]? =some o:=by rw [←Array.getElem?_toList,hops];rfl
  have h1:ops[1]? =some q:=by rw [←Array.getElem?_toList,hops];rfl
  rw [hsz,show List.range 2=[0,1] from rfl]
  simp only [wpOps,h0,h1]
  rw [if_pos (by simp [Region.wanted,ho2])]
  refine .inl (mG hI hS hP o a w σ g D .done τ0 [] gp _ _ (by rw [hnt];exact hdo) hs hrel ⟨fun _ a2 w2 g2 D2 hd2 hs2=> ?_,fun v hv=>by cases hv⟩)
  rw [if_pos (by simp [Region.wanted,hq3])]
  refine .inl ?_
  have hs3:=hs2.eqv ht
  have hR:=hs3.regs n
  rw [hfun] at hR
  generalize hev:a2.tmps.getD n undef=ev at hR
  cases hR with
  |func _ _ _ vs us hvs hus hf1 hf2=>
  have hvs0:vs= #[]:=by
   have:vs.size=0:=by simpa using hvs
   exact Array.eq_empty_of_size_eq_zero this
  subst hvs0
  obtain ⟨qd,qo,qt,qp,qa,qg⟩:=q
  simp only at hq1 hq2 hq3
  subst hq1;subst hq2;subst hq3
  have hrun:(execOp a2.eval ⟨none,.defer cl,qt,qp,qa,none⟩).run P w2= .ok (.defer {target:= .fn (.func hh) us,args:= #[]}) w2:=by
   have hev':a2.eval (.tmp n)= .func (.func hh) #[] us:=hev
   simp [execOp,resolve,hcl,hargs,hev',Deferred.ofValue]
  unfold Oper.wp
  rw [hrun,Oper.upon_defer]
  have hids: ∀id∈PV.idsL caps,1000000≤id∧ ∃b,g2.μ id=some b:=by
   intro id hid
   obtain ⟨p,hpm,hpi⟩: ∃p∈caps,id∈p.ids:=by
    clear hl hk2 hbig hk hf1 hf2 hus hfun hp h step
    induction caps with
    |nil=>cases hid
    |cons p caps ih=>
     simp only [PV.idsL,List.mem_append] at hid
     rcases hid with hid|hid
     ·exact ⟨p,by simp,hid⟩
     ·obtain ⟨q,hq,hqi⟩:=ih hid;exact ⟨q,by simp [hq],hqi⟩
   have hpp:=List.all_eq_true.1 hp p hpm
   obtain ⟨j,hj⟩:=List.mem_iff_getElem?.1 hpm
   have hr:=hf2 j p hj
   cases p with
   |ptr id' off=>
    simp only [PV.ids,List.mem_singleton] at hpi
    subst hpi
    refine ⟨by simpa [PV.pinned] using hpp, ?_⟩
    generalize us.getD j undef=uv at hr
    cases hr with
    |ptr _ _ b hb=>exact ⟨b,hb⟩
   |_=>cases hpp
  have hcnt:c.nt≤1000000:=by rw [hnt];exact hlow
  refine m8 (S:={S with pin:=fun _=>false}) hm (mG hI hS fun d hd=>by cases hd) (c:=c.refix g2.μ (PV.idsL caps) hcnt fun id hid=>(hids id hid).1) hnt hbig _ w2 g2 D2 Q hs3.refix ?_
  have hld:=hl us (c.refix g2.μ (PV.idsL caps) hcnt fun id hid=>(hids id hid).1) (fun w0 N0 n m ν δ hc=>CtxOf.refix hs3 (fun id hid=>(hids id hid).2) hc) rfl ⟨hus,fun j p hj=> ?_⟩
  ·have hd3:((Act.put {a2 with defers:={target:= .fn (.func hh) us,args:= #[]}::a2.defers} none undef).defers)=[{target:= .fn (.func hh) us,args:= #[]}]:=by
    have:a2.defers=[]:=hd2.trans hdef
    simp [Act.put,this]
   rw [hd3];exact hld
  ·have hpp:=List.all_eq_true.1 hp p (List.mem_of_getElem? hj)
   have hr:=hf2 j p hj
   cases p with
   |ptr id off=>
    have hin:id∈PV.idsL caps:=eI hj id (by simp [PV.ids])
    generalize us.getD j undef=uv at hr
    cases hr with
    |ptr _ _ b hb=>exact ⟨id,off,b,rfl,by simp only [Ctx.refix];rw [if_pos hin];exact hb,rfl⟩
   |_=>cases hpp
 |_=>intro σ κ0 κ1 x h;cases h
end
end Go.Proofs.YtapmagaejigpnaaGreatDoor.PI
namespace Go.Proofs.YtapmagaejigpnaaGreatDoor.PI
open Go
set_option linter.unusedVariables false
set_option linter.unusedSimpArgs false
section
variable {U:Uni} {V:Env U} {P:Program} {X:Link V P}
theorem BX {fn:Func} {w0:World} {N0:aF} {n m:Nat} {ν:Nat→Nat} {δ:Nat→Option Nat} {c':Ctx} (hc:CtxOf c' w0 N0 n m ν δ) (hdom: ∀j b,δ j=some b→j<m) {v:PV U} {u u':FrameMode} (hv:RcvOK v u u')
  {hh:FuncId} {caps:List (PV U)} {us:Array Value} (hct:zd c' caps us) {τ τ1:St U} {r:MR U} {τ0:St U} {gp gp':List Loc} {K:bX U} {keep:Bool} {hand:List Bool} {out:Out U} {τ2:St U}
  (hrel:(gr (PV.idsL caps) fun _=>gZ [] none (.func hh [] caps) []).Rel (iR X (jU P u u')) τ [] r τ0 gp) (hr:r= .done) (ht:τ0.eqv τ1) (hret:(iD V keep hand fn.results.toList n).Rel K τ1 [] (.out out) τ2 gp')
  {a:Act} {w:World} {g:Gh U} {D:Nat→Option Nat} (hs:Sim X c' a.tmps w τ g D):
  Leaves P fn a.tmps (d6 X w0 N0 ν δ n m out) [{target:= .fn (.func hh) us,args:= #[]}] u w:=by
 obtain ⟨bs,fp1,hrel1,hkeys,hbs⟩:=Bu _ hrel
 have hR:Rep X w (c'.N g D) g (.func (.func hh) #[] us) (.func hh [] caps):=by
  refine .func hh [] caps #[] us rfl hct.1 (by simp) fun j p hp=> ?_
  obtain ⟨id,off,b,rfl,hfix,hus⟩:=hct.2 j p hp
  rw [hus]
  refine .ptr id off b ?_
  have hin:id∈PV.idsL caps:=eI hp id (by simp [PV.ids])
  rw [←hkeys] at hin
  obtain ⟨x,hx,rfl⟩:=List.mem_map.1 hin
  obtain ⟨k,hk,_⟩:=hs.boxes x.1 x.2 (hbs x hx)
  rcases hs.fix _ _ hk with h1|⟨h1,_⟩
  ·rw [hfix] at h1;injection h1 with h1;rw [h1];exact hk
  ·rw [hfix] at h1;cases h1
 obtain ⟨f,a0s,bs',hfv,⟨fnh,hfh,hnameh,hbodyh⟩,hcall⟩:=FR (X:=X) (c:=c') (a:=a) (dst:=none) (o:=⟨none,.move (.const undef),0, "",#[],none⟩) (CP:=jU P u u') (xs:= #[])
  (next:=fun a2 w2=>Leaves P fn a2.tmps (d6 X w0 N0 ν δ n m out) [] .returning w2) (Q:=fun _ _ _=>False)
  (fun {f vs w R R'} h hm=>CallsD.mono h fun e u2 w2 ⟨h1,h2⟩=>⟨h1,hm e w2 h2⟩) hs hR rfl (by simp) rfl rfl hrel1
  ⟨fun _ a2 w2 g2 D2 _ hs2=>by
   obtain ⟨v,h1,h2⟩:=pw hc hdom (hs2.eqv ht) hret
   exact ⟨v,h1,h2⟩,fun v hv=>by rw [hr] at hv;cases hv⟩
 injection hfv with e1 e2 e3
 injection e1 with e1
 subst e1;subst e2;subst e3
 have hun:u≠ .run:=by cases hv<;>simp
 refine leaves_cons hun (f:=hh) (args:= #[]++us) (by simp only [invoke];exact Mg hfh hnameh hbodyh _ w) ?_
 have hcall2:CallsD P hh (#[]++us) u w fun e u2 w'=>u2=u'∧(match e,w' with
    | .returned v,w''=>Leaves P fn (a.put none v).tmps (d6 X w0 N0 ν δ n m out) [] .returning w''
    | .panicked chain,w''=>False
    | .outgrown,_=>LetsOut (fun _ _ _=>False)):=by
  have:=hcall
  simp only [Array.append_empty] at this
  exact this.mono fun e u2 w2 ⟨h1,h2⟩=>⟨h1,by cases e<;>exact h2⟩
 refine hcall2.mono fun e u2 w2 ⟨h1,h2⟩=> ?_
 subst h1
 cases e with
 |returned rv=>
  simp only [Act.put] at h2
  have hset:settle u2= .returning:=by cases hv<;>rfl
  simp only [hset]
  exact h2
 |panicked chain=>exact h2.elim
 |outgrown=>obtain ⟨_,_,h⟩:=h2;exact h.elim
theorem ab2 (hm:P.follows .mixedOrders=true) (hI:jV X) {S:Side U} (hS:S.rcv=none) {R:Type} {C:Oracle U R} (hC:C.Tells (bW X)) {Cd:PV U→Oracle U R} (hCd: ∀v u u',RcvOK v u u'→(Cd v).Tells (iR X (jU P u u')))
  {f:FuncId} {fn:Func} (hf:P.funcs[f]? =some fn)
  (hname:(fn.name== "runtime.NumGoroutine")=false) (hbody:fn.body.isNone=false) (hnt:fn.ntmps=S.nt) (hlow:S.nt≤1000000) {args:List (PV U)} {boxes:List (Box U)} (hargs:args.length≤S.nt) (hboxes:boxes.length≤1000000)
  {ann:Nat→Option Ann} {fuel:Nat} {keep:Bool} {hand:List Bool} {κ:Out U→Option R} {x:R} (h:Ds V S C ann fuel Cd keep hand fn args boxes κ=some x): ∃out,κ out=some x∧bW X f args boxes out:=by
 obtain ⟨code,hcode⟩: ∃code,fn.body=some code:=by
  cases hb:fn.body with
  |none=>rw [hb] at hbody;cases hbody
  |some code=>exact ⟨code,rfl⟩
 unfold Ds fO at h
 rw [hcode] at h
 have hpin: ∀ {w:World} {vs:Array Value} {N0:aF} {ν:Nat→Nat} {δ:Nat→Option Nat} (hg:Given X w vs N0 ν δ args boxes),PinOK S (fK w N0 boxes.length args.length ν δ S.nt hlow hg.bnd X.gblk hg.glob):=by
  intro w vs N0 ν δ hg d _
  simp only [fK]
  rw [if_neg (by omega)]
 rcases ab3 (X:=X) hm hI hS hlow hC code h with ⟨e,τ,he,hk,hB⟩|⟨hh,caps,e,τ,hk,hB⟩
 ·have key: ∀ {out:Out U},(∀ (w:World) (vs:Array Value) (N0:aF) (ν:Nat→Nat) (δ:Nat→Option Nat) (hg:Given X w vs N0 ν δ args boxes),
    Lands X (fK w N0 boxes.length args.length ν δ S.nt hlow hg.bnd X.gblk hg.glob) [] e τ (bodyPost P fn (d6 X w N0 ν δ boxes.length args.length out)))→bW X f args boxes out:=by
   intro out hl
   refine ⟨⟨fn,hf,hname,hbody⟩,fun w vs N0 ν δ hg=>calls_of_wp hf hcode ?_⟩
   have hs:=yQ hg hargs hlow
   rw [hnt]
   exact hB _ (hpin hg) rfl _ w _ _ _ hs (hl w vs N0 ν δ hg)
  cases e with
  |exit id=>cases hk
  |normal=>exact absurd rfl he
  |ret=>
   obtain ⟨r,τ0,τ1,gp,hr,ht,hfin⟩:=fP hC _ hk (St.eqv.refl τ)
   cases r with
   |out o=>
    refine ⟨o,hfin,key fun w vs N0 ν δ hg a' w' g' D' hd hs=> ?_⟩
    obtain ⟨v,h1,h2⟩:=pw jQ hg.dom hs hr
    exact ⟨hd,v,h1,h2⟩
   |_=>cases hfin
  |panic v=>
   obtain ⟨r,τ0,τ1,gp,hr,ht,hfin⟩:=fP hC _ hk (St.eqv.refl τ)
   cases r with
   |out o=>
    refine ⟨o,hfin,key fun w vs N0 ν δ hg a' w' g' D' hd hs val hval=> ?_⟩
    exact ⟨hd,Cz jQ hg.dom hs hval hr⟩
   |_=>cases hfin
 ·have key: ∀ {out:Out U},(∀ (w:World) (vs:Array Value) (N0:aF) (ν:Nat→Nat) (δ:Nat→Option Nat) (hg:Given X w vs N0 ν δ args boxes) (us:Array Value) (c':Ctx),CtxOf c' w N0 boxes.length args.length ν δ→zd c' caps us→
    Lands X c' [{target:= .fn (.func hh) us,args:= #[]}] e τ (bodyPostD P fn (d6 X w N0 ν δ boxes.length args.length out)))→bW X f args boxes out:=by
   intro out hl
   refine ⟨⟨fn,hf,hname,hbody⟩,fun w vs N0 ν δ hg=>calls_of_wp_defers hf hcode ?_⟩
   have hs:=yQ hg hargs hlow
   rw [hnt]
   exact hB _ (hpin hg) rfl _ w _ _ _ hs rfl fun us c' hcx _ hct=>hl w vs N0 ν δ hg us c' (hcx _ _ _ _ _ _ jQ) hct
  have fin: ∀ {v:PV U} {u u':FrameMode},RcvOK v u u'→(gr (PV.idsL caps) fun _=>gZ [] none (.func hh [] caps) []).cps (Cd v) τ [] (fun| .done,σ',_=>(iD V keep hand fn.results.toList boxes.length).cps C σ' [] (Go.Proofs.YtapmagaejigpnaaGreatDoor.PI.fin κ)|_,_,_=>none)=some x→
    ∃ (out:Out U) (r:MR U) (τ0 τ1 τ2:St U) (gp gp':List Loc),κ out=some x∧(gr (PV.idsL caps) fun _=>gZ [] none (.func hh [] caps) []).Rel (iR X (jU P u u')) τ [] r τ0 gp∧r= .done∧τ0.eqv τ1∧(iD V keep hand fn.results.toList boxes.length).Rel (bW X) τ1 [] (.out out) τ2 gp':=by
   intro v u u' hv hk
   obtain ⟨r,τ0,τ1,gp,hr,ht,hk1⟩:=fP (hCd v u u' hv) _ hk (St.eqv.refl τ)
   cases r with
   |raise v=>cases hk1
   |out o=>cases hk1
   |done=>
    obtain ⟨r',τ2,τ3,gp',hr',ht',hk2⟩:=fP hC _ hk1 (St.eqv.refl τ1)
    cases r' with
    |out o=>exact ⟨o,.done,τ0,τ1,τ2,gp,gp',hk2,hr,rfl,ht,hr'⟩
    |_=>cases hk2
  cases e with
  |exit id=>cases hk
  |normal=>
   obtain ⟨out,r,τ0,τ1,τ2,gp,gp',h1,h2,h3,h4,h5⟩:=fin .nil hk
   refine ⟨out,h1,key fun w vs N0 ν δ hg us c' hcx hct a' w' g' D' hd hs=> ?_⟩
   simp only [bodyPostD,hd]
   exact BX hcx hg.dom .nil hct h2 h3 h4 h5 hs
  |ret=>
   obtain ⟨out,r,τ0,τ1,τ2,gp,gp',h1,h2,h3,h4,h5⟩:=fin .nil hk
   refine ⟨out,h1,key fun w vs N0 ν δ hg us c' hcx hct a' w' g' D' hd hs=> ?_⟩
   simp only [bodyPostD,hd]
   exact BX hcx hg.dom .nil hct h2 h3 h4 h5 hs
  |panic v=>
   simp only [kD] at hk
   split at hk
   case h_2=>cases hk
   rename_i t k n'
   obtain ⟨out,r,τ0,τ1,τ2,gp,gp',h1,h2,h3,h4,h5⟩:=fin (.err t k n') hk
   refine ⟨out,h1,key fun w vs N0 ν δ hg us c' hcx hct a' w' g' D' hd hs val hval=> ?_⟩
   simp only [bodyPostD,hd]
   cases hval with
   |iface _ u _ hu=>cases hu;exact BX hcx hg.dom (.err t k n') hct h2 h3 h4 h5 hs
end
end Go.Proofs.YtapmagaejigpnaaGreatDoor.PI
namespace Go.Proofs.YtapmagaejigpnaaGreatDoor
open Go PI
set_option linter.unusedVariables false
set_option maxRecDepth 100000
noncomputable section
noncomputable def sg:ET→TypeId
 | .C=>61
 | .T=>26
 | .B=>63
 | .I=>3
 | .F=>22
noncomputable def nP:ET→Nat
 | .C=>2
 | .T=>6
 | .B=>2
 | .I=>1
 | .F=>1
noncomputable def wP:ET→Nat
 | .C=>8
 | .T=>104
 | .B=>48
 | .I=>8
 | .F=>24
noncomputable def wX (e:ET):Value:=((Tryz.prog.info? (sg e)).bind (·.zero)).getD undef
noncomputable def Bh (e:ET):Bool:=match Tryz.prog.info? (sg e) with
 |some i=>i.zero.isSome&&(Nat.beq i.size (nP e)&&Nat.beq i.bytes (wP e))&&Nat.beq (wX e).cells.size (nP e)
 | .none=>false
theorem GS (e:ET):Bh e=true:=by cases e<;>kernel_rfl
theorem Pw: ∀t r,tU t=some r→Fw Tryz.prog sg t r=true:=by
 intro t r h
 unfold tU at h
 split at h<;>first|(injection h with h;subst h;kernel_rfl)|cases h
theorem Yr: ∀t r e,tU t=some r→r.keys=some e→e= .C:=by
 intro t r e h hk
 unfold tU at h
 split at h<;>first|(injection h with h;subst h;cases hk;done)|(injection h with h;subst h;injection hk with hk;exact hk.symm)|cases h
theorem aea: ∀e cs y,Ps e cs=some y→cs.length=nP e∧cs.all PV.isCell=true∧ ∀ (k:Nat) p,cs[k]? =some p→ ∃q,(cu e y)[k]? =some q∧p.less q:=by
 have hC: ∀ {p:PU} {l},p7 p=some l→ ∃o,p= .sl (U:=UU) ET.C l o:=by
  intro p l h;unfold p7 at h;split at h<;>first|(injection h with h;subst h;exact ⟨_,rfl⟩)|cases h
 have hT: ∀ {p:PU} {l},t8 p=some l→ ∃o,p= .sl (U:=UU) ET.T l o:=by
  intro p l h;unfold t8 at h;split at h<;>first|(injection h with h;subst h;exact ⟨_,rfl⟩)|cases h
 have hB: ∀ {p:PU} {l},Ac p=some l→ ∃o,p= .sl (U:=UU) ET.B l o:=by
  intro p l h;unfold Ac at h;split at h<;>first|(injection h with h;subst h;exact ⟨_,rfl⟩)|cases h
 intro e cs y h
 cases e
 ·have h:Fr cs=some y:=h
  unfold Fr at h
  split at h
  case h_2=>cases h
  injection h with h;subst h
  refine ⟨rfl,rfl,fun k p hp=> ?_⟩
  match k,hp with
  |0,hp=>exact ⟨_,rfl,.inl (Option.some.inj hp).symm⟩
  |1,hp=>exact ⟨_,rfl,.inl (Option.some.inj hp).symm⟩
  |k+2,hp=>simp at hp
 ·have h:Fv cs=some y:=h
  unfold Fv at h
  split at h
  case h_2=>cases h
  split at h
  case h_2=>cases h
  rename_i h1 h2 h3
  injection h with h;subst h
  obtain ⟨o1,rfl⟩:=hC h1;obtain ⟨o2,rfl⟩:=hT h2;obtain ⟨o3,rfl⟩:=hB h3
  refine ⟨rfl,rfl,fun k p hp=> ?_⟩
  match k,hp with
  |0,hp=>exact ⟨_,rfl,.inl (Option.some.inj hp).symm⟩
  |1,hp=>exact ⟨_,rfl,.inl (Option.some.inj hp).symm⟩
  |2,hp=>exact ⟨_,rfl,.inl (Option.some.inj hp).symm⟩
  |3,hp=>exact ⟨_,rfl,.inr ⟨_,_,_,(Option.some.inj hp).symm,rfl⟩⟩
  |4,hp=>exact ⟨_,rfl,.inr ⟨_,_,_,(Option.some.inj hp).symm,rfl⟩⟩
  |5,hp=>exact ⟨_,rfl,.inr ⟨_,_,_,(Option.some.inj hp).symm,rfl⟩⟩
  |k+6,hp=>simp at hp
 ·have h:Fq cs=some y:=h
  unfold Fq at h
  split at h
  case h_2=>cases h
  split at h
  case h_2=>cases h
  rename_i h1 h2
  injection h with h;subst h
  obtain ⟨o1,rfl⟩:=hC h1;obtain ⟨o2,rfl⟩:=hT h2
  refine ⟨rfl,rfl,fun k p hp=> ?_⟩
  match k,hp with
  |0,hp=>exact ⟨_,rfl,.inr ⟨_,_,_,(Option.some.inj hp).symm,rfl⟩⟩
  |1,hp=>exact ⟨_,rfl,.inr ⟨_,_,_,(Option.some.inj hp).symm,rfl⟩⟩
  |k+2,hp=>simp at hp
 ·have h:Ft cs=some y:=h
  unfold Ft at h
  split at h
  case h_2=>cases h
  injection h with h;subst h
  refine ⟨rfl,rfl,fun k p hp=> ?_⟩
  match k,hp with
  |0,hp=>exact ⟨_,rfl,.inl (Option.some.inj hp).symm⟩
  |k+1,hp=>simp at hp
 ·have h:Fs cs=some y:=h
  unfold Fs at h
  split at h
  case h_2=>cases h
  obtain ⟨o1,rfl⟩:=hC h
  refine ⟨rfl,rfl,fun k p hp=> ?_⟩
  match k,hp with
  |0,hp=>exact ⟨_,rfl,.inr ⟨_,_,_,(Option.some.inj hp).symm,rfl⟩⟩
  |k+1,hp=>simp at hp
theorem W7 (e:ET): ∃i,Tryz.prog.info? (sg e)=some i∧i.zero=some (wX e)∧i.size=nP e∧i.bytes=wP e:=by
 have h:=GS e
 unfold Bh at h
 split at h
 ·rename_i i hi
  simp only [Bool.and_eq_true] at h
  obtain ⟨⟨h1,h2,h3⟩,h4⟩:=h
  refine ⟨i,hi, ?_,by simpa using h2,by simpa using h3⟩
  unfold wX
  rw [hi]
  obtain ⟨z,hz⟩:=Option.isSome_iff_exists.1 h1
  simp [hz]
 ·cases h
noncomputable def LL (o:Obj):Link VV Tryz.prog where
 gblk:=[(0,o)]
 etid:=sg
 esize:=nP
 ebytes:=wP
 ezero:=wX
 einfo:=W7
 zsize:=fun e=>by
  have h:=GS e
  unfold Bh at h
  split at h
  ·simp only [Bool.and_eq_true] at h
   exact by simpa using h.2
  ·cases h
 epos:=fun e=>by cases e<;>decide
 broom:=fun e n h=>by
  have h':n≤1099511627776:=h
  cases e<;>simp only [wP,maxLen]<;>omega
 len:=fun e x=>by cases e<;>rfl
 small:=fun e=>by cases e<;>decide
 ecell':=fun e x=>by cases e<;>rfl
 toEl:=aea
 ty:=fun t r h=>Pv (Pw t r h)
 keyT:=fun t r e h hk=>by
  have he:=Yr t r e h hk
  subst he
  obtain ⟨fs,h1,h2,_,h4,h5⟩:=(Pv (Pw 61 _ rfl)).isInts rfl
  exact ⟨⟨fs,h1,h2,h4,h5⟩,fun x y=>⟨_,by simp only [VV,cu,PV.eqvI];rfl⟩⟩
theorem xA:Tryz.prog.follows .mixedOrders=true:=by kernel_rfl
theorem sw {A B:Out UU→Prop} (h: ∃out,A out∧B out): ∃out,B out∧A out:=by obtain ⟨o,a,b⟩:=h;exact ⟨o,b,a⟩
theorem UA {S:Type} {b:Bool} {x y:Option S} {v:S} (h:(bif b then x else y)=some v):x=some v∨y=some v:=by
 cases b
 ·exact .inr h
 ·exact .inl h
end
end Go.Proofs.YtapmagaejigpnaaGreatDoor
namespace Go.Proofs.YtapmagaejigpnaaGreatDoor
open Go PI
set_option linter.unusedVariables false
def U32 (s:Int):Prop:=0≤s∧s<4294967296
theorem U32.nat {s:Int} (h:U32 s): ∃n:Nat,n<4294967296∧s=n:=⟨s.toNat,by have:=h.1;have:=h.2;omega,by have:=h.1;omega⟩
theorem lJ {n:Nat} (h:n<4294967296):(BitVec.ofInt 32 (n:Int)).toNat=n:=by
 simp [BitVec.toNat_ofInt]
 omega
theorem jS (n:Nat) (h:n<4294967296):IntKind.wrap .u32 (n:Int)=n:=by
 simp [IntKind.wrap,IntKind.bits,IntKind.signed];omega
theorem ga (n:Nat) (h:n<18446744073709551616):IntKind.wrap .u64 (n:Int)=n:=by
 simp [IntKind.wrap,IntKind.bits,IntKind.signed];omega
theorem dq {n:Int} (h1: -9223372036854775808≤n) (h2:n<9223372036854775808):IntKind.wrap .i64 n=n:=by
 simp [IntKind.wrap,IntKind.bits,IntKind.signed];omega
theorem pZ {a b n:Nat} (h:a<2^n):a&&&b<2^n:=Nat.lt_of_le_of_lt Nat.and_le_left h
theorem jX {a b:Nat} (ha:a<4294967296) (hb:b<4294967296):aY .and .u32 (a:Int) (b:Int)=((a&&&b:Nat):Int):=by
 have h1:=lJ ha;have h2:=lJ hb
 simp only [aY]
 show IntKind.wrap .u32 (((BitVec.ofInt 32 (a:Int))&&&(BitVec.ofInt 32 (b:Int))).toNat:Int)=_
 rw [BitVec.toNat_and,h1,h2]
 exact jS _ (pZ (n:=32) ha)
theorem ua {a b:Nat} (ha:a<4294967296) (hb:b<4294967296):aY .or .u32 (a:Int) (b:Int)=((a|||b:Nat):Int):=by
 have h1:=lJ ha;have h2:=lJ hb
 simp only [aY]
 show IntKind.wrap .u32 (((BitVec.ofInt 32 (a:Int))|||(BitVec.ofInt 32 (b:Int))).toNat:Int)=_
 rw [BitVec.toNat_or,h1,h2]
 exact jS _ (Nat.or_lt_two_pow (n:=32) ha hb)
def dh (a b:Nat):Nat:=a^^^(a&&&b)
theorem jD (a b i:Nat):(dh a b).testBit i=(a.testBit i&& !b.testBit i):=by
 simp only [dh,Nat.testBit_xor,Nat.testBit_and]
 cases a.testBit i<;>cases b.testBit i<;>rfl
theorem s9 {a b n:Nat} (h:a<2^n):dh a b<2^n:=Nat.xor_lt_two_pow h (pZ h)
theorem Ad {a b:Nat} (ha:a<4294967296) (hb:b<4294967296):aY .andNot .u32 (a:Int) (b:Int)=((dh a b:Nat):Int):=by
 have h1:=lJ ha;have h2:=lJ hb
 simp only [aY]
 show IntKind.wrap .u32 (((BitVec.ofInt 32 (a:Int))&&& ~~~(BitVec.ofInt 32 (b:Int))).toNat:Int)=_
 have e:((BitVec.ofInt 32 (a:Int))&&& ~~~(BitVec.ofInt 32 (b:Int))).toNat=dh a b:=by
  apply Nat.eq_of_testBit_eq
  intro i
  rw [jD,BitVec.toNat_and,Nat.testBit_and,h1]
  by_cases hi:i<32
  ·have:(~~~(BitVec.ofInt 32 (b:Int))).toNat.testBit i= !b.testBit i:=by
    rw [←BitVec.getLsbD,BitVec.getLsbD_not]
    rw [BitVec.getLsbD,h2];simp [hi]
   rw [this]
  ·have:a.testBit i=false:=Nat.testBit_lt_two_pow (Nat.lt_of_lt_of_le ha (by exact Nat.pow_le_pow_right (n:=2) (by decide) (show 32≤i by omega)))
   simp [this]
 rw [e]
 exact jS _ (s9 (n:=32) ha)
theorem aK {α:Type} (p:Prop) [Decidable p] (x y:α):ab (decide p) x y=if p then x else y:=by
 by_cases h:p
 ·rw [decide_eq_true h,if_pos h,ae]
 ·rw [decide_eq_false h,if_neg h,ad]
theorem co {α:Type} (c:Bool) (x y:α):ab c x y=if c=true then x else y:=by
 cases c
 ·exact ad x y
 ·exact ae x y
abbrev Fu (k:Nat):Prop:=4294967296≤k
theorem ah {R S:Type} {k:Nat} (h:Fu k) (f:(R→Option S)→Option S) (g:R→Option S):aa k f g=f g:=UH (by have:4294967296≤k:=h;omega) f g
theorem aV {S:Type} {n m:Nat} (h:n+m≤1099511627776) (f:Unit→Option S):Option.bind (ax 1099511627776 n m) f=f ():=by
 have:n+m≤1099511627776:=h
 simp [ax,this]
theorem az {α:Type} {l p r:List α} {x:α} (h:l=p++x::r) (hl:l.length<4611686018427387904):
  decide ((p.length:Int)<(l.length:Int))=true∧al l (p.length:Int)=some x∧IntKind.wrap .i64 ((p.length:Int)+1)=((p++[x]).length:Int)∧l=(p++[x])++r:=by
 subst h
 rw [List.length_append,List.length_cons] at hl
 refine ⟨decide_eq_true (by rw [List.length_append,List.length_cons];omega), ?_, ?_,by simp⟩
 ·simp [al]
 ·rw [List.length_append,List.length_cons,List.length_nil]
  simp [IntKind.wrap,IntKind.bits,IntKind.signed];omega
theorem aA {α:Type} {l p:List α} (h:l=p++[]):decide ((p.length:Int)<(l.length:Int))=false:=by
 subst h
 exact decide_eq_false (by rw [List.append_nil];omega)
theorem ak {n m:Nat} (h:n<m): ∃q,m=q+1∧n≤q:=⟨m-1,by omega,by omega⟩
theorem gY {S:Type} (p:Prop) [Decidable p] (h:p) (f:Unit→Option S):Option.bind (bM p) f=f ():=by simp [bM,h]
theorem w9 {α:Type} (l:List α) (i:Nat):al l (i:Int)=l[i]? :=by simp [al]
end Go.Proofs.YtapmagaejigpnaaGreatDoor
namespace Go.Proofs.YtapmagaejigpnaaGreatDoor
open Go PI
set_option linter.unusedVariables false
set_option maxRecDepth 100000
noncomputable section
abbrev gb (S:Type):=Tm→Int→(Int→Option S)→Option S
def m7 {S:Type} (hd:gb S) (k:Nat) (ret:Int→Option S) (t:Tm) (most i7:Int) (rec1:Int→Int→Option S) (rec2:Int→Int→Option S) (v5'' v8:Int):Option S:=
 Option.bind (al t.sys i7) fun x5=>
 ab (decide ((v8:Int)<(x5.kids.length:Int))) (
 ab (decide ((v5'':Int)≤most)) (
  Option.bind (al t.sys i7) fun x6=>
  Option.bind (al x6.kids v8) fun x7=>
  hd (ac x7) (IntKind.wrap .i64 (most-v5'')) fun r8=>
   rec2 (IntKind.wrap .i64 (v5''+r8)) (IntKind.wrap .i64 (v8+1))) (
   rec1 v5'' (IntKind.wrap .i64 (i7+1)))) (
  rec1 v5'' (IntKind.wrap .i64 (i7+1)))
noncomputable def eX {S:Type} (hd:gb S) (k:Nat) (ret:Int→Option S) (rec1:Int→Int→Option S) (t:Tm) (most i7:Int):Nat→Int→Int→Option S
 |0=>fun _ _=> .none
 |m+1=>fun v5'' v8=>m7 hd k ret t most i7 rec1 (eX hd k ret rec1 t most i7 m) v5'' v8
def lG {S:Type} (hd:gb S) (k:Nat) (ret:Int→Option S) (t:Tm) (most:Int) (J2:Int→Int→Int→Option S) (rec1:Int→Int→Option S) (v5' i7:Int):Option S:=
 ab (decide ((i7:Int)<(t.sys.length:Int))) (
 ab (decide ((v5':Int)≤most)) (
  Option.bind (al t.sys i7) fun x3=>
  ab (decide (((x3.face.length:Int):Int)>most)) (
  ret (IntKind.wrap .i64 (most+1))) (
  Option.bind (al t.sys i7) fun x4=>
    J2 i7 (IntKind.wrap .i64 ((IntKind.wrap .i64 (v5'+1))+(x4.face.length:Int))) 0)) (
  ret v5')) (
 ret v5')
noncomputable def eK {S:Type} (hd:gb S) (k:Nat) (ret:Int→Option S) (t:Tm) (most:Int):Nat→Int→Int→Option S
 |0=>fun _ _=> .none
 |m+1=>fun v5' i7=>lG hd k ret t most (fun i7 v5'' v8=>eX hd k ret (eK hd k ret t most m) t most i7 k v5'' v8) (eK hd k ret t most m) v5' i7
def lE {S:Type} (hd:gb S) (k:Nat) (ret:Int→Option S) (t:Tm) (most:Int) (J1:Int→Int→Option S) (rec0:Int→Int→Option S) (v5 i6:Int):Option S:=
 ab (decide ((i6:Int)<(t.kids.length:Int))) (
 ab (decide ((v5:Int)≤most)) (
  Option.bind (al t.kids i6) fun x1=>
  hd (ac x1) (IntKind.wrap .i64 (most-v5)) fun r2=>
   rec0 (IntKind.wrap .i64 (v5+r2)) (IntKind.wrap .i64 (i6+1))) (
   J1 v5 0)) (
  J1 v5 0)
noncomputable def gy {S:Type} (hd:gb S) (k:Nat) (ret:Int→Option S) (t:Tm) (most:Int):Nat→Int→Int→Option S
 |0=>fun _ _=> .none
 |m+1=>fun v5 i6=>lE hd k ret t most (fun v5' i7=>eK hd k ret t most k v5' i7) (gy hd k ret t most m) v5 i6
def yU {S:Type} (hd:gb S) (k:Nat) (ret:Int→Option S) (J0:Int→Int→Option S) (t:Tm) (most:Int):Option S:=
 ab (decide (((t.r.length:Int):Int)>most)) (
 ret (IntKind.wrap .i64 (most+1))) (
 ab (decide (((t.name.size:Int):Int)>most)) (
  ret (IntKind.wrap .i64 (most+1))) (
   J0 (IntKind.wrap .i64 ((IntKind.wrap .i64 (1+(t.r.length:Int)))+(t.name.size:Int))) 0))
noncomputable def cF {S:Type}:Nat→Tm→Int→(Int→Option S)→Option S
 |0=>fun _ _ _=> .none
 |k+1=>fun t most ret=>yU (cF k) k ret (fun v5 i6=>gy (cF k) k ret t most k v5 i6) t most
def Ev {S:Type} (k:Nat) (ret:Bool→Option S) (a b:Tm) (sys:List (Br Tm)):Option S:=
 cF k (ac a) 150 fun r1=>
 ab (decide ((r1:Int)>150)) (
 ret true) (
 cF k (ac b) 150 fun r2=>
 ab (decide ((r2:Int)>150)) (
  ret true) (
  cF k (Tm.mk 0 0 ByteArray.empty [] [] sys) 150 fun r3=>
  ret (decide ((r3:Int)>150))))
noncomputable def j7 {S:Type} (k:Nat) (a b:Tm) (sys:List (Br Tm)) (ret:Bool→Option S):Option S:=Ev k ret a b sys
def Pe {S:Type} (k:Nat) (ret:Int×Int→Option S) (kind kid:Int):Option S:=
 ab (kind==4) (
 ab (kid==1) (
  ret (1,0)) (
  ret (0,0))) (
 ab (kind==7) (
  ab (kid==1) (
  ret (1,0)) (
  ret (0,0))) (
  ab (kind==5) (
  ab (kid==0) (
   ret (1,0)) (
   ret (0,0))) (
  ab (kind==22) (
   ab (kid==0) (
   ret (1,0)) (
   ret (0,0))) (
   ab (kind==27) (
   ab (kid==0) (
    ret (1,0)) (
    ret (0,0))) (
   ab (kind==11) (
    ab (kid==0) (
    ret (0,1)) (
    ret (0,0))) (
    ab (kind==12) (
    ab (kid==0) (
     ret (0,1)) (
     ret (0,0))) (
    ab (kind==14) (
     ab (kid==0) (
     ret (0,1)) (
     ret (0,0))) (
     ret (0,0)))))))))
noncomputable def kf {S:Type} (k:Nat) (kind kid:Int) (ret:Int×Int→Option S):Option S:=Pe k ret kind kid
abbrev dm (S:Type):=Tm→Int→(Bool→Option S)→Option S
noncomputable def Fl {S:Type} (hd:dm S) (k:Nat) (ret:Bool→Option S) (a_k:Tm) (p p' c0:Int):Option S:=
 hd (ac a_k) (IntKind.wrap .i64 (c0-1)) fun r1=>
 ret r1
noncomputable def rM {S:Type} (hd:dm S) (k:Nat) (a_k:Tm) (p p' c0:Int) (ret:Bool→Option S):Option S:=Fl hd k ret a_k p p' c0
def vl {S:Type} (hd:dm S) (k:Nat) (ret:Bool→Option S) (c0:Int) (t:Tm) (v42:Int) (x4:(Br Tm)) (more9:Int) (rec1:Int→Int→Option S) (rec2:Int→Option S) (v49:Int):Option S:=
 ab (decide ((v49:Int)<(x4.kids.length:Int))) (
 Option.bind (al x4.kids v49) fun x5=>
 aa k (rM hd k (ac x5) 0 more9 c0) fun r6=>
 ab (!r6) (
  ret false) (
   rec2 (IntKind.wrap .i64 (v49+1)))) (
  rec1 (IntKind.wrap .i64 (v42+1)) more9)
noncomputable def kV {S:Type} (hd:dm S) (k:Nat) (ret:Bool→Option S) (rec1:Int→Int→Option S) (c0:Int) (t:Tm) (v42:Int) (x4:(Br Tm)) (more9:Int):Nat→Int→Option S
 |0=>fun _=> .none
 |m+1=>fun v49=>vl hd k ret c0 t v42 x4 more9 rec1 (kV hd k ret rec1 c0 t v42 x4 more9 m) v49
def qP {S:Type} (hd:dm S) (k:Nat) (ret:Bool→Option S) (c0:Int) (t:Tm) (J2:Int→(Br Tm)→Int→Int→Option S) (rec1:Int→Int→Option S) (v42 more9:Int):Option S:=
 ab (decide ((v42:Int)<(t.sys.length:Int))) (
 Option.bind (al t.sys v42) fun x4=>
  J2 v42 x4 more9 0) (
 ret true)
noncomputable def gH {S:Type} (hd:dm S) (k:Nat) (ret:Bool→Option S) (c0:Int) (t:Tm):Nat→Int→Int→Option S
 |0=>fun _ _=> .none
 |m+1=>fun v42 more9=>qP hd k ret c0 t (fun v42 x4 more9 v49=>kV hd k ret (gH hd k ret c0 t m) c0 t v42 x4 more9 k v49) (gH hd k ret c0 t m) v42 more9
def qO {S:Type} (hd:dm S) (k:Nat) (ret:Bool→Option S) (c0:Int) (t:Tm) (J1:Int→Int→Option S) (rec0:Int→Option S) (v17:Int):Option S:=
 ab (decide ((v17:Int)<(t.kids.length:Int))) (
 Option.bind (al t.kids v17) fun x1=>
 aa k (kf k t.kind v17) fun r2=>
 aa k (rM hd k (ac x1) r2.1 r2.2 c0) fun r3=>
 ab (!r3) (
  ret false) (
   rec0 (IntKind.wrap .i64 (v17+1)))) (
 ab (t.kind==15) (
   J1 0 1) (
   J1 0 0))
noncomputable def oM {S:Type} (hd:dm S) (k:Nat) (ret:Bool→Option S) (c0:Int) (t:Tm):Nat→Int→Option S
 |0=>fun _=> .none
 |m+1=>fun v17=>qO hd k ret c0 t (fun v42 more9=>gH hd k ret c0 t k v42 more9) (oM hd k ret c0 t m) v17
noncomputable def Fi {S:Type} (hd:dm S) (k:Nat) (ret:Bool→Option S) (J0:Int→Option S) (t:Tm) (c0:Int):Option S:=
 J0 0
noncomputable def A0 {S:Type} (hd:dm S) (k:Nat) (t:Tm) (c0:Int) (ret:Bool→Option S):Option S:=Fi hd k ret (fun v17=>oM hd k ret c0 t k v17) t c0
def Pk {S:Type} (hd:dm S) (k:Nat) (ret:Bool→Option S) (t:Tm) (left:Int):Option S:=
 ab (decide ((left:Int)>0)) (
 aa k (A0 hd k (ac t) left) fun r1=>
 ret r1) (
 ret false)
noncomputable def h_ {S:Type}:Nat→Tm→Int→(Bool→Option S)→Option S
 |0=>fun _ _ _=> .none
 |k+1=>fun t left ret=>Pk (h_ k) k ret t left
abbrev dl (S:Type):=Tm→Int→(Bool×Int→Option S)→Option S
def Fp {S:Type} (hd:dl S) (k:Nat) (ret:Bool×Int→Option S) (t:Tm) (c0:Int):Option S:=
 ab (decide ((IntKind.wrap .i64 (c0-1):Int)≥0)) (
 hd (ac t) (IntKind.wrap .i64 (c0-1)) fun r1=>
 ret (r1.1,r1.2)) (
 ret (false,IntKind.wrap .i64 (c0-1)))
noncomputable def nF {S:Type} (hd:dl S) (k:Nat) (t:Tm) (c0:Int) (ret:Bool×Int→Option S):Option S:=Fp hd k ret t c0
noncomputable def Fo {S:Type} (hd:dl S) (k:Nat) (ret:Bool×Int→Option S) (a_k:Tm) (p p' c1:Int):Option S:=
 aa k (nF hd k (ac a_k) c1) fun r1=>
 ret (r1.1,r1.2)
noncomputable def rO {S:Type} (hd:dl S) (k:Nat) (a_k:Tm) (p p' c1:Int) (ret:Bool×Int→Option S):Option S:=Fo hd k ret a_k p p' c1
def vj {S:Type} (hd:dl S) (k:Nat) (ret:Bool×Int→Option S) (t:Tm) (v42:Int) (x4:(Br Tm)) (more9:Int) (rec1:Int→Int→Int→Option S) (rec2:Int→Int→Option S) (e1_0'' v49:Int):Option S:=
 ab (decide ((v49:Int)<(x4.kids.length:Int))) (
 Option.bind (al x4.kids v49) fun x5=>
 aa k (rO hd k (ac x5) 0 more9 e1_0'') fun r6=>
 ab (!r6.1) (
  ret (false,r6.2)) (
   rec2 r6.2 (IntKind.wrap .i64 (v49+1)))) (
  rec1 e1_0'' (IntKind.wrap .i64 (v42+1)) more9)
noncomputable def gF {S:Type} (hd:dl S) (k:Nat) (ret:Bool×Int→Option S) (rec1:Int→Int→Int→Option S) (t:Tm) (v42:Int) (x4:(Br Tm)) (more9:Int):Nat→Int→Int→Option S
 |0=>fun _ _=> .none
 |m+1=>fun e1_0'' v49=>vj hd k ret t v42 x4 more9 rec1 (gF hd k ret rec1 t v42 x4 more9 m) e1_0'' v49
def qL {S:Type} (hd:dl S) (k:Nat) (ret:Bool×Int→Option S) (t:Tm) (J2:Int→(Br Tm)→Int→Int→Int→Option S) (rec1:Int→Int→Int→Option S) (e1_0' v42 more9:Int):Option S:=
 ab (decide ((v42:Int)<(t.sys.length:Int))) (
 Option.bind (al t.sys v42) fun x4=>
  J2 v42 x4 more9 e1_0' 0) (
 ret (true,e1_0'))
noncomputable def fz {S:Type} (hd:dl S) (k:Nat) (ret:Bool×Int→Option S) (t:Tm):Nat→Int→Int→Int→Option S
 |0=>fun _ _ _=> .none
 |m+1=>fun e1_0' v42 more9=>qL hd k ret t (fun v42 x4 more9 e1_0'' v49=>gF hd k ret (fz hd k ret t m) t v42 x4 more9 k e1_0'' v49) (fz hd k ret t m) e1_0' v42 more9
def qK {S:Type} (hd:dl S) (k:Nat) (ret:Bool×Int→Option S) (t:Tm) (J1:Int→Int→Int→Option S) (rec0:Int→Int→Option S) (e1_0 v17:Int):Option S:=
 ab (decide ((v17:Int)<(t.kids.length:Int))) (
 Option.bind (al t.kids v17) fun x1=>
 aa k (kf k t.kind v17) fun r2=>
 aa k (rO hd k (ac x1) r2.1 r2.2 e1_0) fun r3=>
 ab (!r3.1) (
  ret (false,r3.2)) (
   rec0 r3.2 (IntKind.wrap .i64 (v17+1)))) (
 ab (t.kind==15) (
   J1 e1_0 0 1) (
   J1 e1_0 0 0))
noncomputable def mt {S:Type} (hd:dl S) (k:Nat) (ret:Bool×Int→Option S) (t:Tm):Nat→Int→Int→Option S
 |0=>fun _ _=> .none
 |m+1=>fun e1_0 v17=>qK hd k ret t (fun e1_0' v42 more9=>fz hd k ret t k e1_0' v42 more9) (mt hd k ret t m) e1_0 v17
noncomputable def Fg {S:Type} (hd:dl S) (k:Nat) (ret:Bool×Int→Option S) (J0:Int→Int→Option S) (t:Tm) (c1:Int):Option S:=
 J0 c1 0
noncomputable def eT {S:Type}:Nat→Tm→Int→(Bool×Int→Option S)→Option S
 |0=>fun _ _ _=> .none
 |k+1=>fun t c1 ret=>Fg (eT k) k ret (fun e1_0 v17=>mt (eT k) k ret t k e1_0 v17) t c1
noncomputable def Pm {S:Type} (k:Nat) (ret:Bool→Option S) (t:Tm) (most:Int):Option S:=
 aa k (nF (eT k) k (ac t) most) fun r1=>
 ret r1.1
noncomputable def wF {S:Type} (k:Nat) (t:Tm) (most:Int) (ret:Bool→Option S):Option S:=Pm k ret t most
def Pl {S:Type} (k:Nat) (ret:Int→Option S) (t:Tm):Option S:=
 h_ k (ac t) 200 fun r1=>
 ab (!r1) (
 ret 62) (
 aa k (wF k (ac t) 20000) fun r2=>
 ab (!r2) (
  ret 221) (
  ret 0))
noncomputable def rN {S:Type} (k:Nat) (t:Tm) (ret:Int→Option S):Option S:=Pl k ret t
def Pg {S:Type} (k:Nat) (ret:Int→Option S) (kind:Int):Option S:=
 ab (kind==1) (
 ret 0) (
 ab (kind==2) (
  ret 0) (
  ab (kind==3) (
  ret 0) (
  ab (kind==19) (
   ret 0) (
   ab (kind==20) (
   ret 0) (
   ab (kind==24) (
    ret 0) (
    ab (kind==25) (
    ret 0) (
    ab (kind==21) (
     ret 0) (
     ab (kind==5) (
     ret 1) (
     ab (kind==9) (
      ret 1) (
      ab (kind==10) (
      ret 1) (
      ab (kind==23) (
       ret 1) (
       ab (kind==12) (
       ret 1) (
       ab (kind==16) (
        ret 1) (
        ab (kind==17) (
        ret 1) (
        ab (kind==18) (
         ret 1) (
         ab (kind==26) (
         ret 1) (
         ab (kind==4) (
          ret 2) (
          ab (kind==7) (
          ret 2) (
          ab (kind==6) (
           ret 2) (
           ab (kind==8) (
           ret 2) (
           ab (kind==14) (
            ret 2) (
            ab (kind==15) (
            ret 2) (
            ab (kind==28) (
             ret 2) (
             ab (kind==11) (
             ret 3) (
             ab (kind==13) (
              ret 3) (
              ab (kind==22) (
              ret 4) (
              ab (kind==27) (
               ret 5) (
               ret (-1)))))))))))))))))))))))))))))
noncomputable def wC {S:Type} (k:Nat) (kind:Int) (ret:Int→Option S):Option S:=Pg k ret kind
def Ph {S:Type} (k:Nat) (ret:Int→Option S) (kind:Int):Option S:=
 ab (kind==15) (
 ret 1) (
 ab (kind==17) (
  ret 1) (
  ab (kind==18) (
  ret 1) (
  ab (kind==16) (
   ret 2) (
   ret 0))))
noncomputable def kh {S:Type} (k:Nat) (kind:Int) (ret:Int→Option S):Option S:=Ph k ret kind
def Ah {S:Type} (k:Nat) (ret:Bool→Option S) (s:ByteArray) (v8:Int) (x1:UInt8) (rec0:Int→Option S) (letter5:Bool):Option S:=
 ab (!letter5) (
 ab (v8==0) (
  ret false) (
  ab (decide (((x1.toNat:Int):Int)<48)) (
  ret false) (
  ab (decide (((x1.toNat:Int):Int)>57)) (
   ret false) (
     rec0 (IntKind.wrap .i64 (v8+1)))))) (
  rec0 (IntKind.wrap .i64 (v8+1)))
noncomputable def xv {S:Type} (k:Nat) (ret:Bool→Option S) (rec0:Int→Option S) (s:ByteArray) (v8:Int) (x1:UInt8):Nat→Bool→Option S
 |0=>fun _=> .none
 |_+1=>fun letter5=>Ah k ret s v8 x1 rec0 letter5
def qQ {S:Type} (k:Nat) (ret:Bool→Option S) (s:ByteArray) (J1:Int→UInt8→Bool→Option S) (rec0:Int→Option S) (v8:Int):Option S:=
 ab (decide ((v8:Int)<(s.size:Int))) (
 Option.bind (al s.data.toList v8) fun x1=>
 ab (decide (((x1.toNat:Int):Int)≥97)) (
  ab (decide (((x1.toNat:Int):Int)≤122)) (
    J1 v8 x1 true) (
  ab (decide (((x1.toNat:Int):Int)≥65)) (
   ab (decide (((x1.toNat:Int):Int)≤90)) (
      J1 v8 x1 true) (
      J1 v8 x1 ((x1.toNat:Int)==95))) (
     J1 v8 x1 ((x1.toNat:Int)==95)))) (
  ab (decide (((x1.toNat:Int):Int)≥65)) (
  ab (decide (((x1.toNat:Int):Int)≤90)) (
     J1 v8 x1 true) (
     J1 v8 x1 ((x1.toNat:Int)==95))) (
    J1 v8 x1 ((x1.toNat:Int)==95)))) (
 ret (!(s==ByteArray.empty)))
noncomputable def mw {S:Type} (k:Nat) (ret:Bool→Option S) (s:ByteArray):Nat→Int→Option S
 |0=>fun _=> .none
 |m+1=>fun v8=>qQ k ret s (fun v8 x1 letter5=>xv k ret (mw k ret s m) s v8 x1 k letter5) (mw k ret s m) v8
noncomputable def Fj {S:Type} (k:Nat) (ret:Bool→Option S) (J0:Int→Option S) (s:ByteArray):Option S:=
 J0 0
noncomputable def wE {S:Type} (k:Nat) (s:ByteArray) (ret:Bool→Option S):Option S:=Fj k ret (fun v8=>mw k ret s k v8) s
noncomputable def Ov {S:Type} (k:Nat) (ret:Bool→Option S) (s:Int):Option S:=
 ret ((aY .andNot .u32 s 16777215)==0)
noncomputable def nr {S:Type} (k:Nat) (s:Int) (ret:Bool→Option S):Option S:=Ov k ret s
def NK {S:Type} (k:Nat) (ret:Bool→Option S) (c:Cl):Option S:=
 aa k (nr k c.pos) fun r1=>
 ab (r1) (
 aa k (nr k c.neg) fun r2=>
 ret r2) (
 ret false)
noncomputable def qY {S:Type} (k:Nat) (c:Cl) (ret:Bool→Option S):Option S:=NK k ret c
noncomputable def NJ {S:Type} (k:Nat) (ret:Cl→Option S) (a b:Cl):Option S:=
 ret (Cl.mk (aY .or .u32 a.pos b.pos) (aY .or .u32 a.neg b.neg))
noncomputable def nh {S:Type} (k:Nat) (a b:Cl) (ret:Cl→Option S):Option S:=NJ k ret a b
noncomputable def NE {S:Type} (k:Nat) (ret:Bool→Option S) (a b:Cl):Option S:=
 aa k (nh k a b) fun r1=>
 ret ((r1.pos==a.pos)&&((r1.neg==a.neg)&&true))
noncomputable def vB {S:Type} (k:Nat) (a b:Cl) (ret:Bool→Option S):Option S:=NE k ret a b
def NH {S:Type} (k:Nat) (ret:Bool→Option S) (d c0:Cl):Option S:=
 ab (!((c0.pos==d.pos)&&((c0.neg==d.neg)&&true))) (
 aa k (vB k c0 d) fun r1=>
 ret r1) (
 ret false)
noncomputable def vD {S:Type} (k:Nat) (d c0:Cl) (ret:Bool→Option S):Option S:=NH k ret d c0
def vf {S:Type} (k:Nat) (ret:Int→Option S) (c0:Cl) (s:List Cl) (rec0:Int→Option S) (v8:Int):Option S:=
 ab (decide ((v8:Int)<(s.length:Int))) (
 Option.bind (al s v8) fun x1=>
 aa k (vD k x1 c0) fun r2=>
 ab (r2) (
  ret v8) (
   rec0 (IntKind.wrap .i64 (v8+1)))) (
 ret (-1))
noncomputable def oI {S:Type} (k:Nat) (ret:Int→Option S) (c0:Cl) (s:List Cl):Nat→Int→Option S
 |0=>fun _=> .none
 |m+1=>fun v8=>vf k ret c0 s (oI k ret c0 s m) v8
noncomputable def Fb {S:Type} (k:Nat) (ret:Int→Option S) (J0:Int→Option S) (s:List Cl) (c0:Cl):Option S:=
 J0 0
noncomputable def AY {S:Type} (k:Nat) (s:List Cl) (c0:Cl) (ret:Int→Option S):Option S:=Fb k ret (fun v8=>oI k ret c0 s k v8) s c0
noncomputable def Pc {S:Type} (k:Nat) (ret:Bool→Option S) (s:List Cl) (c0:Cl):Option S:=
 aa k (AY k s c0) fun r1=>
 ret (decide ((r1:Int)≥0))
noncomputable def AW {S:Type} (k:Nat) (s:List Cl) (c0:Cl) (ret:Bool→Option S):Option S:=Pc k ret s c0
noncomputable def NG {S:Type} (k:Nat) (ret:Bool→Option S) (c:Cl) (c0:List Cl):Option S:=
 aa k (AW k c0 c) fun r1=>
 ret r1
noncomputable def vC {S:Type} (k:Nat) (c:Cl) (c0:List Cl) (ret:Bool→Option S):Option S:=NG k ret c c0
def uc {S:Type} (k:Nat) (ret:List Cl×Int→Option S) (b5_0:List Cl) (rec1:Int→(List Cl)→Option S) (v36:Int) (kept9:List Cl):Option S:=
 ab (decide ((v36:Int)<(b5_0.length:Int))) (
 Option.bind (al b5_0 v36) fun x4=>
 aa k (vC k x4 b5_0) fun r5=>
 ab (!r5) (
  Option.bind (ax 1099511627776 kept9.length [x4].length) fun x6=>
   rec1 (IntKind.wrap .i64 (v36+1)) (kept9++[x4])) (
   rec1 (IntKind.wrap .i64 (v36+1)) kept9)) (
 ab (decide (((kept9.length:Int):Int)>64)) (
  ret (([]:List Cl),3)) (
  ret (sortCl kept9,0)))
noncomputable def mb {S:Type} (k:Nat) (ret:List Cl×Int→Option S) (b5_0:List Cl):Nat→Int→(List Cl)→Option S
 |0=>fun _ _=> .none
 |m+1=>fun v36 kept9=>uc k ret b5_0 (mb k ret b5_0 m) v36 kept9
def p9 {S:Type} (k:Nat) (ret:List Cl×Int→Option S) (l:List Cl) (J1:(List Cl)→Int→(List Cl)→Option S) (rec0:(List (Cl×Bool))→(List Cl)→Int→Option S) (b12_0:List (Cl×Bool)) (b5_0:List Cl) (v15:Int):Option S:=
 ab (decide ((v15:Int)<(l.length:Int))) (
 Option.bind (al l v15) fun x1=>
 aa k (qY k x1) fun r2=>
 ab (!r2) (
  ret (([]:List Cl),2)) (
  ab (!((dy VV ET.C b12_0 x1).getD false)) (
  Option.bind (ax 1099511627776 b5_0.length [x1].length) fun x3=>
    rec0 (eZ VV ET.C b12_0 x1 true) (b5_0++[x1]) (IntKind.wrap .i64 (v15+1))) (
    rec0 b12_0 b5_0 (IntKind.wrap .i64 (v15+1))))) (
  J1 b5_0 0 ([]:List Cl))
noncomputable def nV {S:Type} (k:Nat) (ret:List Cl×Int→Option S) (l:List Cl):Nat→(List (Cl×Bool))→(List Cl)→Int→Option S
 |0=>fun _ _ _=> .none
 |m+1=>fun b12_0 b5_0 v15=>p9 k ret l (fun b5_0 v36 kept9=>mb k ret b5_0 k v36 kept9) (nV k ret l m) b12_0 b5_0 v15
noncomputable def D6 {S:Type} (k:Nat) (ret:List Cl×Int→Option S) (J0:(List (Cl×Bool))→(List Cl)→Int→Option S) (l:List Cl):Option S:=
 J0 ([]:List (Cl×Bool)) ([]:List Cl) 0
noncomputable def fQ {S:Type} (k:Nat) (l:List Cl) (ret:List Cl×Int→Option S):Option S:=D6 k ret (fun b12_0 b5_0 v15=>nV k ret l k b12_0 b5_0 v15) l
def ve {S:Type} (k:Nat) (ret:Bool→Option S) (s1 s2:List Cl) (rec0:Int→Option S) (v13:Int):Option S:=
 ab (decide ((v13:Int)<(s1.length:Int))) (
 Option.bind (al s1 v13) fun x1=>
 Option.bind (al s2 v13) fun x2=>
 ab (!((x1.pos==x2.pos)&&((x1.neg==x2.neg)&&true))) (
  ret false) (
   rec0 (IntKind.wrap .i64 (v13+1)))) (
 ret true)
noncomputable def oH {S:Type} (k:Nat) (ret:Bool→Option S) (s1 s2:List Cl):Nat→Int→Option S
 |0=>fun _=> .none
 |m+1=>fun v13=>ve k ret s1 s2 (oH k ret s1 s2 m) v13
def Fa {S:Type} (k:Nat) (ret:Bool→Option S) (J0:Int→Option S) (s1 s2:List Cl):Option S:=
 ab (!((s1.length:Int)==(s2.length:Int))) (
 ret false) (
  J0 0)
noncomputable def wB {S:Type} (k:Nat) (s1 s2:List Cl) (ret:Bool→Option S):Option S:=Fa k ret (fun v13=>oH k ret s1 s2 k v13) s1 s2
def Oe {S:Type} (k:Nat) (ret:Bool→Option S) (f:List Cl):Option S:=
 aa k (fQ k f) fun r1=>
 ab (r1.2==0) (
 aa k (wB k r1.1 f) fun r2=>
 ret r2) (
 ret false)
noncomputable def gk {S:Type} (k:Nat) (f:List Cl) (ret:Bool→Option S):Option S:=Oe k ret f
def Oz {S:Type} (k:Nat) (ret:Bool→Option S) (i:Int):Option S:=
 ab (decide ((i:Int)≥0)) (
 ret (decide ((i:Int)<24))) (
 ret false)
noncomputable def lO {S:Type} (k:Nat) (i:Int) (ret:Bool→Option S):Option S:=Oz k ret i
def Ox {S:Type} (k:Nat) (ret:Int→Option S) (s i:Int):Option S:=
 aa k (lO k i) fun r1=>
 ab (!r1) (
 ret (aY .and .u32 s 16777215)) (
 Option.bind (bM (0≤(IntKind.wrap .u64 i))) fun x2=>
 ret (aY .andNot .u32 (aY .and .u32 s 16777215) (IntKind.wrap .u32 (1*2^min (Int.toNat (IntKind.wrap .u64 i)) 32))))
noncomputable def jb {S:Type} (k:Nat) (s i:Int) (ret:Int→Option S):Option S:=Ox k ret s i
def ut {S:Type} (k:Nat) (ret:Int→Option S) (f:List Cl) (rec0:Int→Int→Option S) (s3 v8:Int):Option S:=
 ab (decide ((v8:Int)<(f.length:Int))) (
 Option.bind (al f v8) fun x1=>
  rec0 (aY .or .u32 s3 (aY .or .u32 x1.pos x1.neg)) (IntKind.wrap .i64 (v8+1))) (
 aa k (jb k s3 (-1)) fun r2=>
 ret r2)
noncomputable def n5 {S:Type} (k:Nat) (ret:Int→Option S) (f:List Cl):Nat→Int→Int→Option S
 |0=>fun _ _=> .none
 |m+1=>fun s3 v8=>ut k ret f (n5 k ret f m) s3 v8
noncomputable def Em {S:Type} (k:Nat) (ret:Int→Option S) (J0:Int→Int→Option S) (f:List Cl):Option S:=
 J0 0 0
noncomputable def nk {S:Type} (k:Nat) (f:List Cl) (ret:Int→Option S):Option S:=Em k ret (fun s3 v8=>n5 k ret f k s3 v8) f
def Pn {S:Type} (k:Nat) (ret:Bool→Option S) (f:List Cl) (dims:Int):Option S:=
 ab (decide ((dims:Int)≥24)) (
 ret true) (
 aa k (nk k f) fun r1=>
 Option.bind (bM (0≤(IntKind.wrap .u64 dims))) fun x2=>
 ret ((Int.fdiv r1 (2^min (Int.toNat (IntKind.wrap .u64 dims)) 32))==0))
noncomputable def kj {S:Type} (k:Nat) (f:List Cl) (dims:Int) (ret:Bool→Option S):Option S:=Pn k ret f dims
noncomputable def NF {S:Type} (k:Nat) (ret:Bool→Option S) (c:Cl):Option S:=
 ret (!((aY .and .u32 c.pos c.neg)==0))
noncomputable def qX {S:Type} (k:Nat) (c:Cl) (ret:Bool→Option S):Option S:=NF k ret c
def vg {S:Type} (k:Nat) (ret:Int→Option S) (s:List Cl) (rec0:Int→Option S) (v8:Int):Option S:=
 ab (decide ((v8:Int)<(s.length:Int))) (
 Option.bind (al s v8) fun x1=>
 aa k (qX k x1) fun r2=>
 ab (r2) (
  ret v8) (
   rec0 (IntKind.wrap .i64 (v8+1)))) (
 ret (-1))
noncomputable def oJ {S:Type} (k:Nat) (ret:Int→Option S) (s:List Cl):Nat→Int→Option S
 |0=>fun _=> .none
 |m+1=>fun v8=>vg k ret s (oJ k ret s m) v8
noncomputable def Fc {S:Type} (k:Nat) (ret:Int→Option S) (J0:Int→Option S) (s:List Cl):Option S:=
 J0 0
noncomputable def AZ {S:Type} (k:Nat) (s:List Cl) (ret:Int→Option S):Option S:=Fc k ret (fun v8=>oJ k ret s k v8) s
noncomputable def Pd {S:Type} (k:Nat) (ret:Bool→Option S) (s:List Cl):Option S:=
 aa k (AZ k s) fun r1=>
 ret (decide ((r1:Int)≥0))
noncomputable def AX {S:Type} (k:Nat) (s:List Cl) (ret:Bool→Option S):Option S:=Pd k ret s
def NZ {S:Type} (k:Nat) (ret:Bool→Option S) (f:List Cl):Option S:=
 aa k (gk k f) fun r1=>
 ab (r1) (
 aa k (AX k f) fun r2=>
 ret (!r2)) (
 ret false)
noncomputable def j5 {S:Type} (k:Nat) (f:List Cl) (ret:Bool→Option S):Option S:=NZ k ret f
def vm {S:Type} (k:Nat) (ret:Bool→Option S) (t:Tm) (dims:Int) (rec1:Int→Option S) (v109:Int):Option S:=
 ab (decide ((v109:Int)<(t.sys.length:Int))) (
 Option.bind (al t.sys v109) fun x12=>
 aa k (kh k t.kind) fun r13=>
 ab (!((x12.kids.length:Int)==r13)) (
  ret false) (
  aa k (j5 k x12.face) fun r14=>
  ab (!r14) (
  ret false) (
  aa k (kj k x12.face dims) fun r15=>
  ab (!r15) (
   ret false) (
     rec1 (IntKind.wrap .i64 (v109+1)))))) (
 ret ((t.r.length:Int)==0))
noncomputable def jy {S:Type} (k:Nat) (ret:Bool→Option S) (t:Tm) (dims:Int):Nat→Int→Option S
 |0=>fun _=> .none
 |m+1=>fun v109=>vm k ret t dims (jy k ret t dims m) v109
def qR {S:Type} (k:Nat) (ret:Bool→Option S) (t:Tm) (vars dims:Int) (J1:Int→Option S):Option S:=
 ab (t.kind==1) (
 ab ((t.r.length:Int)==0) (
  ab (decide ((t.n:Int)≥0)) (
  ab (decide ((vars:Int)<0)) (
   ret true) (
   ret (decide ((t.n:Int)<vars)))) (
  ret false)) (
  ret false)) (
 ab (t.kind==2) (
  ab ((t.r.length:Int)==0) (
  aa k (wE k t.name) fun r3=>
  ret r3) (
  ret false)) (
  ab (t.kind==13) (
  aa k (gk k t.r) fun r4=>
  ab (r4) (
   aa k (kj k t.r dims) fun r5=>
   ret r5) (
   ret false)) (
  ab (t.kind==21) (
   aa k (gk k t.r) fun r6=>
   ab (r6) (
   aa k (kj k t.r dims) fun r7=>
   ret r7) (
   ret false)) (
   ab (t.kind==26) (
   aa k (gk k t.r) fun r8=>
   ab (r8) (
    aa k (kj k t.r dims) fun r9=>
    ret r9) (
    ret false)) (
   ab (t.kind==14) (
    aa k (j5 k t.r) fun r10=>
    ab (r10) (
    aa k (kj k t.r dims) fun r11=>
    ret r11) (
    ret false)) (
       J1 0))))))
noncomputable def xw {S:Type} (k:Nat) (ret:Bool→Option S) (t:Tm) (vars dims:Int):Nat→Option S
 |0=> .none
 |_+1=>qR k ret t vars dims (fun v109=>jy k ret t dims k v109)
def Fk {S:Type} (k:Nat) (ret:Bool→Option S) (J0:Option S) (t:Tm) (vars dims:Int):Option S:=
 aa k (wC k t.kind) fun r1=>
 ab (!(r1==(t.kids.length:Int))) (
 ret false) (
 ab (!(t.kind==1)) (
  ab (!(t.n==0)) (
  ret false) (
  ab (!(t.kind==2)) (
   ab (!(t.name==ByteArray.empty)) (
   ret false) (
   aa k (kh k t.kind) fun r2=>
   ab (r2==0) (
    ab (decide (((t.sys.length:Int):Int)>0)) (
    ret false) (
        J0)) (
       J0))) (
   aa k (kh k t.kind) fun r16=>
   ab (r16==0) (
   ab (decide (((t.sys.length:Int):Int)>0)) (
    ret false) (
       J0)) (
      J0)))) (
  ab (!(t.kind==2)) (
  ab (!(t.name==ByteArray.empty)) (
   ret false) (
   aa k (kh k t.kind) fun r17=>
   ab (r17==0) (
   ab (decide (((t.sys.length:Int):Int)>0)) (
    ret false) (
       J0)) (
      J0))) (
  aa k (kh k t.kind) fun r18=>
  ab (r18==0) (
   ab (decide (((t.sys.length:Int):Int)>0)) (
   ret false) (
      J0)) (
     J0))))
noncomputable def rL {S:Type} (k:Nat) (t:Tm) (vars dims:Int) (ret:Bool→Option S):Option S:=Fk k ret (xw k ret t vars dims k) t vars dims
abbrev dk (S:Type):=Tm→Int→Int→Bool→(Bool→Option S)→Option S
def Pj {S:Type} (hd:dk S) (k:Nat) (ret:Bool→Option S) (a_k:Tm) (v d c0 c1:Int) (c2:Bool):Option S:=
 ab (decide ((c0:Int)<0)) (
 hd (ac a_k) (IntKind.wrap .i64 (c0+0)) (IntKind.wrap .i64 (c1+d)) c2 fun r1=>
 ret r1) (
 hd (ac a_k) (IntKind.wrap .i64 (c0+v)) (IntKind.wrap .i64 (c1+d)) c2 fun r2=>
 ret r2)
noncomputable def rI {S:Type} (hd:dk S) (k:Nat) (a_k:Tm) (v d c0 c1:Int) (c2:Bool) (ret:Bool→Option S):Option S:=Pj hd k ret a_k v d c0 c1 c2
def vk {S:Type} (hd:dk S) (k:Nat) (ret:Bool→Option S) (c0 c1:Int) (c2:Bool) (t:Tm) (v42:Int) (x4:(Br Tm)) (more9:Int) (rec1:Int→Int→Option S) (rec2:Int→Option S) (v49:Int):Option S:=
 ab (decide ((v49:Int)<(x4.kids.length:Int))) (
 Option.bind (al x4.kids v49) fun x5=>
 aa k (rI hd k (ac x5) 0 more9 c0 c1 c2) fun r6=>
 ab (!r6) (
  ret false) (
   rec2 (IntKind.wrap .i64 (v49+1)))) (
  rec1 (IntKind.wrap .i64 (v42+1)) more9)
noncomputable def kU {S:Type} (hd:dk S) (k:Nat) (ret:Bool→Option S) (rec1:Int→Int→Option S) (c0 c1:Int) (c2:Bool) (t:Tm) (v42:Int) (x4:(Br Tm)) (more9:Int):Nat→Int→Option S
 |0=>fun _=> .none
 |m+1=>fun v49=>vk hd k ret c0 c1 c2 t v42 x4 more9 rec1 (kU hd k ret rec1 c0 c1 c2 t v42 x4 more9 m) v49
def qN {S:Type} (hd:dk S) (k:Nat) (ret:Bool→Option S) (c0 c1:Int) (c2:Bool) (t:Tm) (J2:Int→(Br Tm)→Int→Int→Option S) (rec1:Int→Int→Option S) (v42 more9:Int):Option S:=
 ab (decide ((v42:Int)<(t.sys.length:Int))) (
 Option.bind (al t.sys v42) fun x4=>
  J2 v42 x4 more9 0) (
 ret true)
noncomputable def gG {S:Type} (hd:dk S) (k:Nat) (ret:Bool→Option S) (c0 c1:Int) (c2:Bool) (t:Tm):Nat→Int→Int→Option S
 |0=>fun _ _=> .none
 |m+1=>fun v42 more9=>qN hd k ret c0 c1 c2 t (fun v42 x4 more9 v49=>kU hd k ret (gG hd k ret c0 c1 c2 t m) c0 c1 c2 t v42 x4 more9 k v49) (gG hd k ret c0 c1 c2 t m) v42 more9
def qM {S:Type} (hd:dk S) (k:Nat) (ret:Bool→Option S) (c0 c1:Int) (c2:Bool) (t:Tm) (J1:Int→Int→Option S) (rec0:Int→Option S) (v17:Int):Option S:=
 ab (decide ((v17:Int)<(t.kids.length:Int))) (
 Option.bind (al t.kids v17) fun x1=>
 aa k (kf k t.kind v17) fun r2=>
 aa k (rI hd k (ac x1) r2.1 r2.2 c0 c1 c2) fun r3=>
 ab (!r3) (
  ret false) (
   rec0 (IntKind.wrap .i64 (v17+1)))) (
 ab (t.kind==15) (
   J1 0 1) (
   J1 0 0))
noncomputable def mu {S:Type} (hd:dk S) (k:Nat) (ret:Bool→Option S) (c0 c1:Int) (c2:Bool) (t:Tm):Nat→Int→Option S
 |0=>fun _=> .none
 |m+1=>fun v17=>qM hd k ret c0 c1 c2 t (fun v42 more9=>gG hd k ret c0 c1 c2 t k v42 more9) (mu hd k ret c0 c1 c2 t m) v17
noncomputable def Fh {S:Type} (hd:dk S) (k:Nat) (ret:Bool→Option S) (J0:Int→Option S) (t:Tm) (c0 c1:Int) (c2:Bool):Option S:=
 J0 0
noncomputable def wD {S:Type} (hd:dk S) (k:Nat) (t:Tm) (c0 c1:Int) (c2:Bool) (ret:Bool→Option S):Option S:=Fh hd k ret (fun v17=>mu hd k ret c0 c1 c2 t k v17) t c0 c1 c2
def Pi {S:Type} (hd:dk S) (k:Nat) (ret:Bool→Option S) (t:Tm) (vars dims:Int) (bound:Bool):Option S:=
 ab (bound) (
 ab (decide ((dims:Int)>24)) (
  ret false) (
  aa k (rL k (ac t) vars dims) fun r1=>
  ab (!r1) (
  ret false) (
  aa k (wD hd k (ac t) vars dims bound) fun r2=>
  ret r2))) (
 aa k (rL k (ac t) vars dims) fun r3=>
 ab (!r3) (
  ret false) (
  aa k (wD hd k (ac t) vars dims bound) fun r4=>
  ret r4))
noncomputable def fl {S:Type}:Nat→Tm→Int→Int→Bool→(Bool→Option S)→Option S
 |0=>fun _ _ _ _ _=> .none
 |k+1=>fun t vars dims bound ret=>Pi (fl k) k ret t vars dims bound
def Pf {S:Type} (k:Nat) (ret:Int→Option S) (t:Tm):Option S:=
 aa k (rN k (ac t)) fun r1=>
 ab (!(r1==0)) (
 ret r1) (
 fl k (ac t) (-1) 24 false fun r2=>
 ab (!r2) (
  ret 100) (
  ret 0))
noncomputable def kg {S:Type} (k:Nat) (t:Tm) (ret:Int→Option S):Option S:=Pf k ret t
def NA {S:Type} (k:Nat) (ret:Int→Option S) (a_e c0:Int):Option S:=
 ab (c0==0) (
 ret a_e) (
 ret c0)
noncomputable def gj {S:Type} (k:Nat) (a_e c0:Int) (ret:Int→Option S):Option S:=NA k ret a_e c0
def ub {S:Type} (k:Nat) (ret:Int→Option S) (l:List Tm) (rec0:Int→Int→Option S) (b7_0 v10:Int):Option S:=
 ab (decide ((v10:Int)<(l.length:Int))) (
 Option.bind (al l v10) fun x1=>
 aa k (kg k (ac x1)) fun r2=>
 aa k (gj k r2 b7_0) fun r3=>
  rec0 r3 (IntKind.wrap .i64 (v10+1))) (
 ret b7_0)
noncomputable def nU {S:Type} (k:Nat) (ret:Int→Option S) (l:List Tm):Nat→Int→Int→Option S
 |0=>fun _ _=> .none
 |m+1=>fun b7_0 v10=>ub k ret l (nU k ret l m) b7_0 v10
noncomputable def DX {S:Type} (k:Nat) (ret:Int→Option S) (J0:Int→Int→Option S) (l:List Tm):Option S:=
 J0 0 0
noncomputable def jZ {S:Type} (k:Nat) (l:List Tm) (ret:Int→Option S):Option S:=DX k ret (fun b7_0 v10=>nU k ret l k b7_0 v10) l
noncomputable def gU {S:Type} (k:Nat) (ret:Bool→Option S) (c0:Int):Option S:=
 ret (c0==0)
noncomputable def du {S:Type} (k:Nat) (c0:Int) (ret:Bool→Option S):Option S:=gU k ret c0
def uA {S:Type} (k:Nat) (ret:Int→Option S) (l:List (List Cl)) (rec0:Int→Option S) (v7:Int):Option S:=
 ab (decide ((v7:Int)<(l.length:Int))) (
 Option.bind (al l v7) fun x1=>
 aa k (gk k x1) fun r2=>
 ab (!r2) (
  ret 2) (
   rec0 (IntKind.wrap .i64 (v7+1)))) (
 ret 0)
noncomputable def oa {S:Type} (k:Nat) (ret:Int→Option S) (l:List (List Cl)):Nat→Int→Option S
 |0=>fun _=> .none
 |m+1=>fun v7=>uA k ret l (oa k ret l m) v7
noncomputable def Eu {S:Type} (k:Nat) (ret:Int→Option S) (J0:Int→Option S) (l:List (List Cl)):Option S:=
 J0 0
noncomputable def np {S:Type} (k:Nat) (l:List (List Cl)) (ret:Int→Option S):Option S:=Eu k ret (fun v7=>oa k ret l k v7) l
noncomputable def En {S:Type} (k:Nat) (ret:List Cl→Option S):Option S:=
 ret ([]:List Cl)
noncomputable def ri {S:Type} (k:Nat) (ret:List Cl→Option S):Option S:=En k ret
noncomputable def Oy {S:Type} (k:Nat) (ret:Int→Option S) (i:Int):Option S:=
 Option.bind (bM (0≤(IntKind.wrap .u64 (if 24<i then 24 else i)))) fun x1=>
 ret (IntKind.wrap .u32 (IntKind.wrap .u64 ((IntKind.wrap .u64 (1*2^min (Int.toNat (IntKind.wrap .u64 (if 24<i then 24 else i))) 64))-1)))
noncomputable def nu {S:Type} (k:Nat) (i:Int) (ret:Int→Option S):Option S:=Oy k ret i
def yS {S:Type} (k:Nat) (ret:Int×Int→Option S) (s a_from a_by:Int):Option S:=
 ab (decide ((a_from:Int)<0)) (
 ret (0,2)) (
 ab (decide ((a_by:Int)<0)) (
  ret (0,2)) (
  aa k (nu k a_from) fun r1=>
  aa k (nu k a_from) fun r2=>
  ab ((IntKind.wrap .u64 (aY .andNot .u32 (aY .and .u32 s 16777215) r2))==0) (
  ret (aY .and .u32 (aY .and .u32 s 16777215) r1,0)) (
  ab (decide ((a_by:Int)≥24)) (
   ret (0,10)) (
   Option.bind (bM (0≤(IntKind.wrap .u64 a_by))) fun x3=>
   ab (decide ((IntKind.wrap .u64 ((IntKind.wrap .u64 (aY .andNot .u32 (aY .and .u32 s 16777215) r2))*2^min (Int.toNat (IntKind.wrap .u64 a_by)) 64):Int)>16777215)) (
   ret (0,10)) (
   Option.bind (bM (0≤(IntKind.wrap .u64 a_by))) fun x4=>
   ret (aY .or .u32 (aY .and .u32 (aY .and .u32 s 16777215) r1) (IntKind.wrap .u32 (IntKind.wrap .u64 ((IntKind.wrap .u64 (aY .andNot .u32 (aY .and .u32 s 16777215) r2))*2^min (Int.toNat (IntKind.wrap .u64 a_by)) 64))),0))))))
noncomputable def j9 {S:Type} (k:Nat) (s a_from a_by:Int) (ret:Int×Int→Option S):Option S:=yS k ret s a_from a_by
def NI {S:Type} (k:Nat) (ret:Cl×Int→Option S) (c:Cl) (a_from a_by:Int):Option S:=
 aa k (qY k c) fun r1=>
 ab (!r1) (
 ret ((Cl.mk 0 0),2)) (
 aa k (j9 k c.pos a_from a_by) fun r2=>
 ab (!(r2.2==0)) (
  ret ((Cl.mk 0 0),r2.2)) (
  aa k (j9 k c.neg a_from a_by) fun r3=>
  ab (!(r3.2==0)) (
  ret ((Cl.mk 0 0),r3.2)) (
  ret ((Cl.mk r2.1 r3.1),0))))
noncomputable def vE {S:Type} (k:Nat) (c:Cl) (a_from a_by:Int) (ret:Cl×Int→Option S):Option S:=NI k ret c a_from a_by
noncomputable def N9 {S:Type} (k:Nat) (ret:List Cl×Int→Option S) (a_have:List Cl) (c:Cl) (c0 c1:Int):Option S:=
 aa k (vE k c c0 c1) fun r1=>
 Option.bind (ax 1099511627776 a_have.length [r1.1].length) fun x2=>
 ret (a_have++[r1.1],r1.2)
noncomputable def AI {S:Type} (k:Nat) (a_have:List Cl) (c:Cl) (c0 c1:Int) (ret:List Cl×Int→Option S):Option S:=N9 k ret a_have c c0 c1
def ux {S:Type} (k:Nat) (ret:List Cl×Int→Option S) (c0 c1:Int) (l:List Cl) (rec0:(List Cl)→Int→Option S) (v1:List Cl) (v15:Int):Option S:=
 ab (decide ((v15:Int)<(l.length:Int))) (
 Option.bind (al l v15) fun x1=>
 aa k (AI k v1 x1 c0 c1) fun r2=>
 ab (!(r2.2==0)) (
  ret (([]:List Cl),r2.2)) (
   rec0 r2.1 (IntKind.wrap .i64 (v15+1)))) (
 ret (v1,0))
noncomputable def n9 {S:Type} (k:Nat) (ret:List Cl×Int→Option S) (c0 c1:Int) (l:List Cl):Nat→(List Cl)→Int→Option S
 |0=>fun _ _=> .none
 |m+1=>fun v1 v15=>ux k ret c0 c1 l (n9 k ret c0 c1 l m) v1 v15
noncomputable def Er {S:Type} (k:Nat) (ret:List Cl×Int→Option S) (J0:(List Cl)→Int→Option S) (l a_from:List Cl) (c0 c1:Int):Option S:=
 J0 a_from 0
noncomputable def vW {S:Type} (k:Nat) (l a_from:List Cl) (c0 c1:Int) (ret:List Cl×Int→Option S):Option S:=Er k ret (fun v1 v15=>n9 k ret c0 c1 l k v1 v15) l a_from c0 c1
def N8 {S:Type} (k:Nat) (ret:List Cl×Int→Option S) (f:List Cl) (a_from a_by:Int):Option S:=
 aa k (np k [f]) fun r1=>
 ab (!(r1==0)) (
 ret (([]:List Cl),r1)) (
 aa k (ri k) fun r2=>
 aa k (vW k f r2 a_from a_by) fun r3=>
 ab (!(r3.2==0)) (
  ret (([]:List Cl),r3.2)) (
  aa k (fQ k r3.1) fun r4=>
  ret (r4.1,r4.2)))
noncomputable def j6 {S:Type} (k:Nat) (f:List Cl) (a_from a_by:Int) (ret:List Cl×Int→Option S):Option S:=N8 k ret f a_from a_by
def D4 {S:Type} (k:Nat) (ret:List Cl×Int→Option S) (f:List Cl) (c0:Int):Option S:=
 aa k (du k c0) fun r1=>
 ab (!r1) (
 ret (([]:List Cl),c0)) (
 aa k (j6 k f 0 1) fun r2=>
 aa k (gj k r2.2 c0) fun r3=>
 ret (r2.1,r3))
noncomputable def i8 {S:Type} (k:Nat) (f:List Cl) (c0:Int) (ret:List Cl×Int→Option S):Option S:=D4 k ret f c0
def ur {S:Type} (k:Nat) (ret:Int→Option S) (l:List (List Cl)) (rec0:Int→Option S) (v7:Int):Option S:=
 ab (decide ((v7:Int)<(l.length:Int))) (
 Option.bind (al l v7) fun x1=>
 aa k (j5 k x1) fun r2=>
 ab (!r2) (
  ret 2) (
   rec0 (IntKind.wrap .i64 (v7+1)))) (
 ret 0)
noncomputable def n4 {S:Type} (k:Nat) (ret:Int→Option S) (l:List (List Cl)):Nat→Int→Option S
 |0=>fun _=> .none
 |m+1=>fun v7=>ur k ret l (n4 k ret l m) v7
noncomputable def Ek {S:Type} (k:Nat) (ret:Int→Option S) (J0:Int→Option S) (l:List (List Cl)):Option S:=
 J0 0
noncomputable def vR {S:Type} (k:Nat) (l:List (List Cl)) (ret:Int→Option S):Option S:=Ek k ret (fun v7=>n4 k ret l k v7) l
noncomputable def N5 {S:Type} (k:Nat) (ret:List Cl×Int→Option S) (f g:List Cl):Option S:=
 Option.bind (ax 1099511627776 ([]:List Cl).length f.length) fun x1=>
 Option.bind (ax 1099511627776 (([]:List Cl)++f).length g.length) fun x2=>
 aa k (fQ k ((([]:List Cl)++f)++g)) fun r3=>
 ret (r3.1,r3.2)
noncomputable def rh {S:Type} (k:Nat) (f g:List Cl) (ret:List Cl×Int→Option S):Option S:=N5 k ret f g
def NW {S:Type} (k:Nat) (ret:List Cl×Int→Option S) (f g:List Cl):Option S:=
 aa k (vR k [f,g]) fun r1=>
 ab (!(r1==0)) (
 ret (([]:List Cl),r1)) (
 aa k (rh k f g) fun r2=>
 ret (r2.1,r2.2))
noncomputable def vJ {S:Type} (k:Nat) (f g:List Cl) (ret:List Cl×Int→Option S):Option S:=NW k ret f g
def D0 {S:Type} (k:Nat) (ret:List Cl×Int→Option S) (f g:List Cl) (c0:Int):Option S:=
 aa k (du k c0) fun r1=>
 ab (!r1) (
 ret (([]:List Cl),c0)) (
 aa k (vJ k f g) fun r2=>
 aa k (gj k r2.2 c0) fun r3=>
 ret (r2.1,r3))
noncomputable def j4 {S:Type} (k:Nat) (f g:List Cl) (c0:Int) (ret:List Cl×Int→Option S):Option S:=D0 k ret f g c0
def Oq {S:Type} (k:Nat) (ret:Pan Int (List Cl)→Option S) (l_0 l_1:Int) (f:List Cl) (a_from:Int):Option S:=
 ab (l_1==0) (
 Option.bind (ax 1099511627776 0 f.length) fun x1=>
 ret (.ok f)) (
 ab (decide ((a_from:Int)≥24)) (
  Option.bind (ax 1099511627776 0 f.length) fun x2=>
  ret (.ok f)) (
  aa k (j6 k f a_from l_1) fun r3=>
  ab (!(r3.2==0)) (
  ret (.pan r3.2)) (
  ret (.ok r3.1))))
noncomputable def rj {S:Type} (k:Nat) (l_0 l_1:Int) (f:List Cl) (a_from:Int) (ret:Pan Int (List Cl)→Option S):Option S:=Oq k ret l_0 l_1 f a_from
abbrev fe (S:Type):=Int→Int→Tm→Int→Int→(Pan Int Tm→Option S)→Option S
def uD {S:Type} (hd:fe S) (k:Nat) (ret:Pan Int Tm→Option S) (r12:List Cl) (l_0 l_1:Int) (t:Tm) (b9_1:Int) (r2:List Cl) (b9_4:List Tm) (b9_5:List (Br Tm)) (x10:(Br Tm)) (more14 v d v90:Int) (rec2:(List (Br Tm))→Int→Int→Option S) (rec3:(List Tm)→Int→Option S) (b17_1:List Tm) (v103:Int):Option S:=
 ab (decide ((v103:Int)<(x10.kids.length:Int))) (
 Option.bind (al x10.kids v103) fun x14=>
 hd l_0 l_1 (ac x14) v (IntKind.wrap .i64 (d+more14)) fun r16=>Pan.elim r16 (fun r16=>
  Option.bind (ax 1099511627776 b17_1.length [(ac r16)].length) fun x18=>
   rec3 (b17_1++[(ac r16)]) (IntKind.wrap .i64 (v103+1))) (fun e17=>
  ret (.pan e17))) (
 Option.bind (ax 1099511627776 b9_5.length [(Br.mk r12 b17_1)].length) fun x19=>
  rec2 (b9_5++[(Br.mk r12 b17_1)]) more14 (IntKind.wrap .i64 (v90+1)))
noncomputable def kM {S:Type} (hd:fe S) (k:Nat) (ret:Pan Int Tm→Option S) (rec2:(List (Br Tm))→Int→Int→Option S) (r12:List Cl) (l_0 l_1:Int) (t:Tm) (b9_1:Int) (r2:List Cl) (b9_4:List Tm) (b9_5:List (Br Tm)) (x10:(Br Tm)) (more14 v d v90:Int):Nat→(List Tm)→Int→Option S
 |0=>fun _ _=> .none
 |m+1=>fun b17_1 v103=>uD hd k ret r12 l_0 l_1 t b9_1 r2 b9_4 b9_5 x10 more14 v d v90 rec2 (kM hd k ret rec2 r12 l_0 l_1 t b9_1 r2 b9_4 b9_5 x10 more14 v d v90 m) b17_1 v103
def qf {S:Type} (hd:fe S) (k:Nat) (ret:Pan Int Tm→Option S) (l_0 l_1:Int) (t:Tm) (b9_1:Int) (r2:List Cl) (b9_4:List Tm) (v d:Int) (J3:(List Cl)→(List (Br Tm))→(Br Tm)→Int→Int→(List Tm)→Int→Option S) (rec2:(List (Br Tm))→Int→Int→Option S) (b9_5:List (Br Tm)) (more14 v90:Int):Option S:=
 ab (decide ((v90:Int)<(t.sys.length:Int))) (
 Option.bind (al t.sys v90) fun x10=>
 aa k (rj k l_0 l_1 x10.face d) fun r12=>Pan.elim r12 (fun r12=>
   J3 r12 b9_5 x10 more14 v90 ([]:List Tm) 0) (fun e13=>
  ret (.pan e13))) (
 ret (.ok (Tm.mk t.kind b9_1 t.name r2 b9_4 b9_5)))
noncomputable def eW {S:Type} (hd:fe S) (k:Nat) (ret:Pan Int Tm→Option S) (l_0 l_1:Int) (t:Tm) (b9_1:Int) (r2:List Cl) (b9_4:List Tm) (v d:Int):Nat→(List (Br Tm))→Int→Int→Option S
 |0=>fun _ _ _=> .none
 |m+1=>fun b9_5 more14 v90=>qf hd k ret l_0 l_1 t b9_1 r2 b9_4 v d (fun r12 b9_5 x10 more14 v90 b17_1 v103=>kM hd k ret (eW hd k ret l_0 l_1 t b9_1 r2 b9_4 v d m) r12 l_0 l_1 t b9_1 r2 b9_4 b9_5 x10 more14 v d v90 k b17_1 v103) (eW hd k ret l_0 l_1 t b9_1 r2 b9_4 v d m) b9_5 more14 v90
def qe {S:Type} (hd:fe S) (k:Nat) (ret:Pan Int Tm→Option S) (l_0 l_1:Int) (t:Tm) (b9_1:Int) (r2:List Cl) (v d:Int) (J2:(List Tm)→(List (Br Tm))→Int→Int→Option S) (rec1:(List Tm)→Int→Option S) (b9_4:List Tm) (v57:Int):Option S:=
 ab (decide ((v57:Int)<(t.kids.length:Int))) (
 Option.bind (al t.kids v57) fun x4=>
 aa k (kf k t.kind v57) fun r5=>
 hd l_0 l_1 (ac x4) (IntKind.wrap .i64 (v+r5.1)) (IntKind.wrap .i64 (d+r5.2)) fun r7=>Pan.elim r7 (fun r7=>
  Option.bind (ax 1099511627776 b9_4.length [(ac r7)].length) fun x9=>
   rec1 (b9_4++[(ac r7)]) (IntKind.wrap .i64 (v57+1))) (fun e8=>
  ret (.pan e8))) (
 ab (t.kind==15) (
   J2 b9_4 ([]:List (Br Tm)) 1 0) (
   J2 b9_4 ([]:List (Br Tm)) 0 0))
noncomputable def js {S:Type} (hd:fe S) (k:Nat) (ret:Pan Int Tm→Option S) (l_0 l_1:Int) (t:Tm) (b9_1:Int) (r2:List Cl) (v d:Int):Nat→(List Tm)→Int→Option S
 |0=>fun _ _=> .none
 |m+1=>fun b9_4 v57=>qe hd k ret l_0 l_1 t b9_1 r2 v d (fun b9_4 b9_5 more14 v90=>eW hd k ret l_0 l_1 t b9_1 r2 b9_4 v d k b9_5 more14 v90) (js hd k ret l_0 l_1 t b9_1 r2 v d m) b9_4 v57
noncomputable def Ae {S:Type} (hd:fe S) (k:Nat) (ret:Pan Int Tm→Option S) (l_0 l_1:Int) (t:Tm) (r2:List Cl) (v d:Int) (J1:Int→(List Tm)→Int→Option S) (b9_1:Int):Option S:=
 J1 b9_1 ([]:List Tm) 0
noncomputable def sy {S:Type} (hd:fe S) (k:Nat) (ret:Pan Int Tm→Option S) (l_0 l_1:Int) (t:Tm) (r2:List Cl) (v d:Int):Nat→Int→Option S
 |0=>fun _=> .none
 |_+1=>fun b9_1=>Ae hd k ret l_0 l_1 t r2 v d (fun b9_1 b9_4 v57=>js hd k ret l_0 l_1 t b9_1 r2 v d k b9_4 v57) b9_1
def Ez {S:Type} (hd:fe S) (k:Nat) (ret:Pan Int Tm→Option S) (J0:(List Cl)→Int→Option S) (l_0 l_1:Int) (t:Tm) (v d:Int):Option S:=
 aa k (rj k l_0 l_1 t.r d) fun r2=>Pan.elim r2 (fun r2=>
 ab (t.kind==1) (
  ab (decide ((t.n:Int)≥v)) (
  ab (decide ((t.n:Int)>(IntKind.wrap .i64 (1000000000-l_0)))) (
   ret (.pan 100)) (
     J0 r2 (IntKind.wrap .i64 (t.n+l_0)))) (
    J0 r2 t.n)) (
   J0 r2 t.n)) (fun e3=>
 ret (.pan e3))
noncomputable def dv {S:Type}:Nat→Int→Int→Tm→Int→Int→(Pan Int Tm→Option S)→Option S
 |0=>fun _ _ _ _ _ _=> .none
 |k+1=>fun l_0 l_1 t v d ret=>Ez (dv k) k ret (fun r2 b9_1=>sy (dv k) k ret l_0 l_1 t r2 v d k b9_1) l_0 l_1 t v d
noncomputable def Oo {S:Type} (k:Nat) (ret:Pan Int Tm→Option S) (c0:Int) (c1:Tm) (c2:Int):Option S:=
 dv k 0 c0 (ac c1) 0 (if 24<c2 then 24 else c2) fun r2=>Pan.elim r2 (fun r2=>
 ret (.ok (ac r2))) (fun e3=>
 ret (.pan e3))
noncomputable def wc {S:Type} (k:Nat) (c0:Int) (c1:Tm) (c2:Int) (ret:Pan Int Tm→Option S):Option S:=Oo k ret c0 c1 c2
def uB {S:Type} (k:Nat) (ret:Tm×Int→Option S) (c0:Int) (c1:Tm) (c2:Int) (numbers:List Int) (rec0:Int→Option S) (v19:Int):Option S:=
 ab (decide ((v19:Int)<(numbers.length:Int))) (
 Option.bind (al numbers v19) fun x2=>
 ab (decide ((x2:Int)<0)) (
  ret ((Tm.mk 0 0 ByteArray.empty [] [] []),2)) (
   rec0 (IntKind.wrap .i64 (v19+1)))) (
 aa k (wc k c0 (ac c1) c2) fun r4=>Pan.elim r4 (fun r4=>
  ret ((ac r4),0)) (fun e5=>
  ret ((Tm.mk 0 0 ByteArray.empty [] [] []),e5)))
noncomputable def me {S:Type} (k:Nat) (ret:Tm×Int→Option S) (c0:Int) (c1:Tm) (c2:Int) (numbers:List Int):Nat→Int→Option S
 |0=>fun _=> .none
 |m+1=>fun v19=>uB k ret c0 c1 c2 numbers (me k ret c0 c1 c2 numbers m) v19
def Ew {S:Type} (k:Nat) (ret:Tm×Int→Option S) (J0:Int→Option S) (t:Tm) (numbers:List Int) (c0:Int) (c1:Tm) (c2:Int):Option S:=
 aa k (kg k (ac t)) fun r1=>
 ab (!(r1==0)) (
 ret ((Tm.mk 0 0 ByteArray.empty [] [] []),r1)) (
  J0 0)
noncomputable def AP {S:Type} (k:Nat) (t:Tm) (numbers:List Int) (c0:Int) (c1:Tm) (c2:Int) (ret:Tm×Int→Option S):Option S:=Ew k ret (fun v19=>me k ret c0 c1 c2 numbers k v19) t numbers c0 c1 c2
noncomputable def On {S:Type} (k:Nat) (ret:Tm×Int→Option S) (t:Tm) (a_from a_by:Int):Option S:=
 aa k (AP k (ac t) [a_from,a_by] a_by (ac t) a_from) fun r1=>
 ret ((ac r1.1),r1.2)
noncomputable def wa {S:Type} (k:Nat) (t:Tm) (a_from a_by:Int) (ret:Tm×Int→Option S):Option S:=On k ret t a_from a_by
def Ow {S:Type} (k:Nat) (ret:Int→Option S) (s i:Int):Option S:=
 aa k (lO k i) fun r1=>
 ab (!r1) (
 ret (aY .and .u32 s 16777215)) (
 Option.bind (bM (0≤(IntKind.wrap .u64 i))) fun x2=>
 ret (aY .or .u32 (aY .and .u32 s 16777215) (IntKind.wrap .u32 (1*2^min (Int.toNat (IntKind.wrap .u64 i)) 32))))
noncomputable def g8 {S:Type} (k:Nat) (s i:Int) (ret:Int→Option S):Option S:=Ow k ret s i
noncomputable def adV {S:Type} (k:Nat) (ret:Int→Option S) (a_x:Int):Option S:=
 Option.bind (al (ByteArray.mk #[0,1,1,2,1,2,2,3,1,2,2,3,2,3,3,4,1,2,2,3,2,3,3,4,2,3,3,4,3,4,4,5,1,2,2,3,2,3,3,4,2,3,3,4,3,4,4,5,2,3,3,4,3,4,4,5,3,4,4,5,4,5,5,6,1,2,2,3,2,3,3,4,2,3,3,4,3,4,4,5,2,3,3,4,3,4,4,5,3,4,4,5,4,5,5,6,2,3,3,4,3,4,4,5,3,4,4,5,4,5,5,6,3,4,4,5,4,5,5,6,4,5,5,6,5,6,6,7,1,2,2,3,2,3,3,4,2,3,3,4,3,4,4,5,2,3,3,4,3,4,4,5,3,4,4,5,4,5,5,6,2,3,3,4,3,4,4,5,3,4,4,5,4,5,5,6,3,4,4,5,4,5,5,6,4,5,5,6,5,6,6,7,2,3,3,4,3,4,4,5,3,4,4,5,4,5,5,6,3,4,4,5,4,5,5,6,4,5,5,6,5,6,6,7,3,4,4,5,4,5,5,6,4,5,5,6,5,6,6,7,4,5,5,6,5,6,6,7,5,6,6,7,6,7,7,8]).data.toList (Int.fdiv a_x (2^min (Int.toNat 24) 32))) fun x1=>
 Option.bind (al (ByteArray.mk #[0,1,1,2,1,2,2,3,1,2,2,3,2,3,3,4,1,2,2,3,2,3,3,4,2,3,3,4,3,4,4,5,1,2,2,3,2,3,3,4,2,3,3,4,3,4,4,5,2,3,3,4,3,4,4,5,3,4,4,5,4,5,5,6,1,2,2,3,2,3,3,4,2,3,3,4,3,4,4,5,2,3,3,4,3,4,4,5,3,4,4,5,4,5,5,6,2,3,3,4,3,4,4,5,3,4,4,5,4,5,5,6,3,4,4,5,4,5,5,6,4,5,5,6,5,6,6,7,1,2,2,3,2,3,3,4,2,3,3,4,3,4,4,5,2,3,3,4,3,4,4,5,3,4,4,5,4,5,5,6,2,3,3,4,3,4,4,5,3,4,4,5,4,5,5,6,3,4,4,5,4,5,5,6,4,5,5,6,5,6,6,7,2,3,3,4,3,4,4,5,3,4,4,5,4,5,5,6,3,4,4,5,4,5,5,6,4,5,5,6,5,6,6,7,3,4,4,5,4,5,5,6,4,5,5,6,5,6,6,7,4,5,5,6,5,6,6,7,5,6,6,7,6,7,7,8]).data.toList (aY .and .u32 (Int.fdiv a_x (2^min (Int.toNat 16) 32)) 255)) fun x2=>
 Option.bind (al (ByteArray.mk #[0,1,1,2,1,2,2,3,1,2,2,3,2,3,3,4,1,2,2,3,2,3,3,4,2,3,3,4,3,4,4,5,1,2,2,3,2,3,3,4,2,3,3,4,3,4,4,5,2,3,3,4,3,4,4,5,3,4,4,5,4,5,5,6,1,2,2,3,2,3,3,4,2,3,3,4,3,4,4,5,2,3,3,4,3,4,4,5,3,4,4,5,4,5,5,6,2,3,3,4,3,4,4,5,3,4,4,5,4,5,5,6,3,4,4,5,4,5,5,6,4,5,5,6,5,6,6,7,1,2,2,3,2,3,3,4,2,3,3,4,3,4,4,5,2,3,3,4,3,4,4,5,3,4,4,5,4,5,5,6,2,3,3,4,3,4,4,5,3,4,4,5,4,5,5,6,3,4,4,5,4,5,5,6,4,5,5,6,5,6,6,7,2,3,3,4,3,4,4,5,3,4,4,5,4,5,5,6,3,4,4,5,4,5,5,6,4,5,5,6,5,6,6,7,3,4,4,5,4,5,5,6,4,5,5,6,5,6,6,7,4,5,5,6,5,6,6,7,5,6,6,7,6,7,7,8]).data.toList (aY .and .u32 (Int.fdiv a_x (2^min (Int.toNat 8) 32)) 255)) fun x3=>
 Option.bind (al (ByteArray.mk #[0,1,1,2,1,2,2,3,1,2,2,3,2,3,3,4,1,2,2,3,2,3,3,4,2,3,3,4,3,4,4,5,1,2,2,3,2,3,3,4,2,3,3,4,3,4,4,5,2,3,3,4,3,4,4,5,3,4,4,5,4,5,5,6,1,2,2,3,2,3,3,4,2,3,3,4,3,4,4,5,2,3,3,4,3,4,4,5,3,4,4,5,4,5,5,6,2,3,3,4,3,4,4,5,3,4,4,5,4,5,5,6,3,4,4,5,4,5,5,6,4,5,5,6,5,6,6,7,1,2,2,3,2,3,3,4,2,3,3,4,3,4,4,5,2,3,3,4,3,4,4,5,3,4,4,5,4,5,5,6,2,3,3,4,3,4,4,5,3,4,4,5,4,5,5,6,3,4,4,5,4,5,5,6,4,5,5,6,5,6,6,7,2,3,3,4,3,4,4,5,3,4,4,5,4,5,5,6,3,4,4,5,4,5,5,6,4,5,5,6,5,6,6,7,3,4,4,5,4,5,5,6,4,5,5,6,5,6,6,7,4,5,5,6,5,6,6,7,5,6,6,7,6,7,7,8]).data.toList (aY .and .u32 a_x 255)) fun x4=>
 ret (IntKind.wrap .i64 (IntKind.wrap .u8 ((IntKind.wrap .u8 ((IntKind.wrap .u8 ((x1.toNat:Int)+(x2.toNat:Int)))+(x3.toNat:Int)))+(x4.toNat:Int))))
noncomputable def F8 {S:Type} (k:Nat) (a_x:Int) (ret:Int→Option S):Option S:=adV k ret a_x
noncomputable def EA {S:Type} (k:Nat) (ret:Int→Option S) (s:Int):Option S:=
 aa k (F8 k (aY .and .u32 s 16777215)) fun r1=>
 ret r1
noncomputable def j8 {S:Type} (k:Nat) (s:Int) (ret:Int→Option S):Option S:=EA k ret s
noncomputable def NM {S:Type} (k:Nat) (ret:Bool→Option S) (i:Int):Option S:=
 aa k (g8 k 0 i) fun r1=>
 aa k (j8 k r1) fun r2=>
 ret (r2==1)
noncomputable def vF {S:Type} (k:Nat) (i:Int) (ret:Bool→Option S):Option S:=NM k ret i
def NV {S:Type} (k:Nat) (ret:Int→Option S) (t:Tm) (i:Int) (a_r:List Cl):Option S:=
 aa k (kg k (ac t)) fun r1=>
 ab (!(r1==0)) (
 ret r1) (
 aa k (vF k i) fun r2=>
 ab (!r2) (
  ret 2) (
  aa k (gk k a_r) fun r3=>
  ab (!r3) (
  ret 2) (
  ret 0)))
noncomputable def AH {S:Type} (k:Nat) (t:Tm) (i:Int) (a_r:List Cl) (ret:Int→Option S):Option S:=NV k ret t i a_r
noncomputable def NR {S:Type} (k:Nat) (ret:Unit→Option S) (c0:Int) (c1:List Cl):Option S:=
 ret ()
noncomputable def AB {S:Type} (k:Nat) (c0:Int) (c1:List Cl) (ret:Unit→Option S):Option S:=NR k ret c0 c1
noncomputable def NS {S:Type} (k:Nat) (ret:Unit→Option S) (c0:Int) (c1:List Cl):Option S:=
 ret ()
noncomputable def AC {S:Type} (k:Nat) (c0:Int) (c1:List Cl) (ret:Unit→Option S):Option S:=NS k ret c0 c1
noncomputable def NO {S:Type} (k:Nat) (ret:Int×List Cl→Option S) (i:Int) (a_r:List Cl):Option S:=
 aa k (AB k i a_r) fun r1=>
 aa k (AC k i a_r) fun r2=>
 ret (i,a_r)
noncomputable def Az {S:Type} (k:Nat) (i:Int) (a_r:List Cl) (ret:Int×List Cl→Option S):Option S:=NO k ret i a_r
def Ou {S:Type} (k:Nat) (ret:Bool→Option S) (s i:Int):Option S:=
 aa k (lO k i) fun r1=>
 ab (r1) (
 Option.bind (bM (0≤(IntKind.wrap .u64 i))) fun x2=>
 ret ((aY .and .u32 (Int.fdiv s (2^min (Int.toNat (IntKind.wrap .u64 i)) 32)) 1)==1)) (
 ret false)
noncomputable def gm {S:Type} (k:Nat) (s i:Int) (ret:Bool→Option S):Option S:=Ou k ret s i
noncomputable def D8 {S:Type} (k:Nat) (ret:List Cl→Option S) (f:List Cl):Option S:=
 Option.bind (ax 1099511627776 0 f.length) fun x1=>
 ret f
noncomputable def q_ {S:Type} (k:Nat) (f:List Cl) (ret:List Cl→Option S):Option S:=D8 k ret f
noncomputable def N4 {S:Type} (k:Nat) (ret:Bool→Option S) (i:Int):Option S:=
 aa k (g8 k 0 i) fun r1=>
 aa k (j8 k r1) fun r2=>
 ret (r2==1)
noncomputable def vM {S:Type} (k:Nat) (i:Int) (ret:Bool→Option S):Option S:=N4 k ret i
noncomputable def N3 {S:Type} (k:Nat) (ret:Cl×Bool→Option S) (c:Cl):Option S:=
 aa k (qX k c) fun r1=>
 ret (c,!r1)
noncomputable def rg {S:Type} (k:Nat) (c:Cl) (ret:Cl×Bool→Option S):Option S:=N3 k ret c
def uo {S:Type} (k:Nat) (ret:List Cl→Option S) (l:List Cl) (rec0:Int→(List Cl)→Option S) (v12:Int) (out5:List Cl):Option S:=
 ab (decide ((v12:Int)<(l.length:Int))) (
 Option.bind (al l v12) fun x1=>
 aa k (rg k x1) fun r2=>
 ab (r2.2) (
  Option.bind (ax 1099511627776 out5.length [r2.1].length) fun x3=>
   rec0 (IntKind.wrap .i64 (v12+1)) (out5++[r2.1])) (
   rec0 (IntKind.wrap .i64 (v12+1)) out5)) (
 ret out5)
noncomputable def nZ {S:Type} (k:Nat) (ret:List Cl→Option S) (l:List Cl):Nat→Int→(List Cl)→Option S
 |0=>fun _ _=> .none
 |m+1=>fun v12 out5=>uo k ret l (nZ k ret l m) v12 out5
noncomputable def Ei {S:Type} (k:Nat) (ret:List Cl→Option S) (J0:Int→(List Cl)→Option S) (l:List Cl):Option S:=
 J0 0 ([]:List Cl)
noncomputable def vP {S:Type} (k:Nat) (l:List Cl) (ret:List Cl→Option S):Option S:=Ei k ret (fun v12 out5=>nZ k ret l k v12 out5) l
def NX {S:Type} (k:Nat) (ret:List Cl×Int→Option S) (f:List Cl):Option S:=
 aa k (gk k f) fun r1=>
 ab (!r1) (
 ret (([]:List Cl),2)) (
 aa k (vP k f) fun r2=>
 aa k (fQ k r2) fun r3=>
 ret (r3.1,r3.2))
noncomputable def rf {S:Type} (k:Nat) (f:List Cl) (ret:List Cl×Int→Option S):Option S:=NX k ret f
noncomputable def N6 {S:Type} (k:Nat) (ret:Cl×Bool→Option S) (b c0:Cl):Option S:=
 aa k (nh k c0 b) fun r1=>
 aa k (rg k r1) fun r2=>
 ret (r2.1,r2.2)
noncomputable def vQ {S:Type} (k:Nat) (b c0:Cl) (ret:Cl×Bool→Option S):Option S:=N6 k ret b c0
def um {S:Type} (k:Nat) (ret:List Cl→Option S) (c0:Cl) (l:List Cl) (rec0:Int→(List Cl)→Option S) (v12:Int) (out5:List Cl):Option S:=
 ab (decide ((v12:Int)<(l.length:Int))) (
 Option.bind (al l v12) fun x1=>
 aa k (vQ k x1 c0) fun r2=>
 ab (r2.2) (
  Option.bind (ax 1099511627776 out5.length [r2.1].length) fun x3=>
   rec0 (IntKind.wrap .i64 (v12+1)) (out5++[r2.1])) (
   rec0 (IntKind.wrap .i64 (v12+1)) out5)) (
 ret out5)
noncomputable def nY {S:Type} (k:Nat) (ret:List Cl→Option S) (c0:Cl) (l:List Cl):Nat→Int→(List Cl)→Option S
 |0=>fun _ _=> .none
 |m+1=>fun v12 out5=>um k ret c0 l (nY k ret c0 l m) v12 out5
noncomputable def Eh {S:Type} (k:Nat) (ret:List Cl→Option S) (J0:Int→(List Cl)→Option S) (l:List Cl) (c0:Cl):Option S:=
 J0 0 ([]:List Cl)
noncomputable def vO {S:Type} (k:Nat) (l:List Cl) (c0:Cl) (ret:List Cl→Option S):Option S:=Eh k ret (fun v12 out5=>nY k ret c0 l k v12 out5) l c0
def uq {S:Type} (k:Nat) (ret:List Cl×Int→Option S) (g f:List Cl) (rec0:Int→(List Cl)→Option S) (v11:Int) (out6:List Cl):Option S:=
 ab (decide ((v11:Int)<(f.length:Int))) (
 Option.bind (al f v11) fun x1=>
 aa k (vO k g x1) fun r2=>
 Option.bind (ax 1099511627776 out6.length r2.length) fun x3=>
  rec0 (IntKind.wrap .i64 (v11+1)) (out6++r2)) (
 aa k (fQ k out6) fun r4=>
 ret (r4.1,r4.2))
noncomputable def n1 {S:Type} (k:Nat) (ret:List Cl×Int→Option S) (g f:List Cl):Nat→Int→(List Cl)→Option S
 |0=>fun _ _=> .none
 |m+1=>fun v11 out6=>uq k ret g f (n1 k ret g f m) v11 out6
noncomputable def Ej {S:Type} (k:Nat) (ret:List Cl×Int→Option S) (J0:Int→(List Cl)→Option S) (f g:List Cl):Option S:=
 J0 0 ([]:List Cl)
noncomputable def nj {S:Type} (k:Nat) (f g:List Cl) (ret:List Cl×Int→Option S):Option S:=Ej k ret (fun v11 out6=>n1 k ret g f k v11 out6) f g
noncomputable def Oa {S:Type} (k:Nat) (ret:List Cl→Option S):Option S:=
 ret [(Cl.mk 0 0)]
noncomputable def AJ {S:Type} (k:Nat) (ret:List Cl→Option S):Option S:=Oa k ret
def uz {S:Type} (k:Nat) (ret:List Cl×Int→Option S) (r5:List Int) (rec1:Int→(List Cl)→Option S) (v28:Int) (out4':List Cl):Option S:=
 ab (decide ((v28:Int)<(r5.length:Int))) (
 Option.bind (al r5 v28) fun x6=>
 aa k (g8 k 0 x6) fun r7=>
 Option.bind (ax 1099511627776 out4'.length [(Cl.mk r7 0)].length) fun x8=>
  rec1 (IntKind.wrap .i64 (v28+1)) (out4'++[(Cl.mk r7 0)])) (
 aa k (fQ k out4') fun r9=>
 ret (r9.1,r9.2))
noncomputable def md {S:Type} (k:Nat) (ret:List Cl×Int→Option S) (r5:List Int):Nat→Int→(List Cl)→Option S
 |0=>fun _ _=> .none
 |m+1=>fun v28 out4'=>uz k ret r5 (md k ret r5 m) v28 out4'
def qc {S:Type} (k:Nat) (ret:List Cl×Int→Option S) (c:Cl) (r1:List Int) (J1:(List Int)→Int→(List Cl)→Option S) (rec0:Int→(List Cl)→Option S) (v13:Int) (out4:List Cl):Option S:=
 ab (decide ((v13:Int)<(r1.length:Int))) (
 Option.bind (al r1 v13) fun x2=>
 aa k (g8 k 0 x2) fun r3=>
 Option.bind (ax 1099511627776 out4.length [(Cl.mk 0 r3)].length) fun x4=>
  rec0 (IntKind.wrap .i64 (v13+1)) (out4++[(Cl.mk 0 r3)])) (
 te c.neg fun r5=>
  J1 r5 0 out4)
noncomputable def n_ {S:Type} (k:Nat) (ret:List Cl×Int→Option S) (c:Cl) (r1:List Int):Nat→Int→(List Cl)→Option S
 |0=>fun _ _=> .none
 |m+1=>fun v13 out4=>qc k ret c r1 (fun r5 v28 out4'=>md k ret r5 k v28 out4') (n_ k ret c r1 m) v13 out4
noncomputable def Et {S:Type} (k:Nat) (ret:List Cl×Int→Option S) (J0:(List Int)→Int→(List Cl)→Option S) (c:Cl):Option S:=
 te c.pos fun r1=>
 J0 r1 0 ([]:List Cl)
noncomputable def vY {S:Type} (k:Nat) (c:Cl) (ret:List Cl×Int→Option S):Option S:=Et k ret (fun r1 v13 out4=>n_ k ret c r1 k v13 out4) c
def uy {S:Type} (k:Nat) (ret:List Cl×Int→Option S) (x1:Cl) (g f:List Cl) (v13:Int) (rec0:Int→(List Cl)→Option S) (rec1:Int→(List Cl)→Option S) (v19:Int) (out6':List Cl):Option S:=
 ab (decide ((v19:Int)<(g.length:Int))) (
 Option.bind (al g v19) fun x2=>
 aa k (nh k x1 x2) fun r3=>
 Option.bind (ax 1099511627776 out6'.length [r3].length) fun x4=>
  rec1 (IntKind.wrap .i64 (v19+1)) (out6'++[r3])) (
  rec0 (IntKind.wrap .i64 (v13+1)) out6')
noncomputable def mc {S:Type} (k:Nat) (ret:List Cl×Int→Option S) (rec0:Int→(List Cl)→Option S) (x1:Cl) (g f:List Cl) (v13:Int):Nat→Int→(List Cl)→Option S
 |0=>fun _ _=> .none
 |m+1=>fun v19 out6'=>uy k ret x1 g f v13 rec0 (mc k ret rec0 x1 g f v13 m) v19 out6'
def qb {S:Type} (k:Nat) (ret:List Cl×Int→Option S) (g f:List Cl) (J1:Cl→Int→Int→(List Cl)→Option S) (rec0:Int→(List Cl)→Option S) (v13:Int) (out6:List Cl):Option S:=
 ab (decide ((v13:Int)<(f.length:Int))) (
 Option.bind (al f v13) fun x1=>
  J1 x1 v13 0 out6) (
 aa k (fQ k out6) fun r5=>
 ret (r5.1,r5.2))
noncomputable def kL {S:Type} (k:Nat) (ret:List Cl×Int→Option S) (g f:List Cl):Nat→Int→(List Cl)→Option S
 |0=>fun _ _=> .none
 |m+1=>fun v13 out6=>qb k ret g f (fun x1 v13 v19 out6'=>mc k ret (kL k ret g f m) x1 g f v13 k v19 out6') (kL k ret g f m) v13 out6
noncomputable def Es {S:Type} (k:Nat) (ret:List Cl×Int→Option S) (J0:Int→(List Cl)→Option S) (f g:List Cl):Option S:=
 J0 0 ([]:List Cl)
noncomputable def i_ {S:Type} (k:Nat) (f g:List Cl) (ret:List Cl×Int→Option S):Option S:=Es k ret (fun v13 out6=>kL k ret g f k v13 out6) f g
def Oh {S:Type} (k:Nat) (ret:List Cl×Int→Option S) (a_have:List Cl) (c:Cl):Option S:=
 aa k (vY k c) fun r1=>
 ab (!(r1.2==0)) (
 ret (([]:List Cl),r1.2)) (
 aa k (i_ k a_have r1.1) fun r2=>
 ret (r2.1,r2.2))
noncomputable def vX {S:Type} (k:Nat) (a_have:List Cl) (c:Cl) (ret:List Cl×Int→Option S):Option S:=Oh k ret a_have c
def uw {S:Type} (k:Nat) (ret:List Cl×Int→Option S) (l:List Cl) (rec0:(List Cl)→Int→Option S) (v1:List Cl) (v15:Int):Option S:=
 ab (decide ((v15:Int)<(l.length:Int))) (
 Option.bind (al l v15) fun x1=>
 aa k (vX k v1 x1) fun r2=>
 ab (!(r2.2==0)) (
  ret (([]:List Cl),r2.2)) (
   rec0 r2.1 (IntKind.wrap .i64 (v15+1)))) (
 ret (v1,0))
noncomputable def n8 {S:Type} (k:Nat) (ret:List Cl×Int→Option S) (l:List Cl):Nat→(List Cl)→Int→Option S
 |0=>fun _ _=> .none
 |m+1=>fun v1 v15=>uw k ret l (n8 k ret l m) v1 v15
noncomputable def Ep {S:Type} (k:Nat) (ret:List Cl×Int→Option S) (J0:(List Cl)→Int→Option S) (l a_from:List Cl):Option S:=
 J0 a_from 0
noncomputable def AM {S:Type} (k:Nat) (l a_from:List Cl) (ret:List Cl×Int→Option S):Option S:=Ep k ret (fun v1 v15=>n8 k ret l k v1 v15) l a_from
noncomputable def Og {S:Type} (k:Nat) (ret:List Cl×Int→Option S) (f:List Cl):Option S:=
 aa k (AJ k) fun r1=>
 aa k (AM k f r1) fun r2=>
 ret (r2.1,r2.2)
noncomputable def nn {S:Type} (k:Nat) (f:List Cl) (ret:List Cl×Int→Option S):Option S:=Og k ret f
def N_ {S:Type} (k:Nat) (ret:List Cl×Int→Option S) (f:List Cl):Option S:=
 aa k (np k [f]) fun r1=>
 ab (!(r1==0)) (
 ret (([]:List Cl),r1)) (
 aa k (nn k f) fun r2=>
 ret (r2.1,r2.2))
noncomputable def vT {S:Type} (k:Nat) (f:List Cl) (ret:List Cl×Int→Option S):Option S:=N_ k ret f
def NY {S:Type} (k:Nat) (ret:List Cl×Int→Option S) (f:List Cl):Option S:=
 aa k (vT k f) fun r1=>
 ab (!(r1.2==0)) (
 ret (([]:List Cl),r1.2)) (
 aa k (rf k r1.1) fun r2=>
 ret (r2.1,r2.2))
noncomputable def vK {S:Type} (k:Nat) (f:List Cl) (ret:List Cl×Int→Option S):Option S:=NY k ret f
def ul {S:Type} (k:Nat) (ret:List Cl×Int→Option S) (i:Int) (a_r f:List Cl) (v29:Int) (v8:List Cl) (rec0:Int→(List Cl)→Option S) (g11:List Cl) (v13:Int):Option S:=
 ab (v13==0) (
 aa k (rh k v8 g11) fun r10=>
 ab (!(r10.2==0)) (
  ret (([]:List Cl),r10.2)) (
   rec0 (IntKind.wrap .i64 (v29+1)) r10.1)) (
 ab (!(v13==0)) (
  ret (([]:List Cl),v13)) (
   rec0 (IntKind.wrap .i64 (v29+1)) v8))
noncomputable def nX {S:Type} (k:Nat) (ret:List Cl×Int→Option S) (rec0:Int→(List Cl)→Option S) (i:Int) (a_r f:List Cl) (v29:Int) (v8:List Cl):Nat→(List Cl)→Int→Option S
 |0=>fun _ _=> .none
 |_+1=>fun g11 v13=>ul k ret i a_r f v29 v8 rec0 g11 v13
def p_ {S:Type} (k:Nat) (ret:List Cl×Int→Option S) (i:Int) (a_r f:List Cl) (J1:Int→(List Cl)→(List Cl)→Int→Option S) (rec0:Int→(List Cl)→Option S) (v29:Int) (v8:List Cl):Option S:=
 ab (decide ((v29:Int)<(f.length:Int))) (
 Option.bind (al f v29) fun x4=>
 aa k (jb k x4.pos i) fun r5=>
 aa k (jb k x4.neg i) fun r6=>
 aa k (gm k x4.pos i) fun r7=>
 ab (r7) (
  aa k (rf k a_r) fun r8=>
  ab (r8.2==0) (
  aa k (nj k [(Cl.mk r5 r6)] r8.1) fun r9=>
    J1 v29 v8 r9.1 r9.2) (
    J1 v29 v8 [(Cl.mk r5 r6)] r8.2)) (
  aa k (gm k x4.neg i) fun r11=>
  ab (r11) (
  aa k (vK k a_r) fun r12=>
  ab (r12.2==0) (
   aa k (nj k [(Cl.mk r5 r6)] r12.1) fun r13=>
     J1 v29 v8 r13.1 r13.2) (
     J1 v29 v8 [(Cl.mk r5 r6)] r12.2)) (
    J1 v29 v8 [(Cl.mk r5 r6)] 0))) (
 ret (v8,0))
noncomputable def kK {S:Type} (k:Nat) (ret:List Cl×Int→Option S) (i:Int) (a_r f:List Cl):Nat→Int→(List Cl)→Option S
 |0=>fun _ _=> .none
 |m+1=>fun v29 v8=>p_ k ret i a_r f (fun v29 v8 g11 v13=>nX k ret (kK k ret i a_r f m) i a_r f v29 v8 k g11 v13) (kK k ret i a_r f m) v29 v8
def Eg {S:Type} (k:Nat) (ret:List Cl×Int→Option S) (J0:Int→(List Cl)→Option S) (f:List Cl) (i:Int) (a_r:List Cl):Option S:=
 aa k (j5 k f) fun r1=>
 ab (!r1) (
 ret (([]:List Cl),2)) (
 aa k (vM k i) fun r2=>
 ab (!r2) (
  ret (([]:List Cl),2)) (
  aa k (gk k a_r) fun r3=>
  ab (!r3) (
  ret (([]:List Cl),2)) (
    J0 0 [])))
noncomputable def vL {S:Type} (k:Nat) (f:List Cl) (i:Int) (a_r:List Cl) (ret:List Cl×Int→Option S):Option S:=Eg k ret (fun v29 v8=>kK k ret i a_r f k v29 v8) f i a_r
def NQ {S:Type} (k:Nat) (ret:List Cl×Int→Option S) (f:List Cl) (depth c0:Int) (c1:List Cl):Option S:=
 aa k (nk k f) fun r1=>
 aa k (gm k r1 (IntKind.wrap .i64 (c0+depth))) fun r2=>
 ab (!r2) (
 aa k (q_ k f) fun r3=>
 ret (r3,0)) (
 aa k (j6 k c1 0 depth) fun r4=>
 ab (!(r4.2==0)) (
  ret (([]:List Cl),r4.2)) (
  aa k (vL k f (IntKind.wrap .i64 (c0+depth)) r4.1) fun r5=>
  ret (r5.1,r5.2)))
noncomputable def ra {S:Type} (k:Nat) (f:List Cl) (depth c0:Int) (c1:List Cl) (ret:List Cl×Int→Option S):Option S:=NQ k ret f depth c0 c1
def N7 {S:Type} (k:Nat) (ret:List Cl×Int→Option S) (i:Int):Option S:=
 aa k (g8 k 0 i) fun r1=>
 aa k (j8 k r1) fun r2=>
 ab (r2==0) (
 ret (([]:List Cl),2)) (
 aa k (g8 k 0 i) fun r3=>
 ret ([(Cl.mk r3 0)],0))
noncomputable def vS {S:Type} (k:Nat) (i:Int) (ret:List Cl×Int→Option S):Option S:=N7 k ret i
noncomputable def Of {S:Type} (k:Nat) (ret:List Cl×Int→Option S) (f g:List Cl):Option S:=
 Option.bind (ax 1099511627776 ([]:List Cl).length f.length) fun x1=>
 Option.bind (ax 1099511627776 (([]:List Cl)++f).length g.length) fun x2=>
 aa k (fQ k ((([]:List Cl)++f)++g)) fun r3=>
 ret (r3.1,r3.2)
noncomputable def lN {S:Type} (k:Nat) (f g:List Cl) (ret:List Cl×Int→Option S):Option S:=Of k ret f g
def Od {S:Type} (k:Nat) (ret:List Cl×Int→Option S) (a_have:List Cl) (c:Cl) (c0:Int) (c1:List Cl):Option S:=
 aa k (jb k c.pos c0) fun r1=>
 aa k (jb k c.neg c0) fun r2=>
 aa k (gm k c.pos c0) fun r3=>
 ab (r3) (
 aa k (i_ k [(Cl.mk r1 r2)] c1) fun r4=>
 ab (!(r4.2==0)) (
  ret (([]:List Cl),r4.2)) (
  aa k (gm k c.neg c0) fun r5=>
  ab (r5) (
  aa k (nn k c1) fun r6=>
  ab (!(r6.2==0)) (
   ret (([]:List Cl),r6.2)) (
   aa k (i_ k r4.1 r6.1) fun r7=>
   ab (!(r7.2==0)) (
   ret (([]:List Cl),r7.2)) (
   aa k (lN k a_have r7.1) fun r8=>
   ret (r8.1,r8.2)))) (
  aa k (lN k a_have r4.1) fun r9=>
  ret (r9.1,r9.2)))) (
 aa k (gm k c.neg c0) fun r10=>
 ab (r10) (
  aa k (nn k c1) fun r11=>
  ab (!(r11.2==0)) (
  ret (([]:List Cl),r11.2)) (
  aa k (i_ k [(Cl.mk r1 r2)] r11.1) fun r12=>
  ab (!(r12.2==0)) (
   ret (([]:List Cl),r12.2)) (
   aa k (lN k a_have r12.1) fun r13=>
   ret (r13.1,r13.2)))) (
  aa k (lN k a_have [(Cl.mk r1 r2)]) fun r14=>
  ret (r14.1,r14.2)))
noncomputable def vV {S:Type} (k:Nat) (a_have:List Cl) (c:Cl) (c0:Int) (c1:List Cl) (ret:List Cl×Int→Option S):Option S:=Od k ret a_have c c0 c1
def uu {S:Type} (k:Nat) (ret:List Cl×Int→Option S) (c0:Int) (c1 l:List Cl) (rec0:(List Cl)→Int→Option S) (v1:List Cl) (v15:Int):Option S:=
 ab (decide ((v15:Int)<(l.length:Int))) (
 Option.bind (al l v15) fun x1=>
 aa k (vV k v1 x1 c0 c1) fun r2=>
 ab (!(r2.2==0)) (
  ret (([]:List Cl),r2.2)) (
   rec0 r2.1 (IntKind.wrap .i64 (v15+1)))) (
 ret (v1,0))
noncomputable def n7 {S:Type} (k:Nat) (ret:List Cl×Int→Option S) (c0:Int) (c1 l:List Cl):Nat→(List Cl)→Int→Option S
 |0=>fun _ _=> .none
 |m+1=>fun v1 v15=>uu k ret c0 c1 l (n7 k ret c0 c1 l m) v1 v15
noncomputable def Eo {S:Type} (k:Nat) (ret:List Cl×Int→Option S) (J0:(List Cl)→Int→Option S) (l a_from:List Cl) (c0:Int) (c1:List Cl):Option S:=
 J0 a_from 0
noncomputable def AL {S:Type} (k:Nat) (l a_from:List Cl) (c0:Int) (c1:List Cl) (ret:List Cl×Int→Option S):Option S:=Eo k ret (fun v1 v15=>n7 k ret c0 c1 l k v1 v15) l a_from c0 c1
def Oc {S:Type} (k:Nat) (ret:List Cl×Int→Option S) (f:List Cl) (i:Int) (a_r:List Cl):Option S:=
 aa k (np k [f,a_r]) fun r1=>
 ab (!(r1==0)) (
 ret (([]:List Cl),r1)) (
 aa k (vS k i) fun r2=>
 ab (!(r2.2==0)) (
  ret (([]:List Cl),r2.2)) (
  aa k (ri k) fun r3=>
  aa k (AL k f r3 i a_r) fun r4=>
  ret (r4.1,r4.2)))
noncomputable def vU {S:Type} (k:Nat) (f:List Cl) (i:Int) (a_r:List Cl) (ret:List Cl×Int→Option S):Option S:=Oc k ret f i a_r
def NP {S:Type} (k:Nat) (ret:List Cl×Int→Option S) (f:List Cl) (depth c0:Int) (c1:List Cl):Option S:=
 aa k (nk k f) fun r1=>
 aa k (gm k r1 (IntKind.wrap .i64 (c0+depth))) fun r2=>
 ab (!r2) (
 aa k (q_ k f) fun r3=>
 ret (r3,0)) (
 aa k (j6 k c1 0 depth) fun r4=>
 ab (!(r4.2==0)) (
  ret (([]:List Cl),r4.2)) (
  aa k (vU k f (IntKind.wrap .i64 (c0+depth)) r4.1) fun r5=>
  ret (r5.1,r5.2)))
noncomputable def vG {S:Type} (k:Nat) (f:List Cl) (depth c0:Int) (c1:List Cl) (ret:List Cl×Int→Option S):Option S:=NP k ret f depth c0 c1
def NT {S:Type} (k:Nat) (ret:List Cl×Int→Option S) (t:Tm) (depth c0:Int) (c1:List Cl):Option S:=
 ab (t.kind==14) (
 aa k (ra k t.r depth c0 c1) fun r1=>
 ret (r1.1,r1.2)) (
 aa k (vG k t.r depth c0 c1) fun r2=>
 ret (r2.1,r2.2))
noncomputable def vH {S:Type} (k:Nat) (t:Tm) (depth c0:Int) (c1:List Cl) (ret:List Cl×Int→Option S):Option S:=NT k ret t depth c0 c1
noncomputable def Ec {S:Type} (k:Nat) (ret:Int→Option S) (i:Int) (c0:Tm):Option S:=
 aa k (kf k c0.kind i) fun r1=>
 ret r1.2
noncomputable def rd {S:Type} (k:Nat) (i:Int) (c0:Tm) (ret:Int→Option S):Option S:=Ec k ret i c0
noncomputable def Ed {S:Type} (k:Nat) (ret:Int→Option S) (p c0:Int):Option S:=
 ret c0
noncomputable def re {S:Type} (k:Nat) (p c0:Int) (ret:Int→Option S):Option S:=Ed k ret p c0
abbrev cP (S:Type):=Tm→Int→Int→(List Cl)→(Tm×Int→Option S)→Option S
def uh {S:Type} (hd:cP S) (k:Nat) (ret:List Tm×Int→Option S) (c0:Int) (c1:List Cl) (c4:Int) (l:List Tm) (depth:Int) (rec0:(List Tm)→Int→Option S) (out10:List Tm) (v17:Int):Option S:=
 ab (decide ((v17:Int)<(l.length:Int))) (
 Option.bind (al l v17) fun x1=>
 aa k (re k v17 c4) fun r2=>
 hd (ac x1) (IntKind.wrap .i64 (depth+r2)) c0 c1 fun r3=>
 ab (!(r3.2==0)) (
  ret (([]:List Tm),r3.2)) (
  Option.bind (ax 1099511627776 out10.length [(ac r3.1)].length) fun x4=>
   rec0 (out10++[(ac r3.1)]) (IntKind.wrap .i64 (v17+1)))) (
 ret (out10,0))
noncomputable def kI {S:Type} (hd:cP S) (k:Nat) (ret:List Tm×Int→Option S) (c0:Int) (c1:List Cl) (c4:Int) (l:List Tm) (depth:Int):Nat→(List Tm)→Int→Option S
 |0=>fun _ _=> .none
 |m+1=>fun out10 v17=>uh hd k ret c0 c1 c4 l depth (kI hd k ret c0 c1 c4 l depth m) out10 v17
noncomputable def Ea {S:Type} (hd:cP S) (k:Nat) (ret:List Tm×Int→Option S) (J0:(List Tm)→Int→Option S) (l:List Tm) (depth c0:Int) (c1:List Cl) (c4:Int):Option S:=
 J0 ([]:List Tm) 0
noncomputable def AF {S:Type} (hd:cP S) (k:Nat) (l:List Tm) (depth c0:Int) (c1:List Cl) (c4:Int) (ret:List Tm×Int→Option S):Option S:=Ea hd k ret (fun out10 v17=>kI hd k ret c0 c1 c4 l depth k out10 v17) l depth c0 c1 c4
def ui {S:Type} (hd:cP S) (k:Nat) (ret:List Tm×Int→Option S) (c0:Int) (c1:List Cl) (c4:Tm) (l:List Tm) (depth:Int) (rec0:(List Tm)→Int→Option S) (out10:List Tm) (v17:Int):Option S:=
 ab (decide ((v17:Int)<(l.length:Int))) (
 Option.bind (al l v17) fun x1=>
 aa k (rd k v17 (ac c4)) fun r2=>
 hd (ac x1) (IntKind.wrap .i64 (depth+r2)) c0 c1 fun r3=>
 ab (!(r3.2==0)) (
  ret (([]:List Tm),r3.2)) (
  Option.bind (ax 1099511627776 out10.length [(ac r3.1)].length) fun x4=>
   rec0 (out10++[(ac r3.1)]) (IntKind.wrap .i64 (v17+1)))) (
 ret (out10,0))
noncomputable def kJ {S:Type} (hd:cP S) (k:Nat) (ret:List Tm×Int→Option S) (c0:Int) (c1:List Cl) (c4:Tm) (l:List Tm) (depth:Int):Nat→(List Tm)→Int→Option S
 |0=>fun _ _=> .none
 |m+1=>fun out10 v17=>ui hd k ret c0 c1 c4 l depth (kJ hd k ret c0 c1 c4 l depth m) out10 v17
noncomputable def Eb {S:Type} (hd:cP S) (k:Nat) (ret:List Tm×Int→Option S) (J0:(List Tm)→Int→Option S) (l:List Tm) (depth c0:Int) (c1:List Cl) (c4:Tm):Option S:=
 J0 ([]:List Tm) 0
noncomputable def AG {S:Type} (hd:cP S) (k:Nat) (l:List Tm) (depth c0:Int) (c1:List Cl) (c4:Tm) (ret:List Tm×Int→Option S):Option S:=Eb hd k ret (fun out10 v17=>kJ hd k ret c0 c1 c4 l depth k out10 v17) l depth c0 c1 c4
def uj {S:Type} (hd:cP S) (k:Nat) (ret:Tm×Int→Option S) (c0:Int) (c1:List Cl) (t:Tm) (r1:List Cl×Int) (r2:List Tm×Int) (depth:Int) (rec0:Int→(List (Br Tm))→Int→Option S) (b10_0:Int) (b8_5:List (Br Tm)) (v55:Int):Option S:=
 ab (decide ((v55:Int)<(t.sys.length:Int))) (
 Option.bind (al t.sys v55) fun x3=>
 aa k (ra k x3.face depth c0 c1) fun r4=>
 ab (!(r4.2==0)) (
  ret ((Tm.mk 0 0 ByteArray.empty [] [] []),r4.2)) (
  ab ((r4.1.length:Int)==0) (
    rec0 b10_0 b8_5 (IntKind.wrap .i64 (v55+1))) (
  aa k (AF hd k x3.kids depth c0 c1 b10_0) fun r5=>
  ab (!(r5.2==0)) (
   ret ((Tm.mk 0 0 ByteArray.empty [] [] []),r5.2)) (
   Option.bind (ax 1099511627776 b8_5.length [(Br.mk r4.1 r5.1)].length) fun x6=>
     rec0 b10_0 (b8_5++[(Br.mk r4.1 r5.1)]) (IntKind.wrap .i64 (v55+1)))))) (
 ret ((Tm.mk t.kind t.n t.name r1.1 r2.1 b8_5),0))
noncomputable def fw {S:Type} (hd:cP S) (k:Nat) (ret:Tm×Int→Option S) (c0:Int) (c1:List Cl) (t:Tm) (r1:List Cl×Int) (r2:List Tm×Int) (depth:Int):Nat→Int→(List (Br Tm))→Int→Option S
 |0=>fun _ _ _=> .none
 |m+1=>fun b10_0 b8_5 v55=>uj hd k ret c0 c1 t r1 r2 depth (fw hd k ret c0 c1 t r1 r2 depth m) b10_0 b8_5 v55
def Ee {S:Type} (hd:cP S) (k:Nat) (ret:Tm×Int→Option S) (J0:(List Cl×Int)→(List Tm×Int)→Int→(List (Br Tm))→Int→Option S) (t:Tm) (depth c0:Int) (c1:List Cl):Option S:=
 aa k (vH k (ac t) depth c0 c1) fun r1=>
 ab (!(r1.2==0)) (
 ret ((Tm.mk 0 0 ByteArray.empty [] [] []),r1.2)) (
 aa k (AG hd k t.kids depth c0 c1 (ac t)) fun r2=>
 ab (!(r2.2==0)) (
  ret ((Tm.mk 0 0 ByteArray.empty [] [] []),r2.2)) (
  ab (t.kind==15) (
    J0 r1 r2 1 ([]:List (Br Tm)) 0) (
    J0 r1 r2 0 ([]:List (Br Tm)) 0)))
noncomputable def dM {S:Type}:Nat→Tm→Int→Int→(List Cl)→(Tm×Int→Option S)→Option S
 |0=>fun _ _ _ _ _=> .none
 |k+1=>fun t depth c0 c1 ret=>Ee (dM k) k ret (fun r1 r2 b10_0 b8_5 v55=>fw (dM k) k ret c0 c1 t r1 r2 depth k b10_0 b8_5 v55) t depth c0 c1
noncomputable def NN {S:Type} (k:Nat) (ret:Int→Option S) (i:Int):Option S:=
 ret i
noncomputable def Ay {S:Type} (k:Nat) (i:Int) (ret:Int→Option S):Option S:=NN k ret i
def Ot {S:Type} (k:Nat) (ret:Int→Option S) (s i:Int):Option S:=
 aa k (lO k i) fun r1=>
 ab (!r1) (
 ret (aY .and .u32 s 16777215)) (
 aa k (nu k i) fun r2=>
 Option.bind (bM (0≤(IntKind.wrap .u64 (IntKind.wrap .i64 (i+1))))) fun x3=>
 Option.bind (bM (0≤(IntKind.wrap .u64 i))) fun x4=>
 ret (aY .or .u32 (aY .and .u32 (aY .and .u32 s 16777215) r2) (IntKind.wrap .u32 ((Int.fdiv (aY .and .u32 s 16777215) (2^min (Int.toNat (IntKind.wrap .u64 (IntKind.wrap .i64 (i+1)))) 32))*2^min (Int.toNat (IntKind.wrap .u64 i)) 32))))
noncomputable def nq {S:Type} (k:Nat) (s i:Int) (ret:Int→Option S):Option S:=Ot k ret s i
def ue {S:Type} (k:Nat) (ret:List Cl×Int→Option S) (c0 depth:Int) (f:List Cl) (rec0:Int→(List Cl)→Option S) (v12:Int) (out7:List Cl):Option S:=
 ab (decide ((v12:Int)<(f.length:Int))) (
 Option.bind (al f v12) fun x1=>
 aa k (nq k x1.pos (IntKind.wrap .i64 (c0+depth))) fun r2=>
 aa k (nq k x1.neg (IntKind.wrap .i64 (c0+depth))) fun r3=>
 Option.bind (ax 1099511627776 out7.length [(Cl.mk r2 r3)].length) fun x4=>
  rec0 (IntKind.wrap .i64 (v12+1)) (out7++[(Cl.mk r2 r3)])) (
 aa k (fQ k out7) fun r5=>
 ret (r5.1,r5.2))
noncomputable def nW {S:Type} (k:Nat) (ret:List Cl×Int→Option S) (c0 depth:Int) (f:List Cl):Nat→Int→(List Cl)→Option S
 |0=>fun _ _=> .none
 |m+1=>fun v12 out7=>ue k ret c0 depth f (nW k ret c0 depth f m) v12 out7
noncomputable def D7 {S:Type} (k:Nat) (ret:List Cl×Int→Option S) (J0:Int→(List Cl)→Option S) (f:List Cl) (depth c0:Int):Option S:=
 J0 0 ([]:List Cl)
noncomputable def ni {S:Type} (k:Nat) (f:List Cl) (depth c0:Int) (ret:List Cl×Int→Option S):Option S:=D7 k ret (fun v12 out7=>nW k ret c0 depth f k v12 out7) f depth c0
def NU {S:Type} (k:Nat) (ret:List Cl×Int→Option S) (t:Tm) (depth c0:Int):Option S:=
 ab (t.kind==14) (
 aa k (ni k t.r depth c0) fun r1=>
 ret (r1.1,r1.2)) (
 aa k (ni k t.r depth c0) fun r2=>
 ret (r2.1,r2.2))
noncomputable def vI {S:Type} (k:Nat) (t:Tm) (depth c0:Int) (ret:List Cl×Int→Option S):Option S:=NU k ret t depth c0
abbrev cQ (S:Type):=Tm→Int→Int→(Tm×Int→Option S)→Option S
def uf {S:Type} (hd:cQ S) (k:Nat) (ret:List Tm×Int→Option S) (c0 c1:Int) (l:List Tm) (depth:Int) (rec0:(List Tm)→Int→Option S) (out10:List Tm) (v17:Int):Option S:=
 ab (decide ((v17:Int)<(l.length:Int))) (
 Option.bind (al l v17) fun x1=>
 aa k (re k v17 c1) fun r2=>
 hd (ac x1) (IntKind.wrap .i64 (depth+r2)) c0 fun r3=>
 ab (!(r3.2==0)) (
  ret (([]:List Tm),r3.2)) (
  Option.bind (ax 1099511627776 out10.length [(ac r3.1)].length) fun x4=>
   rec0 (out10++[(ac r3.1)]) (IntKind.wrap .i64 (v17+1)))) (
 ret (out10,0))
noncomputable def kG {S:Type} (hd:cQ S) (k:Nat) (ret:List Tm×Int→Option S) (c0 c1:Int) (l:List Tm) (depth:Int):Nat→(List Tm)→Int→Option S
 |0=>fun _ _=> .none
 |m+1=>fun out10 v17=>uf hd k ret c0 c1 l depth (kG hd k ret c0 c1 l depth m) out10 v17
noncomputable def D9 {S:Type} (hd:cQ S) (k:Nat) (ret:List Tm×Int→Option S) (J0:(List Tm)→Int→Option S) (l:List Tm) (depth c0 c1:Int):Option S:=
 J0 ([]:List Tm) 0
noncomputable def AD {S:Type} (hd:cQ S) (k:Nat) (l:List Tm) (depth c0 c1:Int) (ret:List Tm×Int→Option S):Option S:=D9 hd k ret (fun out10 v17=>kG hd k ret c0 c1 l depth k out10 v17) l depth c0 c1
def ug {S:Type} (hd:cQ S) (k:Nat) (ret:List Tm×Int→Option S) (c0:Int) (c1:Tm) (l:List Tm) (depth:Int) (rec0:(List Tm)→Int→Option S) (out10:List Tm) (v17:Int):Option S:=
 ab (decide ((v17:Int)<(l.length:Int))) (
 Option.bind (al l v17) fun x1=>
 aa k (rd k v17 (ac c1)) fun r2=>
 hd (ac x1) (IntKind.wrap .i64 (depth+r2)) c0 fun r3=>
 ab (!(r3.2==0)) (
  ret (([]:List Tm),r3.2)) (
  Option.bind (ax 1099511627776 out10.length [(ac r3.1)].length) fun x4=>
   rec0 (out10++[(ac r3.1)]) (IntKind.wrap .i64 (v17+1)))) (
 ret (out10,0))
noncomputable def kH {S:Type} (hd:cQ S) (k:Nat) (ret:List Tm×Int→Option S) (c0:Int) (c1:Tm) (l:List Tm) (depth:Int):Nat→(List Tm)→Int→Option S
 |0=>fun _ _=> .none
 |m+1=>fun out10 v17=>ug hd k ret c0 c1 l depth (kH hd k ret c0 c1 l depth m) out10 v17
noncomputable def D_ {S:Type} (hd:cQ S) (k:Nat) (ret:List Tm×Int→Option S) (J0:(List Tm)→Int→Option S) (l:List Tm) (depth c0:Int) (c1:Tm):Option S:=
 J0 ([]:List Tm) 0
noncomputable def AE {S:Type} (hd:cQ S) (k:Nat) (l:List Tm) (depth c0:Int) (c1:Tm) (ret:List Tm×Int→Option S):Option S:=D_ hd k ret (fun out10 v17=>kH hd k ret c0 c1 l depth k out10 v17) l depth c0 c1
def uk {S:Type} (hd:cQ S) (k:Nat) (ret:Tm×Int→Option S) (c0:Int) (t:Tm) (r1:List Cl×Int) (r2:List Tm×Int) (depth:Int) (rec0:Int→(List (Br Tm))→Int→Option S) (b10_0:Int) (b8_5:List (Br Tm)) (v55:Int):Option S:=
 ab (decide ((v55:Int)<(t.sys.length:Int))) (
 Option.bind (al t.sys v55) fun x3=>
 aa k (ni k x3.face depth c0) fun r4=>
 ab (!(r4.2==0)) (
  ret ((Tm.mk 0 0 ByteArray.empty [] [] []),r4.2)) (
  ab ((r4.1.length:Int)==0) (
    rec0 b10_0 b8_5 (IntKind.wrap .i64 (v55+1))) (
  aa k (AD hd k x3.kids depth c0 b10_0) fun r5=>
  ab (!(r5.2==0)) (
   ret ((Tm.mk 0 0 ByteArray.empty [] [] []),r5.2)) (
   Option.bind (ax 1099511627776 b8_5.length [(Br.mk r4.1 r5.1)].length) fun x6=>
     rec0 b10_0 (b8_5++[(Br.mk r4.1 r5.1)]) (IntKind.wrap .i64 (v55+1)))))) (
 ret ((Tm.mk t.kind t.n t.name r1.1 r2.1 b8_5),0))
noncomputable def fy {S:Type} (hd:cQ S) (k:Nat) (ret:Tm×Int→Option S) (c0:Int) (t:Tm) (r1:List Cl×Int) (r2:List Tm×Int) (depth:Int):Nat→Int→(List (Br Tm))→Int→Option S
 |0=>fun _ _ _=> .none
 |m+1=>fun b10_0 b8_5 v55=>uk hd k ret c0 t r1 r2 depth (fy hd k ret c0 t r1 r2 depth m) b10_0 b8_5 v55
def Ef {S:Type} (hd:cQ S) (k:Nat) (ret:Tm×Int→Option S) (J0:(List Cl×Int)→(List Tm×Int)→Int→(List (Br Tm))→Int→Option S) (t:Tm) (depth c0:Int):Option S:=
 aa k (vI k (ac t) depth c0) fun r1=>
 ab (!(r1.2==0)) (
 ret ((Tm.mk 0 0 ByteArray.empty [] [] []),r1.2)) (
 aa k (AE hd k t.kids depth c0 (ac t)) fun r2=>
 ab (!(r2.2==0)) (
  ret ((Tm.mk 0 0 ByteArray.empty [] [] []),r2.2)) (
  ab (t.kind==15) (
    J0 r1 r2 1 ([]:List (Br Tm)) 0) (
    J0 r1 r2 0 ([]:List (Br Tm)) 0)))
noncomputable def dG {S:Type}:Nat→Tm→Int→Int→(Tm×Int→Option S)→Option S
 |0=>fun _ _ _ _=> .none
 |k+1=>fun t depth c0 ret=>Ef (dG k) k ret (fun r1 r2 b10_0 b8_5 v55=>fy (dG k) k ret c0 t r1 r2 depth k b10_0 b8_5 v55) t depth c0
def NL {S:Type} (k:Nat) (ret:Tm×Int→Option S) (t:Tm) (i:Int) (a_r:List Cl):Option S:=
 aa k (AH k (ac t) i a_r) fun r1=>
 ab (!(r1==0)) (
 ret ((Tm.mk 0 0 ByteArray.empty [] [] []),r1)) (
 aa k (j6 k a_r i 1) fun r2=>
 ab (!(r2.2==0)) (
  ret ((Tm.mk 0 0 ByteArray.empty [] [] []),r2.2)) (
  aa k (Az k i r2.1) fun r3=>
  dM k (ac t) 0 r3.1 r3.2 fun r4=>
  ab (!(r4.2==0)) (
  ret ((Tm.mk 0 0 ByteArray.empty [] [] []),r4.2)) (
  aa k (Ay k i) fun r5=>
  dG k (ac r4.1) 0 r5 fun r6=>
  ret ((ac r6.1),r6.2))))
noncomputable def qZ {S:Type} (k:Nat) (t:Tm) (i:Int) (a_r:List Cl) (ret:Tm×Int→Option S):Option S:=NL k ret t i a_r
def DY {S:Type} (k:Nat) (ret:Tm×Int→Option S) (line:Tm) (a_r:List Cl) (c0:Int):Option S:=
 aa k (du k c0) fun r1=>
 ab (!r1) (
 ret ((Tm.mk 0 0 ByteArray.empty [] [] []),c0)) (
 aa k (wa k (ac line) 1 2) fun r2=>
 aa k (gj k r2.2 c0) fun r3=>
 aa k (du k r3) fun r4=>
 ab (!r4) (
  ret ((Tm.mk 0 0 ByteArray.empty [] [] []),r3)) (
  aa k (qZ k (ac r2.1) 0 a_r) fun r5=>
  aa k (gj k r5.2 r3) fun r6=>
  ret ((ac r5.1),r6)))
noncomputable def iZ {S:Type} (k:Nat) (line:Tm) (a_r:List Cl) (c0:Int) (ret:Tm×Int→Option S):Option S:=DY k ret line a_r c0
noncomputable def Om {S:Type} (k:Nat) (ret:Pan Int Tm→Option S) (c0 c1:Int) (c2:Tm):Option S:=
 dv k c1 0 (ac c2) 0 0 fun r2=>Pan.elim r2 (fun r2=>
 dv k 0 c0 (ac r2) 0 0 fun r5=>Pan.elim r5 (fun r5=>
  ret (.ok (ac r5))) (fun e6=>
  ret (.pan e6))) (fun e3=>
 ret (.pan e3))
noncomputable def v_ {S:Type} (k:Nat) (c0 c1:Int) (c2:Tm) (ret:Pan Int Tm→Option S):Option S:=Om k ret c0 c1 c2
def uC {S:Type} (k:Nat) (ret:Tm×Int→Option S) (c0 c1:Int) (c2:Tm) (numbers:List Int) (rec0:Int→Option S) (v19:Int):Option S:=
 ab (decide ((v19:Int)<(numbers.length:Int))) (
 Option.bind (al numbers v19) fun x2=>
 ab (decide ((x2:Int)<0)) (
  ret ((Tm.mk 0 0 ByteArray.empty [] [] []),2)) (
   rec0 (IntKind.wrap .i64 (v19+1)))) (
 aa k (v_ k c0 c1 (ac c2)) fun r4=>Pan.elim r4 (fun r4=>
  ret ((ac r4),0)) (fun e5=>
  ret ((Tm.mk 0 0 ByteArray.empty [] [] []),e5)))
noncomputable def mf {S:Type} (k:Nat) (ret:Tm×Int→Option S) (c0 c1:Int) (c2:Tm) (numbers:List Int):Nat→Int→Option S
 |0=>fun _=> .none
 |m+1=>fun v19=>uC k ret c0 c1 c2 numbers (mf k ret c0 c1 c2 numbers m) v19
def Ey {S:Type} (k:Nat) (ret:Tm×Int→Option S) (J0:Int→Option S) (t:Tm) (numbers:List Int) (c0 c1:Int) (c2:Tm):Option S:=
 aa k (kg k (ac t)) fun r1=>
 ab (!(r1==0)) (
 ret ((Tm.mk 0 0 ByteArray.empty [] [] []),r1)) (
  J0 0)
noncomputable def AQ {S:Type} (k:Nat) (t:Tm) (numbers:List Int) (c0 c1:Int) (c2:Tm) (ret:Tm×Int→Option S):Option S:=Ey k ret (fun v19=>mf k ret c0 c1 c2 numbers k v19) t numbers c0 c1 c2
noncomputable def Ol {S:Type} (k:Nat) (ret:Tm×Int→Option S) (t:Tm) (vars dims:Int):Option S:=
 aa k (AQ k (ac t) [vars,dims,IntKind.wrap .i64 (1000000-vars)] dims vars (ac t)) fun r1=>
 ret ((ac r1.1),r1.2)
noncomputable def vZ {S:Type} (k:Nat) (t:Tm) (vars dims:Int) (ret:Tm×Int→Option S):Option S:=Ol k ret t vars dims
def D5 {S:Type} (k:Nat) (ret:Tm×Int→Option S) (t:Tm) (vars dims c0:Int):Option S:=
 aa k (du k c0) fun r1=>
 ab (!r1) (
 ret ((Tm.mk 0 0 ByteArray.empty [] [] []),c0)) (
 aa k (vZ k (ac t) vars dims) fun r2=>
 aa k (gj k r2.2 c0) fun r3=>
 ret ((ac r2.1),r3))
noncomputable def b_ {S:Type} (k:Nat) (t:Tm) (vars dims c0:Int) (ret:Tm×Int→Option S):Option S:=D5 k ret t vars dims c0
noncomputable def iG {S:Type} (k:Nat) (ret:Int×Int×ByteArray×List Tm→Option S) (kind:Int) (kids:List Tm):Option S:=
 ret (kind,0,ByteArray.empty,kids)
noncomputable def bz {S:Type} (k:Nat) (kind:Int) (kids:List Tm) (ret:Int×Int×ByteArray×List Tm→Option S):Option S:=iG k ret kind kids
def DZ {S:Type} (k:Nat) (ret:Tm×Int×Int→Option S) (t:Tm) (c0:Int):Option S:=
 aa k (du k c0) fun r1=>
 ab (r1) (
 aa k (kg k (ac t)) fun r2=>
 aa k (gj k r2 c0) fun r3=>
 aa k (du k r3) fun r4=>
 ab (!r4) (
  ret ((Tm.mk 0 0 ByteArray.empty [] [] []),r3,r3)) (
  ret ((ac t),0,r3))) (
 aa k (du k c0) fun r5=>
 ab (!r5) (
  ret ((Tm.mk 0 0 ByteArray.empty [] [] []),c0,c0)) (
  ret ((ac t),0,c0)))
noncomputable def dT {S:Type} (k:Nat) (t:Tm) (c0:Int) (ret:Tm×Int×Int→Option S):Option S:=DZ k ret t c0
def Nz {S:Type} (k:Nat) (ret:Tm×Int→Option S) (line:Tm) (phi:List Cl) (a:Tm) (a_end:Cl) (a_r:List Cl):Option S:=
 aa k (jZ k [(ac line),(ac a)]) fun r1=>
 aa k (j5 k phi) fun r2=>
 ab (!r2) (
 aa k (gj k 2 r1) fun r3=>
 aa k (i8 k phi r3) fun r4=>
 aa k (j4 k r4.1 [a_end] r4.2) fun r5=>
 aa k (iZ k (ac line) a_r r5.2) fun r6=>
 aa k (b_ k (ac a) 0 1 r6.2) fun r7=>
 aa k (bz k 14 [(ac r6.1),(ac r7.1)]) fun r8=>
 aa k (dT k (Tm.mk r8.1 r8.2.1 r8.2.2.1 r5.1 r8.2.2.2 []) r7.2) fun r9=>
 ret ((ac r9.1),r9.2.1)) (
 aa k (i8 k phi r1) fun r10=>
 aa k (j4 k r10.1 [a_end] r10.2) fun r11=>
 aa k (iZ k (ac line) a_r r11.2) fun r12=>
 aa k (b_ k (ac a) 0 1 r12.2) fun r13=>
 aa k (bz k 14 [(ac r12.1),(ac r13.1)]) fun r14=>
 aa k (dT k (Tm.mk r14.1 r14.2.1 r14.2.2.1 r11.1 r14.2.2.2 []) r13.2) fun r15=>
 ret ((ac r15.1),r15.2.1))
noncomputable def qW {S:Type} (k:Nat) (line:Tm) (phi:List Cl) (a:Tm) (a_end:Cl) (a_r:List Cl) (ret:Tm×Int→Option S):Option S:=Nz k ret line phi a a_end a_r
noncomputable def Ny {S:Type} (k:Nat) (ret:Tm×Int→Option S) (line:Tm) (phi:List Cl) (a:Tm):Option S:=
 aa k (qW k (ac line) phi (ac a) (Cl.mk 0 1) [(Cl.mk 3 0)]) fun r1=>
 ret ((ac r1.1),r1.2)
noncomputable def qV {S:Type} (k:Nat) (line:Tm) (phi:List Cl) (a:Tm) (ret:Tm×Int→Option S):Option S:=Ny k ret line phi a
noncomputable def adT {S:Type} (k:Nat) (ret:Int×Int×ByteArray×List Tm×List (Br Tm)→Option S) (sys:List (Br Tm)):Option S:=
 aa k (bz k 3 ([]:List Tm)) fun r1=>
 aa k (bz k 3 ([]:List Tm)) fun r2=>
 ret (15,0,ByteArray.empty,[(Tm.mk r1.1 r1.2.1 r1.2.2.1 [] r1.2.2.2 []),(Tm.mk r2.1 r2.2.1 r2.2.2.1 [] r2.2.2.2 [])],sys)
noncomputable def F7 {S:Type} (k:Nat) (sys:List (Br Tm)) (ret:Int×Int×ByteArray×List Tm×List (Br Tm)→Option S):Option S:=adT k ret sys
def FL {S:Type} (k:Nat) (ret:Tm×Int→Option S) (a:Tm) (r5:Int×Int×ByteArray×List Tm) (sys:List (Br Tm)) (rec0:Int→(List (Br Tm))→Int→Option S) (b19000_0:Int) (b9_5:List (Br Tm)) (v29:Int):Option S:=
 ab (decide ((v29:Int)<(sys.length:Int))) (
 Option.bind (al sys v29) fun x6=>
 aa k (du k b19000_0) fun r7=>
 ab (!r7) (
  aa k (b_ k (ac a) 0 2 b19000_0) fun r8=>
  Option.bind (ax 1099511627776 b9_5.length [(Br.mk [(Cl.mk 0 1)] [(ac r8.1)])].length) fun x9=>
  aa k (dT k (Tm.mk r5.1 r5.2.1 r5.2.2.1 [] r5.2.2.2 (b9_5++[(Br.mk [(Cl.mk 0 1)] [(ac r8.1)])])) r8.2) fun r10=>
  ret ((ac r10.1),r10.2.1)) (
  aa k (i8 k x6.face b19000_0) fun r11=>
  Option.bind (al x6.kids 0) fun x12=>
  aa k (iZ k (ac x12) [(Cl.mk 3 0)] r11.2) fun r13=>
  Option.bind (ax 1099511627776 b9_5.length [(Br.mk r11.1 [(ac r13.1)])].length) fun x14=>
   rec0 r13.2 (b9_5++[(Br.mk r11.1 [(ac r13.1)])]) (IntKind.wrap .i64 (v29+1)))) (
 aa k (b_ k (ac a) 0 2 b19000_0) fun r15=>
 Option.bind (ax 1099511627776 b9_5.length [(Br.mk [(Cl.mk 0 1)] [(ac r15.1)])].length) fun x16=>
 aa k (dT k (Tm.mk r5.1 r5.2.1 r5.2.2.1 [] r5.2.2.2 (b9_5++[(Br.mk [(Cl.mk 0 1)] [(ac r15.1)])])) r15.2) fun r17=>
 ret ((ac r17.1),r17.2.1))
noncomputable def BS {S:Type} (k:Nat) (ret:Tm×Int→Option S) (a:Tm) (r5:Int×Int×ByteArray×List Tm) (sys:List (Br Tm)):Nat→Int→(List (Br Tm))→Int→Option S
 |0=>fun _ _ _=> .none
 |m+1=>fun b19000_0 b9_5 v29=>FL k ret a r5 sys (BS k ret a r5 sys m) b19000_0 b9_5 v29
noncomputable def Nx {S:Type} (k:Nat) (ret:Tm×Int→Option S) (J0:(Int×Int×ByteArray×List Tm)→Int→(List (Br Tm))→Int→Option S) (t a:Tm) (sys:List (Br Tm)):Option S:=
 aa k (F7 k sys) fun r1=>
 aa k (jZ k [(ac t),(ac a),(Tm.mk r1.1 r1.2.1 r1.2.2.1 [] r1.2.2.2.1 r1.2.2.2.2)]) fun r2=>
 aa k (b_ k (ac t) 0 1 r2) fun r3=>
 aa k (b_ k (ac a) 0 1 r3.2) fun r4=>
 aa k (bz k 15 [(ac r3.1),(ac r4.1)]) fun r5=>
 J0 r5 r4.2 ([]:List (Br Tm)) 0
noncomputable def F6 {S:Type} (k:Nat) (t a:Tm) (sys:List (Br Tm)) (ret:Tm×Int→Option S):Option S:=Nx k ret (fun r5 b19000_0 b9_5 v29=>BS k ret a r5 sys k b19000_0 b9_5 v29) t a sys
def m6 {S:Type} (k:Nat) (ret:Bool→Option S) (a b:List Cl) (rec0:Int→Option S) (i5:Int):Option S:=
 ab (decide ((i5:Int)<(a.length:Int))) (
 Option.bind (al a i5) fun x1=>
 Option.bind (al b i5) fun x2=>
 ab (!((x1.pos==x2.pos)&&((x1.neg==x2.neg)&&true))) (
  ret false) (
   rec0 (IntKind.wrap .i64 (i5+1)))) (
 ret true)
noncomputable def ju {S:Type} (k:Nat) (ret:Bool→Option S) (a b:List Cl):Nat→Int→Option S
 |0=>fun _=> .none
 |m+1=>fun i5=>m6 k ret a b (ju k ret a b m) i5
def yT {S:Type} (k:Nat) (ret:Bool→Option S) (J0:Int→Option S) (a b:List Cl):Option S:=
 ab (!((a.length:Int)==(b.length:Int))) (
 ret false) (
  J0 0)
noncomputable def hU {S:Type} (k:Nat) (a b:List Cl) (ret:Bool→Option S):Option S:=yT k ret (fun i5=>ju k ret a b k i5) a b
noncomputable def yR {S:Type} (k:Nat) (ret:Int×Int×ByteArray→Option S) (a_n:Int):Option S:=
 ret (1,a_n,ByteArray.empty)
noncomputable def eD {S:Type} (k:Nat) (a_n:Int) (ret:Int×Int×ByteArray→Option S):Option S:=yR k ret a_n
noncomputable def adS {S:Type} (k:Nat) (ret:Int×Int×ByteArray×List Cl×List Tm→Option S) (a_r:List Cl):Option S:=
 aa k (eD k 0) fun r1=>
 aa k (bz k 10 [(Tm.mk r1.1 r1.2.1 r1.2.2 [] [] [])]) fun r2=>
 aa k (eD k 1) fun r3=>
 aa k (eD k 0) fun r4=>
 aa k (bz k 9 [(Tm.mk r4.1 r4.2.1 r4.2.2 [] [] [])]) fun r5=>
 ret (13,0,ByteArray.empty,a_r,[(Tm.mk r2.1 r2.2.1 r2.2.2.1 [] r2.2.2.2 []),(Tm.mk r3.1 r3.2.1 r3.2.2 [] [] []),(Tm.mk r5.1 r5.2.1 r5.2.2.1 [] r5.2.2.2 [])])
noncomputable def Ax {S:Type} (k:Nat) (a_r:List Cl) (ret:Int×Int×ByteArray×List Cl×List Tm→Option S):Option S:=adS k ret a_r
noncomputable def adR {S:Type} (k:Nat) (ret:Int×Int×ByteArray×List Tm→Option S):Option S:=
 aa k (eD k 0) fun r1=>
 aa k (eD k 0) fun r2=>
 aa k (bz k 12 [(Tm.mk r2.1 r2.2.1 r2.2.2 [] [] [])]) fun r3=>
 aa k (bz k 8 [(Tm.mk r1.1 r1.2.1 r1.2.2 [] [] []),(Tm.mk r3.1 r3.2.1 r3.2.2.1 [] r3.2.2.2 [])]) fun r4=>
 aa k (Ax k [(Cl.mk 1 0)]) fun r5=>
 aa k (Ax k [(Cl.mk 3 0)]) fun r6=>
 aa k (bz k 12 [(Tm.mk r6.1 r6.2.1 r6.2.2.1 r6.2.2.2.1 r6.2.2.2.2 [])]) fun r7=>
 aa k (bz k 8 [(Tm.mk r5.1 r5.2.1 r5.2.2.1 r5.2.2.2.1 r5.2.2.2.2 []),(Tm.mk r7.1 r7.2.1 r7.2.2.1 [] r7.2.2.2 [])]) fun r8=>
 aa k (bz k 12 [(Tm.mk r8.1 r8.2.1 r8.2.2.1 [] r8.2.2.2 [])]) fun r9=>
 aa k (bz k 5 [(Tm.mk r9.1 r9.2.1 r9.2.2.1 [] r9.2.2.2 [])]) fun r10=>
 aa k (eD k 0) fun r11=>
 aa k (bz k 5 [(Tm.mk r11.1 r11.2.1 r11.2.2 [] [] [])]) fun r12=>
 aa k (bz k 8 [(Tm.mk r4.1 r4.2.1 r4.2.2.1 [] r4.2.2.2 []),(Tm.mk r10.1 r10.2.1 r10.2.2.1 [] r10.2.2.2 [])]) fun r13=>
 aa k (bz k 5 [(Tm.mk r13.1 r13.2.1 r13.2.2.1 [] r13.2.2.2 [])]) fun r14=>
 aa k (bz k 8 [(Tm.mk r12.1 r12.2.1 r12.2.2.1 [] r12.2.2.2 []),(Tm.mk r14.1 r14.2.1 r14.2.2.1 [] r14.2.2.2 [])]) fun r15=>
 ret (r15.1,r15.2.1,r15.2.2.1,r15.2.2.2)
noncomputable def qU {S:Type} (k:Nat) (ret:Int×Int×ByteArray×List Tm→Option S):Option S:=adR k ret
def adZ {S:Type} (k:Nat) (ret:Int→Option S) (t:Tm) (vars dims:Int):Option S:=
 ab (decide ((vars:Int)<0)) (
 ret 2) (
 ab (decide ((dims:Int)<0)) (
  ret 2) (
  ab (decide ((dims:Int)>24)) (
  ret 2) (
  aa k (rN k (ac t)) fun r1=>
  ab (!(r1==0)) (
   ret r1) (
   fl k (ac t) vars dims true fun r2=>
   ab (!r2) (
   ret 100) (
   ret 0)))))
noncomputable def F9 {S:Type} (k:Nat) (t:Tm) (vars dims:Int) (ret:Int→Option S):Option S:=adZ k ret t vars dims
def adU {S:Type} (k:Nat) (ret:Bool→Option S):Option S:=
 aa k (qV k (Tm.mk 3 0 ByteArray.empty [] [] []) ([]:List Cl) (Tm.mk 20 0 ByteArray.empty [] [] [])) fun r1=>
 aa k (F6 k (Tm.mk 19 0 ByteArray.empty [] [] []) (Tm.mk 20 0 ByteArray.empty [] [] []) ([]:List (Br Tm))) fun r2=>
 ab (r1.2==0) (
 ab (r1.1.kind==14) (
  aa k (hU k r1.1.r [(Cl.mk 0 1)]) fun r3=>
  ab (r3) (
  ab ((r1.1.kids.length:Int)==2) (
   Option.bind (al r1.1.kids 0) fun x4=>
   ab (x4.kind==3) (
   ab (r2.2==0) (
    ab (r2.1.kind==15) (
    ab ((r2.1.sys.length:Int)==1) (
     Option.bind (al r2.1.sys 0) fun x5=>
     aa k (hU k x5.face [(Cl.mk 0 1)]) fun r6=>
     ab (r6) (
     aa k (qU k) fun r7=>
     aa k (F9 k (Tm.mk r7.1 r7.2.1 r7.2.2.1 [] r7.2.2.2 []) 0 0) fun r8=>
     ret (r8==0)) (
     ret false)) (
     ret false)) (
    ret false)) (
    ret false)) (
   ret false)) (
   ret false)) (
  ret false)) (
  ret false)) (
 ret false)
noncomputable def g7 {S:Type} (k:Nat) (ret:Bool→Option S):Option S:=adU k ret
abbrev gc (S:Type):=Tm→(Int→Option S)→Option S
def u4 {S:Type} (hd:gc S) (k:Nat) (ret:Int→Option S) (t:Tm) (i6:Int) (rec1:Int→Int→Option S) (rec2:Int→Int→Option S) (most3'' v7:Int):Option S:=
 Option.bind (al t.sys i6) fun x3=>
 ab (decide ((v7:Int)<(x3.kids.length:Int))) (
 Option.bind (al t.sys i6) fun x4=>
 Option.bind (al x4.kids v7) fun x5=>
 hd (ac x5) fun r6=>
 ab (decide ((r6:Int)>most3'')) (
   rec2 r6 (IntKind.wrap .i64 (v7+1))) (
   rec2 most3'' (IntKind.wrap .i64 (v7+1)))) (
  rec1 most3'' (IntKind.wrap .i64 (i6+1)))
noncomputable def jv {S:Type} (hd:gc S) (k:Nat) (ret:Int→Option S) (rec1:Int→Int→Option S) (t:Tm) (i6:Int):Nat→Int→Int→Option S
 |0=>fun _ _=> .none
 |m+1=>fun most3'' v7=>u4 hd k ret t i6 rec1 (jv hd k ret rec1 t i6 m) most3'' v7
def qz {S:Type} (hd:gc S) (k:Nat) (ret:Int→Option S) (t:Tm) (J2:Int→Int→Int→Option S) (rec1:Int→Int→Option S) (most3' i6:Int):Option S:=
 ab (decide ((i6:Int)<(t.sys.length:Int))) (
  J2 i6 most3' 0) (
 ret (IntKind.wrap .i64 (most3'+1)))
noncomputable def gz {S:Type} (hd:gc S) (k:Nat) (ret:Int→Option S) (t:Tm):Nat→Int→Int→Option S
 |0=>fun _ _=> .none
 |m+1=>fun most3' i6=>qz hd k ret t (fun i6 most3'' v7=>jv hd k ret (gz hd k ret t m) t i6 k most3'' v7) (gz hd k ret t m) most3' i6
def qy {S:Type} (hd:gc S) (k:Nat) (ret:Int→Option S) (t:Tm) (J1:Int→Int→Option S) (rec0:Int→Int→Option S) (most3 i4:Int):Option S:=
 ab (decide ((i4:Int)<(t.kids.length:Int))) (
 Option.bind (al t.kids i4) fun x1=>
 hd (ac x1) fun r2=>
 ab (decide ((r2:Int)>most3)) (
   rec0 r2 (IntKind.wrap .i64 (i4+1))) (
   rec0 most3 (IntKind.wrap .i64 (i4+1)))) (
  J1 most3 0)
noncomputable def mo {S:Type} (hd:gc S) (k:Nat) (ret:Int→Option S) (t:Tm):Nat→Int→Int→Option S
 |0=>fun _ _=> .none
 |m+1=>fun most3 i4=>qy hd k ret t (fun most3' i6=>gz hd k ret t k most3' i6) (mo hd k ret t m) most3 i4
noncomputable def EZ {S:Type} (hd:gc S) (k:Nat) (ret:Int→Option S) (J0:Int→Int→Option S) (t:Tm):Option S:=
 J0 0 0
noncomputable def hY {S:Type}:Nat→Tm→(Int→Option S)→Option S
 |0=>fun _ _=> .none
 |k+1=>fun t ret=>EZ (hY k) k ret (fun most3 i4=>mo (hY k) k ret t k most3 i4) t
abbrev gf (S:Type):=Tm→(Int→Option S)→Option S
def u6 {S:Type} (hd:gf S) (k:Nat) (ret:Int→Option S) (t:Tm) (i5:Int) (rec1:Int→Int→Option S) (rec2:Int→Int→Option S) (v3'' v6:Int):Option S:=
 Option.bind (al t.sys i5) fun x3=>
 ab (decide ((v6:Int)<(x3.kids.length:Int))) (
 Option.bind (al t.sys i5) fun x4=>
 Option.bind (al x4.kids v6) fun x5=>
 hd (ac x5) fun r6=>
  rec2 (IntKind.wrap .i64 (v3''+r6)) (IntKind.wrap .i64 (v6+1))) (
  rec1 v3'' (IntKind.wrap .i64 (i5+1)))
noncomputable def kS {S:Type} (hd:gf S) (k:Nat) (ret:Int→Option S) (rec1:Int→Int→Option S) (t:Tm) (i5:Int):Nat→Int→Int→Option S
 |0=>fun _ _=> .none
 |m+1=>fun v3'' v6=>u6 hd k ret t i5 rec1 (kS hd k ret rec1 t i5 m) v3'' v6
def qB {S:Type} (hd:gf S) (k:Nat) (ret:Int→Option S) (t:Tm) (J2:Int→Int→Int→Option S) (rec1:Int→Int→Option S) (v3' i5:Int):Option S:=
 ab (decide ((i5:Int)<(t.sys.length:Int))) (
  J2 i5 v3' 0) (
 ret v3')
noncomputable def gA {S:Type} (hd:gf S) (k:Nat) (ret:Int→Option S) (t:Tm):Nat→Int→Int→Option S
 |0=>fun _ _=> .none
 |m+1=>fun v3' i5=>qB hd k ret t (fun i5 v3'' v6=>kS hd k ret (gA hd k ret t m) t i5 k v3'' v6) (gA hd k ret t m) v3' i5
def qA {S:Type} (hd:gf S) (k:Nat) (ret:Int→Option S) (t:Tm) (J1:Int→Int→Option S) (rec0:Int→Int→Option S) (v3 i4:Int):Option S:=
 ab (decide ((i4:Int)<(t.kids.length:Int))) (
 Option.bind (al t.kids i4) fun x1=>
 hd (ac x1) fun r2=>
  rec0 (IntKind.wrap .i64 (v3+r2)) (IntKind.wrap .i64 (i4+1))) (
  J1 v3 0)
noncomputable def oC {S:Type} (hd:gf S) (k:Nat) (ret:Int→Option S) (t:Tm):Nat→Int→Int→Option S
 |0=>fun _ _=> .none
 |m+1=>fun v3 i4=>qA hd k ret t (fun v3' i5=>gA hd k ret t k v3' i5) (oC hd k ret t m) v3 i4
noncomputable def E1 {S:Type} (hd:gf S) (k:Nat) (ret:Int→Option S) (J0:Int→Int→Option S) (t:Tm):Option S:=
 J0 1 0
noncomputable def h9 {S:Type}:Nat→Tm→(Int→Option S)→Option S
 |0=>fun _ _=> .none
 |k+1=>fun t ret=>E1 (h9 k) k ret (fun v3 i4=>oC (h9 k) k ret t k v3 i4) t
def OS {S:Type} (k:Nat) (ret:Int→Option S) (t:Tm):Option S:=
 hY k (ac t) fun r1=>
 ab (decide ((r1:Int)>200)) (
 ret 62) (
 h9 k (ac t) fun r2=>
 ab (decide ((r2:Int)>20000)) (
  ret 221) (
  ret 0))
noncomputable def wq {S:Type} (k:Nat) (t:Tm) (ret:Int→Option S):Option S:=OS k ret t
def OO {S:Type} (k:Nat) (ret:Int→Option S) (kind:Int):Option S:=
 ab (decide ((kind:Int)<0)) (
 ret (-1)) (
 ab (decide ((kind:Int)>28)) (
  ret (-1)) (
  Option.bind (bM (0≤kind∧kind<(29:Int))) fun x1=>
  Option.bind (al [(-1),0,0,0,2,1,2,2,2,1,1,3,1,3,2,2,1,1,1,0,0,0,4,1,0,0,1,5,2] kind) fun x2=>
  ret x2))
noncomputable def rx {S:Type} (k:Nat) (kind:Int) (ret:Int→Option S):Option S:=OO k ret kind
def OQ {S:Type} (k:Nat) (ret:Int→Option S) (kind:Int):Option S:=
 ab (kind==16) (
 ret 2) (
 ab (kind==15) (
  ret 1) (
  ab (kind==17) (
  ret 1) (
  ab (kind==18) (
   ret 1) (
   ret 0))))
noncomputable def nD {S:Type} (k:Nat) (kind:Int) (ret:Int→Option S):Option S:=OQ k ret kind
def Ag {S:Type} (k:Nat) (ret:Bool→Option S) (s:ByteArray) (i3:Int) (x1:UInt8) (rec0:Int→Option S):Option S:=
 ab (!((x1.toNat:Int)==95)) (
 ab (decide (((x1.toNat:Int):Int)<97)) (
  ab (decide (((x1.toNat:Int):Int)<65)) (
  ret false) (
  ab (decide (((x1.toNat:Int):Int)>90)) (
   ret false) (
     rec0 (IntKind.wrap .i64 (i3+1))))) (
  ab (decide (((x1.toNat:Int):Int)>122)) (
  ab (decide (((x1.toNat:Int):Int)<65)) (
   ret false) (
   ab (decide (((x1.toNat:Int):Int)>90)) (
   ret false) (
      rec0 (IntKind.wrap .i64 (i3+1))))) (
    rec0 (IntKind.wrap .i64 (i3+1))))) (
  rec0 (IntKind.wrap .i64 (i3+1)))
noncomputable def xp {S:Type} (k:Nat) (ret:Bool→Option S) (rec0:Int→Option S) (s:ByteArray) (i3:Int) (x1:UInt8):Nat→Option S
 |0=> .none
 |_+1=>Ag k ret s i3 x1 rec0
def qC {S:Type} (k:Nat) (ret:Bool→Option S) (s:ByteArray) (J1:Int→UInt8→Option S) (rec0:Int→Option S) (i3:Int):Option S:=
 ab (decide ((i3:Int)<(s.size:Int))) (
 Option.bind (al s.data.toList i3) fun x1=>
 ab (decide (((x1.toNat:Int):Int)≥48)) (
  ab (decide (((x1.toNat:Int):Int)≤57)) (
  ab (decide ((i3:Int)>0)) (
     rec0 (IntKind.wrap .i64 (i3+1))) (
     J1 i3 x1)) (
    J1 i3 x1)) (
   J1 i3 x1)) (
 ret (decide (((s.size:Int):Int)>0)))
noncomputable def mr {S:Type} (k:Nat) (ret:Bool→Option S) (s:ByteArray):Nat→Int→Option S
 |0=>fun _=> .none
 |m+1=>fun i3=>qC k ret s (fun i3 x1=>xp k ret (mr k ret s m) s i3 x1 k) (mr k ret s m) i3
noncomputable def E3 {S:Type} (k:Nat) (ret:Bool→Option S) (J0:Int→Option S) (s:ByteArray):Option S:=
 J0 0
noncomputable def wn {S:Type} (k:Nat) (s:ByteArray) (ret:Bool→Option S):Option S:=E3 k ret (fun i3=>mr k ret s k i3) s
def uJ {S:Type} (k:Nat) (ret:Int→Option S) (a_n:Int) (rec0:Int→Int→Option S) (p3 i4:Int):Option S:=
 ab (decide ((i4:Int)<a_n)) (
  rec0 (IntKind.wrap .i64 (p3*2)) (IntKind.wrap .i64 (i4+1))) (
 ret p3)
noncomputable def oi {S:Type} (k:Nat) (ret:Int→Option S) (a_n:Int):Nat→Int→Int→Option S
 |0=>fun _ _=> .none
 |m+1=>fun p3 i4=>uJ k ret a_n (oi k ret a_n m) p3 i4
noncomputable def EF {S:Type} (k:Nat) (ret:Int→Option S) (J0:Int→Int→Option S) (a_n:Int):Option S:=
 J0 1 0
noncomputable def ny {S:Type} (k:Nat) (a_n:Int) (ret:Int→Option S):Option S:=EF k ret (fun p3 i4=>oi k ret a_n k p3 i4) a_n
noncomputable def OB {S:Type} (k:Nat) (ret:Bool→Option S) (s:Int):Option S:=
 aa k (ny k 24) fun r1=>
 ret (decide ((IntKind.wrap .i64 s:Int)<r1))
noncomputable def nx {S:Type} (k:Nat) (s:Int) (ret:Bool→Option S):Option S:=OB k ret s
def OH {S:Type} (k:Nat) (ret:Bool→Option S) (c:Cl):Option S:=
 aa k (nx k c.pos) fun r1=>
 ab (r1) (
 aa k (nx k c.neg) fun r2=>
 ret r2) (
 ret false)
noncomputable def rn {S:Type} (k:Nat) (c:Cl) (ret:Bool→Option S):Option S:=OH k ret c
def OD {S:Type} (k:Nat) (ret:Bool→Option S) (a b:Cl):Option S:=
 ab ((aY .or .u32 a.pos b.pos)==a.pos) (
 ret ((aY .or .u32 a.neg b.neg)==a.neg)) (
 ret false)
noncomputable def wd {S:Type} (k:Nat) (a b:Cl) (ret:Bool→Option S):Option S:=OD k ret a b
def uM {S:Type} (k:Nat) (ret:Bool→Option S) (c:Cl) (l:List Cl) (rec0:Int→Option S) (i5:Int):Option S:=
 ab (decide ((i5:Int)<(l.length:Int))) (
 Option.bind (al l i5) fun x1=>
 ab (!((x1.pos==c.pos)&&((x1.neg==c.neg)&&true))) (
  Option.bind (al l i5) fun x2=>
  aa k (wd k c x2) fun r3=>
  ab (r3) (
  ret false) (
    rec0 (IntKind.wrap .i64 (i5+1)))) (
   rec0 (IntKind.wrap .i64 (i5+1)))) (
 ret true)
noncomputable def om {S:Type} (k:Nat) (ret:Bool→Option S) (c:Cl) (l:List Cl):Nat→Int→Option S
 |0=>fun _=> .none
 |m+1=>fun i5=>uM k ret c l (om k ret c l m) i5
noncomputable def EI {S:Type} (k:Nat) (ret:Bool→Option S) (J0:Int→Option S) (l:List Cl) (c:Cl):Option S:=
 J0 0
noncomputable def wh {S:Type} (k:Nat) (l:List Cl) (c:Cl) (ret:Bool→Option S):Option S:=EI k ret (fun i5=>om k ret c l k i5) l c
def OE {S:Type} (k:Nat) (ret:Bool→Option S) (a b:Cl):Option S:=
 ab (decide ((a.pos:Int)<b.pos)) (
 ret true) (
 ab (a.pos==b.pos) (
  ret (decide ((a.neg:Int)<b.neg))) (
  ret false))
noncomputable def we {S:Type} (k:Nat) (a b:Cl) (ret:Bool→Option S):Option S:=OE k ret a b
def uL {S:Type} (k:Nat) (ret:List Cl×Int→Option S) (l out5:List Cl) (i6:Int) (rec1:(List Cl)→Int→Option S) (rec2:Int→Option S) (v7:Int):Option S:=
 ab (decide ((v7:Int)<(out5.length:Int))) (
 Option.bind (al out5 v7) fun x5=>
 Option.bind (al out5 v7) fun x6=>
 Option.bind (al l i6) fun x7=>
 aa k (we k x6 x7) fun r8=>
 ab (r8) (
   rec2 (IntKind.wrap .i64 (v7+1))) (
  ab (v7==(out5.length:Int)) (
  Option.bind (bM (0≤v7∧v7≤(out5.length:Int))) fun x9=>
  Option.bind (ax 1099511627776 ([]:List Cl).length (List.take (Int.toNat v7) out5).length) fun x10=>
  Option.bind (al l i6) fun x11=>
  Option.bind (ax 1099511627776 (([]:List Cl)++(List.take (Int.toNat v7) out5)).length [x11].length) fun x12=>
  Option.bind (bM (0≤v7∧v7≤(out5.length:Int))) fun x13=>
  Option.bind (ax 1099511627776 ((([]:List Cl)++(List.take (Int.toNat v7) out5))++[x11]).length (List.drop (Int.toNat v7) out5).length) fun x14=>
    rec1 (((([]:List Cl)++(List.take (Int.toNat v7) out5))++[x11])++(List.drop (Int.toNat v7) out5)) (IntKind.wrap .i64 (i6+1))) (
  Option.bind (al out5 v7) fun x15=>
  Option.bind (al out5 v7) fun x16=>
  Option.bind (al l i6) fun x17=>
  ab (!((x16.pos==x17.pos)&&((x16.neg==x17.neg)&&true))) (
   Option.bind (bM (0≤v7∧v7≤(out5.length:Int))) fun x18=>
   Option.bind (ax 1099511627776 ([]:List Cl).length (List.take (Int.toNat v7) out5).length) fun x19=>
   Option.bind (al l i6) fun x20=>
   Option.bind (ax 1099511627776 (([]:List Cl)++(List.take (Int.toNat v7) out5)).length [x20].length) fun x21=>
   Option.bind (bM (0≤v7∧v7≤(out5.length:Int))) fun x22=>
   Option.bind (ax 1099511627776 ((([]:List Cl)++(List.take (Int.toNat v7) out5))++[x20]).length (List.drop (Int.toNat v7) out5).length) fun x23=>
     rec1 (((([]:List Cl)++(List.take (Int.toNat v7) out5))++[x20])++(List.drop (Int.toNat v7) out5)) (IntKind.wrap .i64 (i6+1))) (
     rec1 out5 (IntKind.wrap .i64 (i6+1)))))) (
 ab (v7==(out5.length:Int)) (
  Option.bind (bM (0≤v7∧v7≤(out5.length:Int))) fun x24=>
  Option.bind (ax 1099511627776 ([]:List Cl).length (List.take (Int.toNat v7) out5).length) fun x25=>
  Option.bind (al l i6) fun x26=>
  Option.bind (ax 1099511627776 (([]:List Cl)++(List.take (Int.toNat v7) out5)).length [x26].length) fun x27=>
  Option.bind (bM (0≤v7∧v7≤(out5.length:Int))) fun x28=>
  Option.bind (ax 1099511627776 ((([]:List Cl)++(List.take (Int.toNat v7) out5))++[x26]).length (List.drop (Int.toNat v7) out5).length) fun x29=>
   rec1 (((([]:List Cl)++(List.take (Int.toNat v7) out5))++[x26])++(List.drop (Int.toNat v7) out5)) (IntKind.wrap .i64 (i6+1))) (
  Option.bind (al out5 v7) fun x30=>
  Option.bind (al out5 v7) fun x31=>
  Option.bind (al l i6) fun x32=>
  ab (!((x31.pos==x32.pos)&&((x31.neg==x32.neg)&&true))) (
  Option.bind (bM (0≤v7∧v7≤(out5.length:Int))) fun x33=>
  Option.bind (ax 1099511627776 ([]:List Cl).length (List.take (Int.toNat v7) out5).length) fun x34=>
  Option.bind (al l i6) fun x35=>
  Option.bind (ax 1099511627776 (([]:List Cl)++(List.take (Int.toNat v7) out5)).length [x35].length) fun x36=>
  Option.bind (bM (0≤v7∧v7≤(out5.length:Int))) fun x37=>
  Option.bind (ax 1099511627776 ((([]:List Cl)++(List.take (Int.toNat v7) out5))++[x35]).length (List.drop (Int.toNat v7) out5).length) fun x38=>
    rec1 (((([]:List Cl)++(List.take (Int.toNat v7) out5))++[x35])++(List.drop (Int.toNat v7) out5)) (IntKind.wrap .i64 (i6+1))) (
    rec1 out5 (IntKind.wrap .i64 (i6+1)))))
noncomputable def mi {S:Type} (k:Nat) (ret:List Cl×Int→Option S) (rec1:(List Cl)→Int→Option S) (l out5:List Cl) (i6:Int):Nat→Int→Option S
 |0=>fun _=> .none
 |m+1=>fun v7=>uL k ret l out5 i6 rec1 (mi k ret rec1 l out5 i6 m) v7
def qi {S:Type} (k:Nat) (ret:List Cl×Int→Option S) (l:List Cl) (J2:(List Cl)→Int→Int→Option S) (rec1:(List Cl)→Int→Option S) (out5:List Cl) (i6:Int):Option S:=
 ab (decide ((i6:Int)<(l.length:Int))) (
 Option.bind (al l i6) fun x3=>
 aa k (wh k l x3) fun r4=>
 ab (!r4) (
   rec1 out5 (IntKind.wrap .i64 (i6+1))) (
   J2 out5 i6 0)) (
 ab (decide (((out5.length:Int):Int)>64)) (
  ret (([]:List Cl),3)) (
  ret (out5,0)))
noncomputable def jt {S:Type} (k:Nat) (ret:List Cl×Int→Option S) (l:List Cl):Nat→(List Cl)→Int→Option S
 |0=>fun _ _=> .none
 |m+1=>fun out5 i6=>qi k ret l (fun out5 i6 v7=>mi k ret (jt k ret l m) l out5 i6 k v7) (jt k ret l m) out5 i6
def qh {S:Type} (k:Nat) (ret:List Cl×Int→Option S) (l:List Cl) (J1:(List Cl)→Int→Option S) (rec0:Int→Option S) (i4:Int):Option S:=
 ab (decide ((i4:Int)<(l.length:Int))) (
 Option.bind (al l i4) fun x1=>
 aa k (rn k x1) fun r2=>
 ab (!r2) (
  ret (([]:List Cl),2)) (
   rec0 (IntKind.wrap .i64 (i4+1)))) (
  J1 ([]:List Cl) 0)
noncomputable def ol {S:Type} (k:Nat) (ret:List Cl×Int→Option S) (l:List Cl):Nat→Int→Option S
 |0=>fun _=> .none
 |m+1=>fun i4=>qh k ret l (fun out5 i6=>jt k ret l k out5 i6) (ol k ret l m) i4
noncomputable def EH {S:Type} (k:Nat) (ret:List Cl×Int→Option S) (J0:Int→Option S) (l:List Cl):Option S:=
 J0 0
noncomputable def hJ {S:Type} (k:Nat) (l:List Cl) (ret:List Cl×Int→Option S):Option S:=EH k ret (fun i4=>ol k ret l k i4) l
def OJ {S:Type} (k:Nat) (ret:Bool→Option S) (f:List Cl):Option S:=
 aa k (hJ k f) fun r1=>
 ab (r1.2==0) (
 aa k (hU k r1.1 f) fun r2=>
 ret r2) (
 ret false)
noncomputable def dU {S:Type} (k:Nat) (f:List Cl) (ret:Bool→Option S):Option S:=OJ k ret f
def OA {S:Type} (k:Nat) (ret:Bool→Option S) (s i:Int):Option S:=
 ab (decide ((i:Int)≥0)) (
 ab (decide ((i:Int)<24)) (
  aa k (ny k i) fun r1=>
  Option.bind (bM (r1≠0)) fun x2=>
  ret ((Int.tmod (IntKind.wrap .i64 (Int.tdiv (IntKind.wrap .i64 s) r1)) 2)==1)) (
  ret false)) (
 ret false)
noncomputable def dH {S:Type} (k:Nat) (s i:Int) (ret:Bool→Option S):Option S:=OA k ret s i
def uH {S:Type} (k:Nat) (ret:Int→Option S) (l:List Int) (rec0:Int→Int→Option S) (v3 i4:Int):Option S:=
 ab (decide ((i4:Int)<(l.length:Int))) (
 Option.bind (al l i4) fun x1=>
 aa k (ny k x1) fun r2=>
  rec0 (IntKind.wrap .i64 (v3+r2)) (IntKind.wrap .i64 (i4+1))) (
 ret (IntKind.wrap .u32 v3))
noncomputable def og {S:Type} (k:Nat) (ret:Int→Option S) (l:List Int):Nat→Int→Int→Option S
 |0=>fun _ _=> .none
 |m+1=>fun v3 i4=>uH k ret l (og k ret l m) v3 i4
noncomputable def ED {S:Type} (k:Nat) (ret:Int→Option S) (J0:Int→Int→Option S) (l:List Int):Option S:=
 J0 0 0
noncomputable def g_ {S:Type} (k:Nat) (l:List Int) (ret:Int→Option S):Option S:=ED k ret (fun v3 i4=>og k ret l k v3 i4) l
def uO {S:Type} (k:Nat) (ret:Int→Option S) (f:List Cl) (l3:List Int) (i4:Int) (rec0:(List Int)→Int→Option S) (rec1:Bool→Int→Option S) (v5:Bool) (v6:Int):Option S:=
 ab (decide ((v6:Int)<(f.length:Int))) (
 ab (v5) (
   rec1 true (IntKind.wrap .i64 (v6+1))) (
  Option.bind (al f v6) fun x1=>
  aa k (dH k x1.pos i4) fun r2=>
  ab (r2) (
    rec1 true (IntKind.wrap .i64 (v6+1))) (
  Option.bind (al f v6) fun x3=>
  aa k (dH k x3.neg i4) fun r4=>
    rec1 r4 (IntKind.wrap .i64 (v6+1))))) (
 ab (v5) (
  Option.bind (ax 1099511627776 l3.length [i4].length) fun x5=>
   rec0 (l3++[i4]) (IntKind.wrap .i64 (i4+1))) (
   rec0 l3 (IntKind.wrap .i64 (i4+1))))
noncomputable def mj {S:Type} (k:Nat) (ret:Int→Option S) (rec0:(List Int)→Int→Option S) (f:List Cl) (l3:List Int) (i4:Int):Nat→Bool→Int→Option S
 |0=>fun _ _=> .none
 |m+1=>fun v5 v6=>uO k ret f l3 i4 rec0 (mj k ret rec0 f l3 i4 m) v5 v6
def qj {S:Type} (k:Nat) (ret:Int→Option S) (f:List Cl) (J1:(List Int)→Int→Bool→Int→Option S) (rec0:(List Int)→Int→Option S) (l3:List Int) (i4:Int):Option S:=
 ab (decide ((i4:Int)<24)) (
  J1 l3 i4 false 0) (
 aa k (g_ k l3) fun r6=>
 ret r6)
noncomputable def kN {S:Type} (k:Nat) (ret:Int→Option S) (f:List Cl):Nat→(List Int)→Int→Option S
 |0=>fun _ _=> .none
 |m+1=>fun l3 i4=>qj k ret f (fun l3 i4 v5 v6=>mj k ret (kN k ret f m) f l3 i4 k v5 v6) (kN k ret f m) l3 i4
noncomputable def EK {S:Type} (k:Nat) (ret:Int→Option S) (J0:(List Int)→Int→Option S) (f:List Cl):Option S:=
 J0 ([]:List Int) 0
noncomputable def rq {S:Type} (k:Nat) (f:List Cl) (ret:Int→Option S):Option S:=EK k ret (fun l3 i4=>kN k ret f k l3 i4) f
def uG {S:Type} (k:Nat) (ret:List Int→Option S) (s:Int) (rec0:(List Int)→Int→Option S) (out3:List Int) (i4:Int):Option S:=
 ab (decide ((i4:Int)<24)) (
 aa k (dH k s i4) fun r1=>
 ab (r1) (
  Option.bind (ax 1099511627776 out3.length [i4].length) fun x2=>
   rec0 (out3++[i4]) (IntKind.wrap .i64 (i4+1))) (
   rec0 out3 (IntKind.wrap .i64 (i4+1)))) (
 ret out3)
noncomputable def oe {S:Type} (k:Nat) (ret:List Int→Option S) (s:Int):Nat→(List Int)→Int→Option S
 |0=>fun _ _=> .none
 |m+1=>fun out3 i4=>uG k ret s (oe k ret s m) out3 i4
noncomputable def EC {S:Type} (k:Nat) (ret:List Int→Option S) (J0:(List Int)→Int→Option S) (s:Int):Option S:=
 J0 ([]:List Int) 0
noncomputable def g9 {S:Type} (k:Nat) (s:Int) (ret:List Int→Option S):Option S:=EC k ret (fun out3 i4=>oe k ret s k out3 i4) s
def OR {S:Type} (k:Nat) (ret:Bool→Option S) (f:List Cl) (dims:Int):Option S:=
 aa k (rq k f) fun r1=>
 aa k (g9 k r1) fun r2=>
 ab ((r2.length:Int)==0) (
 ret true) (
 Option.bind (al r2 (IntKind.wrap .i64 ((r2.length:Int)-1))) fun x3=>
 Option.bind (al r2 (IntKind.wrap .i64 ((r2.length:Int)-1))) fun x4=>
 ret (decide ((x4:Int)<dims)))
noncomputable def rz {S:Type} (k:Nat) (f:List Cl) (dims:Int) (ret:Bool→Option S):Option S:=OR k ret f dims
def Af {S:Type} (k:Nat) (ret:Int×Int→Option S) (kind kid:Int):Option S:=
 ab (kid==0) (
 ab (kind==11) (
  ret (0,1)) (
  ab (kind==12) (
  ret (0,1)) (
  ab (kind==14) (
   ret (0,1)) (
   ret (0,0))))) (
 ret (0,0))
noncomputable def xo {S:Type} (k:Nat) (ret:Int×Int→Option S) (kind kid:Int):Nat→Option S
 |0=> .none
 |_+1=>Af k ret kind kid
def uZ {S:Type} (k:Nat) (ret:Int×Int→Option S) (kind kid:Int) (J1:Option S):Option S:=
 ab (kid==0) (
 ab (kind==5) (
  ret (1,0)) (
  ab (kind==22) (
  ret (1,0)) (
  ab (kind==27) (
   ret (1,0)) (
     J1)))) (
  J1)
noncomputable def BT {S:Type} (k:Nat) (ret:Int×Int→Option S) (kind kid:Int):Nat→Option S
 |0=> .none
 |_+1=>uZ k ret kind kid (xo k ret kind kid k)
def EY {S:Type} (k:Nat) (ret:Int×Int→Option S) (J0:Option S) (kind kid:Int):Option S:=
 ab (kid==1) (
 ab (kind==4) (
  ret (1,0)) (
  ab (kind==7) (
  ret (1,0)) (
    J0))) (
  J0)
noncomputable def nA {S:Type} (k:Nat) (kind kid:Int) (ret:Int×Int→Option S):Option S:=EY k ret (BT k ret kind kid k) kind kid
def uK {S:Type} (k:Nat) (ret:Bool→Option S) (c:Cl) (rec0:Int→Option S) (i3:Int):Option S:=
 ab (decide ((i3:Int)<24)) (
 aa k (dH k c.pos i3) fun r1=>
 ab (r1) (
  aa k (dH k c.neg i3) fun r2=>
  ab (r2) (
  ret true) (
    rec0 (IntKind.wrap .i64 (i3+1)))) (
   rec0 (IntKind.wrap .i64 (i3+1)))) (
 ret false)
noncomputable def oj {S:Type} (k:Nat) (ret:Bool→Option S) (c:Cl):Nat→Int→Option S
 |0=>fun _=> .none
 |m+1=>fun i3=>uK k ret c (oj k ret c m) i3
noncomputable def EG {S:Type} (k:Nat) (ret:Bool→Option S) (J0:Int→Option S) (c:Cl):Option S:=
 J0 0
noncomputable def rl {S:Type} (k:Nat) (c:Cl) (ret:Bool→Option S):Option S:=EG k ret (fun i3=>oj k ret c k i3) c
def uW {S:Type} (k:Nat) (ret:Bool→Option S) (f:List Cl) (rec0:Int→Option S) (i3:Int):Option S:=
 ab (decide ((i3:Int)<(f.length:Int))) (
 Option.bind (al f i3) fun x2=>
 aa k (rl k x2) fun r3=>
 ab (r3) (
  ret false) (
   rec0 (IntKind.wrap .i64 (i3+1)))) (
 ret true)
noncomputable def ox {S:Type} (k:Nat) (ret:Bool→Option S) (f:List Cl):Nat→Int→Option S
 |0=>fun _=> .none
 |m+1=>fun i3=>uW k ret f (ox k ret f m) i3
def EV {S:Type} (k:Nat) (ret:Bool→Option S) (J0:Int→Option S) (f:List Cl):Option S:=
 aa k (dU k f) fun r1=>
 ab (!r1) (
 ret false) (
  J0 0)
noncomputable def fS {S:Type} (k:Nat) (f:List Cl) (ret:Bool→Option S):Option S:=EV k ret (fun i3=>ox k ret f k i3) f
def OP {S:Type} (k:Nat) (ret:Int→Option S) (kind:Int):Option S:=
 ab (kind==15) (
 ret 1) (
 ret 0)
noncomputable def nC {S:Type} (k:Nat) (kind:Int) (ret:Int→Option S):Option S:=OP k ret kind
abbrev dC (S:Type):=Tm→Int→Int→Bool→(Bool→Option S)→Option S
end
end Go.Proofs.YtapmagaejigpnaaGreatDoor
