/- hypercubelaw34.MachStill returns true for all definitions, every term and any numbers of variables and dimensions: of a term that is its own head by its node's kind the machine tells itself, spends nothing, looks nothing up, and forces one term at most; the card with an upper bound of the input's bulk. -/
import Derived.Test.YtlidjlacmpaefaaGreatDoorX2
import Derived.KernelRfl
open Bool renaming and_eq_true→aj
open ByteArray renaming empty→aY
open Eq renaming trans→aI
open Go.IntKind renaming wrap→ay
open List renaming all_eq_true→bW,append_nil→ei,getElem?_eq_getElem→bP,getElem?_eq_some_iff→bS,length→dH,map_cons→ek,mem_cons→cu
open Nat renaming ble→a7,le_of_ble_eq_true→eI,le_refl→b7,zero_add→b8
open Option renaming bind→aN,bind_eq_some_iff→gk,bind_some→bB
set_option linter.unusedVariables false
set_option linter.unusedSimpArgs false
namespace Go.Proofs.YtlidjlacmpaefaaGreatDoor
open Go PI
set_option maxRecDepth 100000
noncomputable def me:Side UU:=⟨8,fun _=>[],fun _=>false,.none,fun _=>false,fun _=>false⟩
noncomputable def n4 {S:Type}:Oracle UU S:=fun _ _ _ _=> .none
theorem c1 {S:Type} (κ:Out UU->Option S):jW VV me n4 (fun _=> .none) 5 false [] Tryz.f37 [.sl (U:=UU) ET.C [] .void] [] κ=κ (.ret (bm [] .none) []):=by kernel_rfl
theorem c2 {S:Type} (l:List Cl) (κ:Out UU->Option S):jW VV me n4 (fun _=> .none) 5 false [] Tryz.f37 [.sl (U:=UU) ET.C l .sure] [] κ=aN (cx 1099511627776 0 l.length) fun _=>κ (.ret (bm l .none) []):=by kernel_rfl
theorem Gz {S:Type} (o:Obj):(n4 (S:=S)).Tells (bL (LL o)):=fun _ _ _ _ _ h=>by cases h
theorem ue (o:Obj) {args:List PU} (hl:args.length=1) {out:Out UU} (h:jW VV me n4 (fun _=> .none) 5 false [] Tryz.f37 args [] some=some out):bL (LL o) 37 args [] out:=by
 obtain ⟨out',h1,h2⟩:=rN jM (jt o) (S:=me) rfl rfl (Gz o) (f:=37) Tryz.func37 (by kernel_rfl) rfl rfl (by decide) (by rw [hl];decide) h
 injection h1 with h1
 exact h1▸h2
theorem uX {X:Link VV Tryz.prog} {w:World} {vs:Array Value} {N0:az} {ν:Nat->Nat} {δ:Nat->Option Nat} {ο:Nat->Array Value} {p q:PU} (h:Given X w vs N0 ν δ ο [p] [])
  (hr:RepG X w (NB N0 0 ν δ) (gB UU 0 ν) (vs.getD 0 undef) (δ 0) p->RepG X w (NB N0 0 ν δ) (gB UU 0 ν) (vs.getD 0 undef) (δ 0) q):Given X w vs N0 ν δ ο [q] []:=
 {h with
  args:=fun j r hj=>by
   cases j with
   |zero=>
    injection hj with hj
    subst hj
    exact hr (h.args 0 p rfl)
   |succ j=>simp at hj}
theorem BI (o:Obj) (l:List Cl) {u:Unit} (hroom:cx 1099511627776 0 l.length=some u):bL (LL o) 37 [bm l .none] [] (.ret (bm l .none) []):=by
 refine ⟨⟨Tryz.f37,Tryz.func37,by kernel_rfl,rfl⟩,fun w vs N0 ν δ ο hg=> ?_⟩
 have h0:Rep (LL o) w (NB N0 0 ν δ) (gB UU 0 ν) (vs.getD 0 undef) (bm l .none):=hg.args 0 _ rfl
 generalize hv:vs.getD 0 undef=v at h0
 cases h0 with
 |sl A n c _ _ _ val hl hc _ h1 h2=>
 cases A with
 |none=>
  have hl0:l=[]:=by
   cases l with
   |nil=>rfl
   |cons x r=>
    obtain ⟨a,ha,_⟩:=h1 0 x rfl 0 _ rfl
    cases ha
  subst hl0
  exact (ue o (args:=[bm [] .void]) rfl (c1 some)).2 w vs N0 ν δ ο (uX hg fun _=>by
   rw [hv];exact Rep.sl (X:=LL o) none n c ET.C (show List Cl from []) .void val hl hc rfl h1 h2)
 |some a=>
  refine (ue o (args:=[bm l .sure]) rfl (out:= .ret (bm l .none) []) ((c2 l some).trans (by rw [hroom];rfl))).2 w vs N0 ν δ ο (uX hg fun _=> ?_)
  rw [hv]
  exact Rep.sl (X:=LL o) (some a) n c ET.C l .sure val hl hc (fun h=>by cases h) h1 h2
theorem IW {S:Type} (o:Obj) (ho:aw o) (vs:List PU) (bs:List (Box UU)) (κ:Out UU->Option S) (x:S) (h:rK vs bs κ=some x): ∃out,bL (LL o) De vs bs out/\κ out=some x:=by
 unfold rK at h
 split at h
 case h_2=>cases h
 rename_i κ y
 unfold jP at h
 obtain ⟨u,hr,h⟩:=gk.1 h
 exact ⟨_,BI o y hr,h⟩
end Go.Proofs.YtlidjlacmpaefaaGreatDoor
namespace Go.Proofs.YtlidjlacmpaefaaGreatDoor
open Go PI
set_option maxRecDepth 100000
noncomputable section
variable {S:Type}
noncomputable abbrev iY:Ob UU:=⟨0,ET.B,([]:List (Br Tm))⟩
noncomputable abbrev i8:Ob UU:=⟨0,ET.T,([]:List Tm)⟩
noncomputable abbrev iZ:Ob UU:=⟨0,ET.C,([]:List Cl)⟩
noncomputable abbrev i4:PV UU:= .str aY
abbrev bU (n:Nat):Option (Nat×Bool):=some (n,true)
abbrev ae {α:Type}:Option α:= .none
theorem aV {R S:Type} {k:Nat} {f:(R->Option S)->Option S} {g:R->Option S} {a:Option S} {x:S} (h:ab k f g=some x) (e:a=f g:=by kernel_rfl):a=some x:=e.trans (b_ h)
def qu:Cs:=cc cT (cc cI cn)
def jv:Cs:=cc cT cn
def vc:Cs:=cc lG cn
def D0:Cs:=cc cI (cc cI cn)
def vl:Cs:=cc cT (cc cI (cc cI (cc (cp 0) cn)))
def zn:Bs:=xI xn
def Ef:Cs:=cc cT (cc (cf 59 cn (cc (cp 0) cn)) cn)
def Eg:Cs:=cc cT (cc (cf 61 cn (cc (cp 0) cn)) cn)
def zo:Bs:=xc (cc (cf 60 cn (cc (cp 1) (cc (cp 0) cn))) cn) (xI xn)
def Eh:Cs:=cc cT (cc (cp 0) (cc (cp 1) cn))
def Jh:Bs:=xI (xc (cc (cf 60 cn (cc (cp 0) (cc (cp 1) cn))) cn) xn)
def nK:Cs:=cc cI cn
def DV:Cs:=cc cs cn
def qv:Cs:=cc cU cn
def u9:Cs:=cc cC cn
def u_:Cs:=cc cC (cc cC cn)
def nL:Cs:=cc cC (cc (cp 0) cn)
def j4:Bs:=xC xn
def va:Cs:=cc lC (cc (cf 112 cn (cc (cp 0) cn)) cn)
def oI:Bs:=xc (cc lC cn) xn
def nM:Cs:=cc lC cn
def qw:Cs:=cc lC (cc lC cn)
def vd:Cs:=cc cU (cc cI cn)
def DW:Cs:=cc lC (cc cI cn)
def ve:Cs:=cc lC (cc (cf 88 cn cn) cn)
def vf:Cs:=cc cT (cc cI (cc cI cn))
def DX:Cs:=cc cT (cc cI (cc cI (cc cb cn)))
def DY:Cs:=cc cT (cc cI (cc cI (cc (cp 0) (cc (cp 1) (cc (cp 2) cn)))))
def zm:Bs:=xI (xI (xc (cc cb cn) xn))
def DZ:Cs:=cc cT (cc (cf 43 cn (cc (cp 0) (cc (cp 1) (cc (cp 2) cn)))) cn)
def D4:Cs:=cc lF cn
def vg:Cs:=cc lC (cc (cf 70 cn (cc (cp 0) cn)) cn)
def D5:Cs:=cc cC (cc lC cn)
def vh:Cs:=cc lC (cc (cf 48 cn (cc (cp 0) cn)) cn)
def vi:Cs:=cc lT (cc (cf 16 cn cn) cn)
def D6:Cs:=cc cB cn
def vj:Cs:=cc lB (cc (cf 28 cn cn) cn)
def D7:Cs:=cc cD cn
def vk:Cs:=cc lD (cc (cf 15 cn cn) cn)
def D8:Cs:=cc lD (cc cI (cc cI (cc cI cn)))
def D9:Cs:=cc lT cn
def qx:Cs:=cc (cp 0) (cc cT cn)
def gc:Bs:=xc (cc cI (cc cI (cc cs (cc lC (cc lT (cc lB (cc cI (cc cI (cc cI (cc lD (cc cI (cc cI (cc (cp 1) (cc cz (cc cb cn))))))))))))))) (xc (cc lK (cc lF cn)) xn)
def lm:Cs:=cc (cp 0) (cc (cg (cc cI (cc cI (cc cs (cc lC (cc lT (cc lB (cc (cp 1) cn)))))))) cn)
def D_:Cs:=cc (cg (cc cI (cc cI (cc cs (cc lC (cc lT (cc lB (cc (cp 0) cn)))))))) (cc cI cn)
def Ji:Bs:=xc (cc lK (cc lF cn)) xn
def Ea:Cs:=cc (cp 0) cn
def Eb:Cs:=cc lD (cc cT (cc cI (cc cI (cc cI cn))))
def Ec:Cs:=cc cT (cc cT cn)
def Ed:Cs:=cc lT (cc lT cn)
def Ee:Cs:=cc lG (cc cT (cc cI (cc cI cn)))
def bn (κ:Out UU->Option S):Int->Option S:=fun r=>κ (.ret (iI r) [])
def aQ (κ:Out UU->Option S):Bool->Option S:=fun r=>κ (.ret (.bool r) [])
def oi (κ:Out UU->Option S):List Df->Option S:=fun r=>κ (.ret (cr r .none) [])
def GR (κ:Out UU->Option S):Int×Int->Option S:=fun r=>κ (.ret (.tuple [(iI r.1),(iI r.2)]) [])
def d_ (c0:Int) (κ:Out UU->Option S):Bool->Option S:=fun r=>κ (.ret (.bool r) [bI c0])
def eb (κ:Out UU->Option S):Bool×Int->Option S:=fun r=>κ (.ret (.bool r.1) [.cells [(.func 60 [] [(pt 1),(pt 0)])],bI r.2])
def GS (κ:Out UU->Option S):Bool×Int->Option S:=fun r=>κ (.ret (.bool r.1) [bI r.2,.cells [(.func 60 [] [(pt 0),(pt 1)])]])
def GT (κ:Out UU->Option S):Cl->Option S:=fun r=>κ (.ret (aC r) [])
def om (c0:Cl) (κ:Out UU->Option S):Bool->Option S:=fun r=>κ (.ret (.bool r) [bC c0])
def gK (c0:Cl) (κ:Out UU->Option S):Int->Option S:=fun r=>κ (.ret (iI r) [bC c0])
def rj (c0:List Cl) (κ:Out UU->Option S):Bool->Option S:=fun r=>κ (.ret (.bool r) [.cells [(sC c0)]])
def fY (κ:Out UU->Option S):List Cl×Int->Option S:=fun r=>κ (.ret (.tuple [(sC r.1),(iI r.2)]) [])
def jR (κ:Out UU->Option S):Int->Option S:=fun r=>κ (.ret (iU r) [])
def d9 (c0 c1:Int) (c2:Bool) (κ:Out UU->Option S):Bool->Option S:=fun r=>κ (.ret (.bool r) [bI c0,bI c1,.cells [(.bool c2)]])
def oe (c0:List Cl) (κ:Out UU->Option S):Int->Option S:=fun r=>κ (.ret (iI r) [.cells [(sC c0)]])
def GL (κ:Out UU->Option S):Bool×Int->Option S:=fun r=>κ (.ret (.tuple [(.bool r.1),(iI r.2)]) [])
def gJ (κ:Out UU->Option S):Int×Int×ByteArray×List Cl×List Tm×List (Br Tm)×Int×Int×Int×List Df×Int×Int×Bool×List Tm×List (List Cl)->Option S:=fun r=>κ (.ret (pt 0) [.cells [(iI r.1),(iI r.2.1),(.str r.2.2.1),(sC r.2.2.2.1),(sT r.2.2.2.2.1),(sB r.2.2.2.2.2.1),(iI r.2.2.2.2.2.2.1),(iI r.2.2.2.2.2.2.2.1),(iI r.2.2.2.2.2.2.2.2.1),(cr r.2.2.2.2.2.2.2.2.2.1 .none),(iI r.2.2.2.2.2.2.2.2.2.2.1),(iI r.2.2.2.2.2.2.2.2.2.2.2.1),(pt 1),(.psl 0 1 [] true),(.bool r.2.2.2.2.2.2.2.2.2.2.2.2.1)],.cells [(de r.2.2.2.2.2.2.2.2.2.2.2.2.2.1 .none),(cL r.2.2.2.2.2.2.2.2.2.2.2.2.2.2 .none)]])
def og (κ:Out UU->Option S):Tm->Option S:=fun r=>κ (.ret (aT r) [])
def oh (κ:Out UU->Option S):List Tm->Option S:=fun r=>κ (.ret (sT r) [])
def GM (ah ai:Int) (aq:ByteArray) (ar:List Cl) (au:List Tm) (av:List (Br Tm)) (aG am ao:Int) (ap:List Df) (ak al:Int) (aD:Bool) (af:List Tm) (ag:List (List Cl)) (κ:Out UU->Option S):Int×Int×ByteArray×List Cl×List Tm×List (Br Tm)->Option S:=fun r=>κ (.ret (.agg [(iI r.1),(iI r.2.1),(.str r.2.2.1),(sC r.2.2.2.1),(sT r.2.2.2.2.1),(sB r.2.2.2.2.2),(pt 1)]) [.cells [(iI ah),(iI ai),(.str aq),(sC ar),(sT au),(sB av),(iI aG),(iI am),(iI ao),(cr ap .none),(iI ak),(iI al),(pt 1),(.psl 0 1 [] true),(.bool aD)],.cells [(de af .none),(cL ag .none)]])
def wE (ah ai:Int) (aq:ByteArray) (ar:List Cl) (au:List Tm) (av:List (Br Tm)) (aG am ao:Int) (ap:List Df) (ak al:Int) (aD:Bool) (af:List Tm) (ag:List (List Cl)) (κ:Out UU->Option S):Int×Int×ByteArray×List Cl×List Tm×List (Br Tm)×Bool->Option S:=fun r=>κ (.ret (.tuple [(.agg [(iI r.1),(iI r.2.1),(.str r.2.2.1),(sC r.2.2.2.1),(sT r.2.2.2.2.1),(sB r.2.2.2.2.2.1),(pt 1)]),(.bool r.2.2.2.2.2.2)]) [.cells [(iI ah),(iI ai),(.str aq),(sC ar),(sT au),(sB av),(iI aG),(iI am),(iI ao),(cr ap .none),(iI ak),(iI al),(pt 1),(.psl 0 1 [] true),(.bool aD)],.cells [(de af .none),(cL ag .none)]])
def GN (ah:List Tm) (ai:List (List Cl)) (κ:Out UU->Option S):Int×Int×ByteArray×List Cl×List Tm×List (Br Tm)->Option S:=fun r=>κ (.ret (.agg [(iI r.1),(iI r.2.1),(.str r.2.2.1),(sC r.2.2.2.1),(sT r.2.2.2.2.1),(sB r.2.2.2.2.2),(pt 0)]) [.cells [(de ah .none),(cL ai .none)]])
def GO (ah ai:Int) (aq:ByteArray) (ar:List Cl) (au:List Tm) (av:List (Br Tm)) (am ao:Int) (ap:List Df) (ak al:Int) (aD:Bool) (af:List Tm) (ag:List (List Cl)) (κ:Out UU->Option S):Pan (Int×Int) Int->Option S:=fun r=>Pan.elim r (fun r=>κ (.ret (.tuple []) [.cells [(iI ah),(iI ai),(.str aq),(sC ar),(sT au),(sB av),(iI r),(iI am),(iI ao),(cr ap .none),(iI ak),(iI al),(pt 1),(.psl 0 1 [] true),(.bool aD)],.cells [(de af .none),(cL ag .none)]])) (fun e=>κ (.panic (.iface 33 (iI e.1)) [.cells [(iI ah),(iI ai),(.str aq),(sC ar),(sT au),(sB av),(iI e.2),(iI am),(iI ao),(cr ap .none),(iI ak),(iI al),(pt 1),(.psl 0 1 [] true),(.bool aD)],.cells [(de af .none),(cL ag .none)]]))
def GP (ah ai:Int) (aq:ByteArray) (ar:List Cl) (au:List Tm) (av:List (Br Tm)) (am ao:Int) (ap:List Df) (ak al:Int) (aD:Bool) (af:List Tm) (ag:List (List Cl)) (κ:Out UU->Option S):Pan (Int×Int) (Int×Int×ByteArray×List Cl×List Tm×List (Br Tm)×Bool×Int)->Option S:=fun r=>Pan.elim r (fun r=>κ (.ret (.tuple [(.agg [(iI r.1),(iI r.2.1),(.str r.2.2.1),(sC r.2.2.2.1),(sT r.2.2.2.2.1),(sB r.2.2.2.2.2.1),(pt 1)]),(.bool r.2.2.2.2.2.2.1)]) [.cells [(iI ah),(iI ai),(.str aq),(sC ar),(sT au),(sB av),(iI r.2.2.2.2.2.2.2),(iI am),(iI ao),(cr ap .none),(iI ak),(iI al),(pt 1),(.psl 0 1 [] true),(.bool aD)],.cells [(de af .none),(cL ag .none)]])) (fun e=>κ (.panic (.iface 33 (iI e.1)) [.cells [(iI ah),(iI ai),(.str aq),(sC ar),(sT au),(sB av),(iI e.2),(iI am),(iI ao),(cr ap .none),(iI ak),(iI al),(pt 1),(.psl 0 1 [] true),(.bool aD)],.cells [(de af .none),(cL ag .none)]]))
def lS (ah ai:Int) (aq:ByteArray) (ar:List Cl) (au:List Tm) (av:List (Br Tm)) (aG am ao:Int) (ap:List Df) (ak al:Int) (aD:Bool) (af:List Tm) (ag:List (List Cl)) (κ:Out UU->Option S):Tm->Option S:=fun r=>κ (.ret (aT r) [.cells [(iI ah),(iI ai),(.str aq),(sC ar),(sT au),(sB av),(iI aG),(iI am),(iI ao),(cr ap .none),(iI ak),(iI al),(pt 1),(.psl 0 1 [] true),(.bool aD)],.cells [(de af .none),(cL ag .none)]])
def oj (ah ai:Int) (aq:ByteArray) (ar:List Cl) (au:List Tm) (av:List (Br Tm)) (am ao:Int) (ap:List Df) (ak al:Int) (af:List Tm) (ag:List (List Cl)) (κ:Out UU->Option S):Pan (Int×Int×Bool) (Tm×Int×Bool)->Option S:=fun r=>Pan.elim r (fun r=>κ (.ret (aT r.1) [.cells [(iI ah),(iI ai),(.str aq),(sC ar),(sT au),(sB av),(iI r.2.1),(iI am),(iI ao),(cr ap .none),(iI ak),(iI al),(pt 1),(.psl 0 1 [] true),(.bool r.2.2)],.cells [(de af .none),(cL ag .none)]])) (fun e=>κ (.panic (.iface 33 (iI e.1)) [.cells [(iI ah),(iI ai),(.str aq),(sC ar),(sT au),(sB av),(iI e.2.1),(iI am),(iI ao),(cr ap .none),(iI ak),(iI al),(pt 1),(.psl 0 1 [] true),(.bool e.2.2)],.cells [(de af .none),(cL ag .none)]]))
def GQ (am ao:Int) (ap:List Df) (ak al:Int) (af:List Tm) (ag:List (List Cl)) (κ:Out UU->Option S):Int×Int×Int×ByteArray×List Cl×List Tm×List (Br Tm)×Int×Bool->Option S:=fun r=>κ (.ret (iI r.1) [.cells [(iI r.2.1),(iI r.2.2.1),(.str r.2.2.2.1),(sC r.2.2.2.2.1),(sT r.2.2.2.2.2.1),(sB r.2.2.2.2.2.2.1),(iI r.2.2.2.2.2.2.2.1),(iI am),(iI ao),(cr ap .none),(iI ak),(iI al),(pt 1),(.psl 0 1 [] true),(.bool r.2.2.2.2.2.2.2.2)],.cells [(de af .none),(cL ag .none)]])
def ol (κ:Out UU->Option S):Int×Int×ByteArray×List Cl×List Tm×List (Br Tm)×Int×Int×Int×Int->Option S:=fun r=>κ (.ret (.tuple [(.agg [(iI r.1),(iI r.2.1),(.str r.2.2.1),(sC r.2.2.2.1),(sT r.2.2.2.2.1),(sB r.2.2.2.2.2.1),(iI r.2.2.2.2.2.2.1),(iI r.2.2.2.2.2.2.2.1),(iI r.2.2.2.2.2.2.2.2.1)]),(iI r.2.2.2.2.2.2.2.2.2)]) [])
end
end Go.Proofs.YtlidjlacmpaefaaGreatDoor
namespace Go.Proofs.YtlidjlacmpaefaaGreatDoor
open Go PI _root_.Go.Proofs.Tryz
set_option maxRecDepth 100000
noncomputable section
variable {S:Type} {o:Obj} (k:Nat)
def oq (hd:eF S):Rw S:=aA qu xn fun t most Y=>hd t most (bn Y)
def gU (hd:eF S) (k:Nat):Fx S:=fp 119 [(11,oq hd)] [(5,bM [1,2,5,6] [(2,6)],bk 6 23),(9,bM [1,2,5,7] [(2,6)],bk 7 47),(15,bM [1,2,5,7,8] [(2,6)],bk 15 14639)] k f11 0
def qI (t:Tm) (most:Int) (v5 i6:Int):St UU:=⟨[(1,(iI most)),(2,(pt 2)),(5,(iI v5)),(6,(iI i6))],[(2,bT t)],[],[]⟩
def lz (t:Tm) (most:Int) (v5' i7:Int):St UU:=⟨[(1,(iI most)),(2,(pt 2)),(5,(iI v5')),(7,(iI i7))],[(2,bT t)],[],[]⟩
def vC (t:Tm) (most i7:Int) (v5'' v8:Int):St UU:=⟨[(1,(iI most)),(2,(pt 2)),(5,(iI v5'')),(7,(iI i7)),(8,(iI v8))],[(2,bT t)],[],[]⟩
section
variable (hd:eF S) (k:Nat) (t:Tm) (most:Int) (Y:Out UU->Option S)
theorem Al (i7 Y1): ∀n v5'' v8,(gU hd k).lp Y 15 [Y1] n (vC t most i7 v5'' v8)=fT hd k (bn Y) (fun v5' i7=>Y1 (lz t most v5' i7)) t most i7 n v5'' v8:=dS (mr hd k (bn Y) t most i7 (fun v5' i7=>Y1 (lz t most v5' i7)))
theorem Ak: ∀n v5' i7,(gU hd k).lp Y 9 [] n (lz t most v5' i7)=fz hd k (bn Y) t most n v5' i7:=dS (fun own=>ko hd k (bn Y) t most (fun i7 v5'' v8=>fT hd k (bn Y) own t most i7 k v5'' v8) own) rfl (fun _=>rfl) fun r v5' i7=>aI (b:=ko hd k (bn Y) t most (fun i7 v5'' v8=>(gU hd k).lp Y 15 [r] k (vC t most i7 v5'' v8)) (fun v5' i7=>r (lz t most v5' i7)) v5' i7) (by kernel_rfl) (by simp only [Al])
theorem Aj: ∀n v5 i6,(gU hd k).lp Y 5 [] n (qI t most v5 i6)=ik hd k (bn Y) t most n v5 i6:=dS (fun own=>kn hd k (bn Y) t most (fun v5' i7=>fz hd k (bn Y) t most k v5' i7) own) rfl (fun _=>rfl) fun r v5 i6=>aI (b:=kn hd k (bn Y) t most (fun v5' i7=>(gU hd k).lp Y 9 [] k (lz t most v5' i7)) (fun v5 i6=>r (qI t most v5 i6)) v5 i6) (by kernel_rfl) (by simp only [Ak])
end
theorem qe (o:Obj) (ho:aw o): ∀k:Nat,Tl o 11 (oq (dK k:eF S))
 |0=>iP fun t most Y x h=>by cases h
 |k+1=>aE (gU (dK k) k) ⟨qe o ho k,trivial⟩ func11 fun t most Y x h=>aI (b:=sr (dK k) k (bn Y) (fun v5 i6=>(gU (dK k) k).lp Y 5 [] k (qI t most v5 i6)) t most) (by kernel_rfl) (aI (by simp only [Aj];rfl) h)
def wF:Rw S:=aA jv xn fun t Y=>ab k (mY k t) (aQ Y)
def zr:Fx S:=fp 6 [(11,oq (dK k))] [] k f5 0
theorem B3 (ho:aw o):Tl o 5 (wF k:Rw S):=aE (zr k) ⟨qe o ho k,trivial⟩ func5 fun t Y x h=>aV h
def wO:Rw S:=aA jv xn fun t Y=>ab k (mX k t) (aQ Y)
def zD:Fx S:=fp 6 [(11,oq (dK k))] [] k f12 0
theorem Cb (ho:aw o):Tl o 12 (wO k:Rw S):=aE (zD k) ⟨qe o ho k,trivial⟩ func12 fun t Y x h=>aV h
def wW:Rw S:=aA vc xn fun l Y=>ab k (mW k l) (aQ Y)
def oO:Fx S:=fp 24 [(12,wO k)] [(4,bM [8,9,10] [],bk 5 11)] k f6 0
def vM (l:List Df) (v10:Int):St UU:=⟨[(8,(f_ l .none)),(9,(iI l.length)),(10,(iI v10))],[],[],[]⟩
section
variable (k:Nat) (l:List Df) (Y:Out UU->Option S)
theorem AB: ∀n v10,(oO k).lp Y 4 [] n (vM l v10)=ig k (aQ Y) l n v10:=cV (mn k (aQ Y) l)
end
theorem Ck (ho:aw o):Tl o 6 (wW k:Rw S):=aE (oO k) ⟨Cb k ho,trivial⟩ func6 fun l Y x h=>aI (b:=sh k (aQ Y) (fun v10=>(oO k).lp Y 4 [] k (vM l v10)) l) (by kernel_rfl) (aI (by simp only [AB];rfl) (b_ h))
def w9:Rw S:=aA vc xn fun l Y=>ab k (dz k l) (oi Y)
def oR:Fx S:=fp 18 [] [(3,⟨[(3,bU 100003),(6,ae),(7,ae),(8,ae)],[]⟩,bk 5 11)] k f8 0
def vQ (l:List Df) (out3:List Df) (v8:Int):St UU:=⟨[(3,(.own 100003 0)),(6,(f_ l .none)),(7,(iI l.length)),(8,(iI v8))],[],[(100003,⟨0,ET.D,out3⟩)],[(100003,.wr)]⟩
section
variable (k:Nat) (l:List Df) (Y:Out UU->Option S)
theorem AF: ∀n out3 v8,(oR k).lp Y 3 [] n (vQ l out3 v8)=jA k (oi Y) l n out3 v8:=dS (ml k (oi Y) l)
end
theorem Cv (ho:aw o):Tl o 8 (w9 k:Rw S):=aE (oR k) trivial func8 fun l Y x h=>aI (b:=sg k (oi Y) (fun out3 v8=>(oR k).lp Y 3 [] k (vQ l out3 v8)) l) (by kernel_rfl) (aI (by simp only [AF];rfl) (b_ h))
def ou:Rw S:=aA D0 xn fun kind kid Y=>ab k (jj k kind kid) (GR Y)
def zY:Fx S:=fp 26 [] [] k f68 0
theorem p5 (ho:aw o):Tl o 68 (ou k:Rw S):=aE (zY k) trivial func68 fun kind kid Y x h=>aV h
def lU (hd:cF S):Rw S:=aA qu xn fun t left Y=>hd t left (aQ Y)
def xE (hd:cF S) (k:Nat):Rw S:=aA vl zn fun a_k p p' c0 Y=>ab k (kV hd k a_k p p' c0) (d_ c0 Y)
def Ag (hd:cF S) (k:Nat):Fx S:=fp 12 [(39,lU hd)] [] k f59 1
theorem CV (o:Obj) (ho:aw o) (hd:cF S) (Hd:Tl o 39 (lU hd)) (k:Nat):Tl o 59 (xE hd k:Rw S):=aE (Ag hd k) ⟨Hd,trivial⟩ func59 fun a_k p p' c0 Y x h=>aV h
def xO (hd:cF S) (k:Nat):Rw S:=aA Ef zn fun t c0 Y=>ab k (pT hd k t c0) (d_ c0 Y)
def gW (hd:cF S) (k:Nat):Fx S:=fp 60 [(59,xE hd k),(68,ou k)] [(2,bM [1,2,15,16,17] [(2,6),(1000000,1)],bk 4 5),(12,bM [1,9,40,41,42] [(1000000,1)],bk 7 47),(15,bM [1,9,40,41,42,47,48,49] [(1000000,1)],bk 15 13103)] k f42 1
def qM (c0:Int) (t:Tm) (v17:Int):St UU:=⟨[(1,(.func 59 [] [(pt 1000000)])),(2,(pt 2)),(15,(sT t.kids)),(16,(iI t.kids.length)),(17,(iI v17))],[(2,bT t),(1000000,bI c0)],[],[]⟩
def lH (c0:Int) (t:Tm) (v42 more9:Int):St UU:=⟨[(1,(.func 59 [] [(pt 1000000)])),(9,(iI more9)),(40,(sB t.sys)),(41,(iI t.sys.length)),(42,(iI v42))],[(1000000,bI c0)],[],[]⟩
def wc (c0:Int) (t:Tm) (v42:Int) (x4:(Br Tm)) (more9:Int) (v49:Int):St UU:=⟨[(1,(.func 59 [] [(pt 1000000)])),(9,(iI more9)),(40,(sB t.sys)),(41,(iI t.sys.length)),(42,(iI v42)),(47,(sT x4.kids)),(48,(iI x4.kids.length)),(49,(iI v49))],[(1000000,bI c0)],[],[]⟩
section
variable (hd:cF S) (k:Nat) (t:Tm) (c0:Int) (Y:Out UU->Option S)
theorem AV (v42 x4 more9 Y1): ∀n v49,(gW hd k).lp Y 15 [Y1] n (wc c0 t v42 x4 more9 v49)=it hd k (d_ c0 Y) (fun v42 more9=>Y1 (lH c0 t v42 more9)) c0 t v42 x4 more9 n v49:=cV (mE hd k (d_ c0 Y) c0 t v42 x4 more9 (fun v42 more9=>Y1 (lH c0 t v42 more9)))
theorem AU: ∀n v42 more9,(gW hd k).lp Y 12 [] n (lH c0 t v42 more9)=fA hd k (d_ c0 Y) c0 t n v42 more9:=dS (fun own=>kC hd k (d_ c0 Y) c0 t (fun v42 x4 more9 v49=>it hd k (d_ c0 Y) own c0 t v42 x4 more9 k v49) own) rfl (fun _=>rfl) fun r v42 more9=>aI (b:=kC hd k (d_ c0 Y) c0 t (fun v42 x4 more9 v49=>(gW hd k).lp Y 15 [r] k (wc c0 t v42 x4 more9 v49)) (fun v42 more9=>r (lH c0 t v42 more9)) v42 more9) (by kernel_rfl) (by simp only [AV])
theorem AT: ∀n v17,(gW hd k).lp Y 2 [] n (qM c0 t v17)=jL hd k (d_ c0 Y) c0 t n v17:=cV (fun own=>kB hd k (d_ c0 Y) c0 t (fun v42 more9=>fA hd k (d_ c0 Y) c0 t k v42 more9) own) rfl (fun _=>rfl) fun r v17=>aI (b:=kB hd k (d_ c0 Y) c0 t (fun v42 more9=>(gW hd k).lp Y 12 [] k (lH c0 t v42 more9)) (fun v17=>r (qM c0 t v17)) v17) (by kernel_rfl) (by simp only [AU])
end
theorem C4 (o:Obj) (ho:aw o) (hd:cF S) (Hd:Tl o 39 (lU hd)) (k:Nat):Tl o 42 (xO hd k:Rw S):=aE (gW hd k) ⟨CV o ho hd Hd k,p5 k ho,trivial⟩ func42 fun t c0 Y x h=>aI (b:=sM hd k (d_ c0 Y) (fun v17=>(gW hd k).lp Y 2 [] k (qM c0 t v17)) t c0) (by kernel_rfl) (aI (by simp only [AT];rfl) (b_ h))
def Ac (hd:cF S) (k:Nat):Fx S:=fp 12 [(42,xO hd k)] [] k f39 0
theorem uY (o:Obj) (ho:aw o): ∀k:Nat,Tl o 39 (lU (fg k:cF S))
 |0=>iP fun t left Y x h=>by cases h
 |k+1=>aE (Ac (fg k) k) ⟨C4 o ho (fg k) (uY o ho k) k,trivial⟩ func39 fun t left Y x h=>aI (by kernel_rfl) h
def ow (hd:cM S):Rw S:=aA Eg zo fun t c1 Y=>hd t c1 (eb Y)
def rk (hd:cM S) (k:Nat):Rw S:=aA Eh Jh fun t c0 Y=>ab k (jk hd k t c0) (GS Y)
def zt (hd:cM S) (k:Nat):Fx S:=fp 14 [(42,ow hd)] [] k f60 2
theorem uz (o:Obj) (ho:aw o) (hd:cM S) (Hd:Tl o 42 (ow hd)) (k:Nat):Tl o 60 (rk hd k:Rw S):=aE (zt hd k) ⟨Hd,trivial⟩ func60 fun t c0 Y x h=>aV h
def wG (hd:cM S) (k:Nat):Rw S:=aA vl zo fun a_k p p' c1 Y=>ab k (kX hd k a_k p p' c1) (eb Y)
def zu (hd:cM S) (k:Nat):Fx S:=fp 11 [(60,rk hd k)] [] k f61 2
theorem B4 (o:Obj) (ho:aw o) (hd:cM S) (Hd:Tl o 42 (ow hd)) (k:Nat):Tl o 61 (wG hd k:Rw S):=aE (zu hd k) ⟨uz o ho hd Hd k,trivial⟩ func61 fun a_k p p' c1 Y x h=>aV h
def gX (hd:cM S) (k:Nat):Fx S:=fp 60 [(61,wG hd k),(68,ou k)] [(2,bM [1,2,15,16,17] [(2,6),(1000000,1),(1000001,1)],bk 4 5),(12,bM [1,9,40,41,42] [(1000000,1),(1000001,1)],bk 7 47),(15,bM [1,9,40,41,42,47,48,49] [(1000000,1),(1000001,1)],bk 15 13103)] k f42 2
def qN (t:Tm) (c_ v17:Int):St UU:=⟨[(1,(.func 61 [] [(pt 1000000)])),(2,(pt 2)),(15,(sT t.kids)),(16,(iI t.kids.length)),(17,(iI v17))],[(2,bT t),(1000000,.cells [(.func 60 [] [(pt 1000001),(pt 1000000)])]),(1000001,bI c_)],[],[]⟩
def lI (t:Tm) (e1_0' v42 more9:Int):St UU:=⟨[(1,(.func 61 [] [(pt 1000000)])),(9,(iI more9)),(40,(sB t.sys)),(41,(iI t.sys.length)),(42,(iI v42))],[(1000000,.cells [(.func 60 [] [(pt 1000001),(pt 1000000)])]),(1000001,bI e1_0')],[],[]⟩
def wd (t:Tm) (v42:Int) (x4:(Br Tm)) (more9:Int) (e1_0'' v49:Int):St UU:=⟨[(1,(.func 61 [] [(pt 1000000)])),(9,(iI more9)),(40,(sB t.sys)),(41,(iI t.sys.length)),(42,(iI v42)),(47,(sT x4.kids)),(48,(iI x4.kids.length)),(49,(iI v49))],[(1000000,.cells [(.func 60 [] [(pt 1000001),(pt 1000000)])]),(1000001,bI e1_0'')],[],[]⟩
section
variable (hd:cM S) (k:Nat) (t:Tm) (c1:Int) (Y:Out UU->Option S)
theorem AY (v42 x4 more9 Y1): ∀n e1_0'' v49,(gX hd k).lp Y 15 [Y1] n (wd t v42 x4 more9 e1_0'' v49)=fU hd k (eb Y) (fun e1_0' v42 more9=>Y1 (lI t e1_0' v42 more9)) t v42 x4 more9 n e1_0'' v49:=dS (mC hd k (eb Y) t v42 x4 more9 (fun e1_0' v42 more9=>Y1 (lI t e1_0' v42 more9)))
theorem AX: ∀n e1_0' v42 more9,(gX hd k).lp Y 12 [] n (lI t e1_0' v42 more9)=eR hd k (eb Y) t n e1_0' v42 more9:=vw (fun own=>ky hd k (eb Y) t (fun v42 x4 more9 e1_0'' v49=>fU hd k (eb Y) own t v42 x4 more9 k e1_0'' v49) own) rfl (fun _=>rfl) fun r e1_0' v42 more9=>aI (b:=ky hd k (eb Y) t (fun v42 x4 more9 e1_0'' v49=>(gX hd k).lp Y 15 [r] k (wd t v42 x4 more9 e1_0'' v49)) (fun e1_0' v42 more9=>r (lI t e1_0' v42 more9)) e1_0' v42 more9) (by kernel_rfl) (by simp only [AY])
theorem AW: ∀n c_ v17,(gX hd k).lp Y 2 [] n (qN t c_ v17)=iq hd k (eb Y) t n c_ v17:=dS (fun own=>kx hd k (eb Y) t (fun e1_0' v42 more9=>eR hd k (eb Y) t k e1_0' v42 more9) own) rfl (fun _=>rfl) fun r c_ v17=>aI (b:=kx hd k (eb Y) t (fun e1_0' v42 more9=>(gX hd k).lp Y 12 [] k (lI t e1_0' v42 more9)) (fun c_ v17=>r (qN t c_ v17)) c_ v17) (by kernel_rfl) (by simp only [AX])
end
theorem uZ (o:Obj) (ho:aw o): ∀k:Nat,Tl o 42 (ow (dM k:cM S))
 |0=>iP fun t c1 Y x h=>by cases h
 |k+1=>aE (gX (dM k) k) ⟨B4 o ho (dM k) (uZ o ho k) k,p5 k ho,trivial⟩ func42 fun t c1 Y x h=>aI (b:=sK (dM k) k (eb Y) (fun c_ v17=>(gX (dM k) k).lp Y 2 [] k (qN t c_ v17)) t c1) (by kernel_rfl) (aI (by simp only [AW];rfl) h)
def wH:Rw S:=aA qu xn fun t most Y=>ab k (nh k t most) (aQ Y)
def zw:Fx S:=fp 10 [(60,rk (dM k) k)] [] k f40 0
theorem B5 (ho:aw o):Tl o 40 (wH k:Rw S):=aE (zw k) ⟨uz o ho (dM k) (uZ o ho k) k,trivial⟩ func40 fun t most Y x h=>aV h
def rl:Rw S:=aA jv xn fun t Y=>ab k (kW k t) (bn Y)
def zx:Fx S:=fp 11 [(39,lU (fg k)),(40,wH k)] [] k f23 0
theorem uA (ho:aw o):Tl o 23 (rl k:Rw S):=aE (zx k) ⟨uY o ho k,B5 k ho,trivial⟩ func23 fun t Y x h=>aV h
def wI:Rw S:=aA nK xn fun kind Y=>ab k (nd k kind) (bn Y)
def zy:Fx S:=fp 38 [] [] k f62 0
theorem B6 (ho:aw o):Tl o 62 (wI k:Rw S):=aE (zy k) trivial func62 fun kind Y x h=>aV h
def wJ:Rw S:=aA nK xn fun kind Y=>ab k (gq k kind) (bn Y)
def zz:Fx S:=fp 10 [] [] k f63 0
theorem B7 (ho:aw o):Tl o 63 (wJ k:Rw S):=aE (zz k) trivial func63 fun kind Y x h=>aV h
def wK:Rw S:=aA DV xn fun s Y=>ab k (ng k s) (aQ Y)
def j7:Fx S:=fp 49 [] [(2,bM [0,7,8] [],bk 4 5),(1000006,bM [0,3,4,5,7,8] [],bk 12 3685)] k f64 0
def lA (s:ByteArray) (v8:Int):St UU:=⟨[(0,(.str s)),(7,(.int .i64 (s.size:Int))),(8,(iI v8))],[],[],[]⟩
def vD (s:ByteArray) (v8:Int) (x1:UInt8) (letter5:Bool):St UU:=⟨[(0,(.str s)),(3,(iI v8)),(4,(.int .u8 (x1.toNat:Int))),(5,(.bool letter5)),(7,(.int .i64 (s.size:Int))),(8,(iI v8))],[],[],[]⟩
section
variable (k:Nat) (s:ByteArray) (Y:Out UU->Option S)
theorem An (v8 x1 Y0): ∀n letter5,(j7 k).jn Y 1000006 [Y0] n (vD s v8 x1 letter5)=nQ k (aQ Y) (fun v8=>Y0 (lA s v8)) s v8 x1 n letter5:=DT (po k (aQ Y) s v8 x1 (fun v8=>Y0 (lA s v8)))
theorem Am: ∀n v8,(j7 k).lp Y 2 [] n (lA s v8)=iv k (aQ Y) s n v8:=cV (fun own=>kE k (aQ Y) s (fun v8 x1 letter5=>nQ k (aQ Y) own s v8 x1 k letter5) own) rfl (fun _=>rfl) fun r v8=>aI (b:=kE k (aQ Y) s (fun v8 x1 letter5=>(j7 k).jn Y 1000006 [r] k (vD s v8 x1 letter5)) (fun v8=>r (lA s v8)) v8) (by kernel_rfl) (by simp only [An])
end
theorem B8 (ho:aw o):Tl o 64 (wK k:Rw S):=aE (j7 k) trivial func64 fun s Y x h=>aI (b:=sN k (aQ Y) (fun v8=>(j7 k).lp Y 2 [] k (lA s v8)) s) (by kernel_rfl) (aI (by simp only [Am];rfl) (b_ h))
def wL:Rw S:=aA qv xn fun s Y=>ab k (jg k s) (aQ Y)
def zA:Fx S:=fp 6 [] [] k f144 0
theorem B9 (ho:aw o):Tl o 144 (wL k:Rw S):=aE (zA k) trivial func144 fun s Y x h=>aV h
def wM:Rw S:=aA u9 xn fun c Y=>ab k (mS k c) (aQ Y)
def zB:Fx S:=fp 11 [(144,wL k)] [] k f110 0
theorem B_ (ho:aw o):Tl o 110 (wM k:Rw S):=aE (zB k) ⟨B9 k ho,trivial⟩ func110 fun c Y x h=>aV h
def wN:Rw S:=aA u_ xn fun a b Y=>ab k (mR k a b) (GT Y)
def zC:Fx S:=fp 16 [] [] k f89 0
theorem Ca (ho:aw o):Tl o 89 (wN k:Rw S):=aE (zC k) trivial func89 fun a b Y x h=>aV h
def rm:Rw S:=aA u_ xn fun a b Y=>ab k (kJ k a b) (aQ Y)
def zE:Fx S:=fp 10 [(89,wN k)] [] k f71 0
theorem uB (ho:aw o):Tl o 71 (rm k:Rw S):=aE (zE k) ⟨Ca k ho,trivial⟩ func71 fun a b Y x h=>aV h
def wP:Rw S:=aA nL j4 fun d c0 Y=>ab k (mQ k d c0) (om c0 Y)
def zF:Fx S:=fp 12 [(71,rm k)] [] k f112 1
theorem Cc (ho:aw o):Tl o 112 (wP k:Rw S):=aE (zF k) ⟨uB k ho,trivial⟩ func112 fun d c0 Y x h=>aV h
def wQ:Rw S:=aA va j4 fun s c0 Y=>ab k (pM k s c0) (gK c0 Y)
def oM:Fx S:=fp 19 [(112,wP k)] [(2,bM [0,1,7,8] [(1000000,2)],bk 4 5)] k f69 1
def vE (c0:Cl) (s:List Cl) (v8:Int):St UU:=⟨[(0,(sC s)),(1,(.func 112 [] [(pt 1000000)])),(7,(iI s.length)),(8,(iI v8))],[(1000000,bC c0)],[],[]⟩
section
variable (k:Nat) (s:List Cl) (c0:Cl) (Y:Out UU->Option S)
theorem Ao: ∀n v8,(oM k).lp Y 2 [] n (vE c0 s v8)=jG k (gK c0 Y) c0 s n v8:=cV (my k (gK c0 Y) c0 s)
end
theorem Ce (ho:aw o):Tl o 69 (wQ k:Rw S):=aE (oM k) ⟨Cc k ho,trivial⟩ func69 fun s c0 Y x h=>aI (b:=sz k (gK c0 Y) (fun v8=>(oM k).lp Y 2 [] k (vE c0 s v8)) s c0) (by kernel_rfl) (aI (by simp only [Ao];rfl) (b_ h))
def wR:Rw S:=aA va j4 fun s c0 Y=>ab k (pI k s c0) (om c0 Y)
def zG:Fx S:=fp 9 [(69,wQ k)] [] k f47 1
theorem Cf (ho:aw o):Tl o 47 (wR k:Rw S):=aE (zG k) ⟨Ce k ho,trivial⟩ func47 fun s c0 Y x h=>aV h
def wS:Rw S:=aA nL oI fun c c0 Y=>ab k (mP k c c0) (rj c0 Y)
def zH:Fx S:=fp 7 [(47,wR k)] [] k f111 1
theorem Cg (ho:aw o):Tl o 111 (wS k:Rw S):=aE (zH k) ⟨Cf k ho,trivial⟩ func111 fun c c0 Y x h=>aV h
def wT:Rw S:=aA nM xn fun l Y=>ab k (mO k l) (fY Y)
def j8:Fx S:=fx 55 (fun _=>[]) (fun|53=>true|_=>false) [(110,wM k),(111,wS k)] [(4,⟨[(4,ae),(5,ae),(13,ae),(14,ae),(15,ae)],[(5,[bU 200320]),(12,[])]⟩,bk 6 23),(15,⟨[(8,ae),(9,bU 100009),(34,ae),(35,ae),(36,ae)],[(5,[ae])]⟩,bk 9 191)] k f85 false [] 0
def qJ (l:List Cl) (cY:List (Cl×Bool)) (b5_0:List Cl) (v15:Int):St UU:=⟨[(4,(.mp 12)),(5,(pt 5)),(13,(sC l)),(14,(iI l.length)),(15,(iI v15))],[(5,.cells [(.own 200320 0)]),(12,.map ET.C cY)],[(200320,⟨0,ET.C,b5_0⟩)],[(200320,.wr)]⟩
def vF (b5_0:List Cl) (v36:Int) (kept9:List Cl):St UU:=⟨[(8,(.func 111 [] [(pt 5)])),(9,(.own 100009 0)),(34,(sC b5_0)),(35,(iI b5_0.length)),(36,(iI v36))],[(5,.cells [(sC b5_0)])],[(100009,⟨0,ET.C,kept9⟩)],[(100009,.wr)]⟩
section
variable (k:Nat) (l:List Cl) (Y:Out UU->Option S)
theorem Aq (b5_0): ∀n v36 kept9,(j8 k).lp Y 15 [] n (vF b5_0 v36 kept9)=ie k (fY Y) b5_0 n v36 kept9:=dS (mh k (fY Y) b5_0)
theorem Ap: ∀n cY b5_0 v15,(j8 k).lp Y 4 [] n (qJ l cY b5_0 v15)=jx k (fY Y) l n cY b5_0 v15:=vw (fun own=>kg k (fY Y) l (fun b5_0 v36 kept9=>ie k (fY Y) b5_0 k v36 kept9) own) rfl (fun _=>rfl) fun r cY b5_0 v15=>aI (b:=kg k (fY Y) l (fun b5_0 v36 kept9=>(j8 k).lp Y 15 [] k (vF b5_0 v36 kept9)) (fun cY b5_0 v15=>r (qJ l cY b5_0 v15)) cY b5_0 v15) (by kernel_rfl) (by simp only [Aq])
end
theorem Ch (ho:aw o):Tl o 85 (wT k:Rw S):=aE (j8 k) ⟨B_ k ho,Cg k ho,trivial⟩ func85 fun l Y x h=>aI (b:=sb k (fY Y) (fun cY b5_0 v15=>(j8 k).lp Y 4 [] k (qJ l cY b5_0 v15)) l) (by kernel_rfl) (aI (by simp only [Ap];rfl) (b_ h))
def wU:Rw S:=aA qw xn fun s1 s2 Y=>ab k (na k s1 s2) (aQ Y)
def oN:Fx S:=fp 26 [] [(4,bM [0,1,12,13] [],bk 5 11)] k f86 0
def vG (s1 s2:List Cl) (v13:Int):St UU:=⟨[(0,(sC s1)),(1,(sC s2)),(12,(iI s1.length)),(13,(iI v13))],[],[],[]⟩
section
variable (k:Nat) (s1 s2:List Cl) (Y:Out UU->Option S)
theorem Ar: ∀n v13,(oN k).lp Y 4 [] n (vG s1 s2 v13)=jF k (aQ Y) s1 s2 n v13:=cV (mw k (aQ Y) s1 s2)
end
theorem Ci (ho:aw o):Tl o 86 (wU k:Rw S):=aE (oN k) trivial func86 fun s1 s2 Y x h=>aI (b:=sy k (aQ Y) (fun v13=>(oN k).lp Y 4 [] k (vG s1 s2 v13)) s1 s2) (by kernel_rfl) (aI (by simp only [Ar];rfl) (b_ h))
def rn:Rw S:=aA nM xn fun f Y=>ab k (hJ k f) (aQ Y)
def zI:Fx S:=fp 17 [(85,wT k),(86,wU k)] [] k f65 0
theorem uC (ho:aw o):Tl o 65 (rn k:Rw S):=aE (zI k) ⟨Ch k ho,Ci k ho,trivial⟩ func65 fun f Y x h=>aV h
def rp:Rw S:=aA nK xn fun i Y=>ab k (kP k i) (aQ Y)
def zJ:Fx S:=fp 9 [] [] k f73 0
theorem uD (ho:aw o):Tl o 73 (rp k:Rw S):=aE (zJ k) trivial func73 fun i Y x h=>aV h
def wV:Rw S:=aA vd xn fun s i Y=>ab k (kO k s i) (jR Y)
def zK:Fx S:=fp 16 [(73,rp k)] [] k f115 0
theorem Cj (ho:aw o):Tl o 115 (wV k:Rw S):=aE (zK k) ⟨uD k ho,trivial⟩ func115 fun s i Y x h=>aV h
def wX:Rw S:=aA nM xn fun f Y=>ab k (mV k f) (jR Y)
def oP:Fx S:=fp 22 [(115,wV k)] [(3,bM [3,6,7,8] [],bk 5 11)] k f87 0
def vH (f:List Cl) (s3 v8:Int):St UU:=⟨[(3,(iU s3)),(6,(sC f)),(7,(iI f.length)),(8,(iI v8))],[],[],[]⟩
section
variable (k:Nat) (f:List Cl) (Y:Out UU->Option S)
theorem As: ∀n s3 v8,(oP k).lp Y 3 [] n (vH f s3 v8)=jz k (jR Y) f n s3 v8:=dS (mj k (jR Y) f)
end
theorem Cm (ho:aw o):Tl o 87 (wX k:Rw S):=aE (oP k) ⟨Cj k ho,trivial⟩ func87 fun f Y x h=>aI (b:=sf k (jR Y) (fun s3 v8=>(oP k).lp Y 3 [] k (vH f s3 v8)) f) (by kernel_rfl) (aI (by simp only [As];rfl) (b_ h))
def wY:Rw S:=aA DW xn fun f dims Y=>ab k (gr k f dims) (aQ Y)
def zL:Fx S:=fp 15 [(87,wX k)] [] k f66 0
theorem Cn (ho:aw o):Tl o 66 (wY k:Rw S):=aE (zL k) ⟨Cm k ho,trivial⟩ func66 fun f dims Y x h=>aV h
def wZ:Rw S:=aA u9 xn fun c Y=>ab k (mN k c) (aQ Y)
def zM:Fx S:=fp 9 [] [] k f88 0
theorem Co (ho:aw o):Tl o 88 (wZ k:Rw S):=aE (zM k) trivial func88 fun c Y x h=>aV h
def w4:Rw S:=aA ve xn fun s Y=>ab k (pN k s) (bn Y)
def oQ:Fx S:=fp 19 [(88,wZ k)] [(2,bM [0,1,7,8] [],bk 4 5)] k f69 0
def vI (s:List Cl) (v8:Int):St UU:=⟨[(0,(sC s)),(1,(.func 88 [] [])),(7,(iI s.length)),(8,(iI v8))],[],[],[]⟩
section
variable (k:Nat) (s:List Cl) (Y:Out UU->Option S)
theorem Au: ∀n v8,(oQ k).lp Y 2 [] n (vI s v8)=jH k (bn Y) s n v8:=cV (mz k (bn Y) s)
end
theorem Cp (ho:aw o):Tl o 69 (w4 k:Rw S):=aE (oQ k) ⟨Co k ho,trivial⟩ func69 fun s Y x h=>aI (b:=sA k (bn Y) (fun v8=>(oQ k).lp Y 2 [] k (vI s v8)) s) (by kernel_rfl) (aI (by simp only [Au];rfl) (b_ h))
def w5:Rw S:=aA ve xn fun s Y=>ab k (pJ k s) (aQ Y)
def zN:Fx S:=fp 9 [(69,w4 k)] [] k f47 0
theorem Cq (ho:aw o):Tl o 47 (w5 k:Rw S):=aE (zN k) ⟨Cp k ho,trivial⟩ func47 fun s Y x h=>aV h
def rq:Rw S:=aA nM xn fun f Y=>ab k (jd k f) (aQ Y)
def zO:Fx S:=fp 10 [(47,w5 k),(65,rn k)] [] k f67 0
theorem uE (ho:aw o):Tl o 67 (rq k:Rw S):=aE (zO k) ⟨Cq k ho,uC k ho,trivial⟩ func67 fun f Y x h=>aV h
def w6:Rw S:=aA vf xn fun t vars dims Y=>ab k (kU k t vars dims) (aQ Y)
def j9:Fx S:=fp 138 [(62,wI k),(63,wJ k),(64,wK k),(65,rn k),(66,wY k),(67,rq k)] [(1000003,bM [1,2,3] [(3,6)],bk 2 3),(15,bM [2,3,107,108,109] [(3,6)],bk 6 23)] k f41 0
def vJ (t:Tm) (vars dims:Int):St UU:=⟨[(1,(iI vars)),(2,(iI dims)),(3,(pt 3))],[(3,bT t)],[],[]⟩
def vK (t:Tm) (dims:Int) (v109:Int):St UU:=⟨[(2,(iI dims)),(3,(pt 3)),(107,(sB t.sys)),(108,(iI t.sys.length)),(109,(iI v109))],[(3,bT t)],[],[]⟩
section
variable (k:Nat) (t:Tm) (vars dims:Int) (Y:Out UU->Option S)
theorem Aw: ∀n v109,(j9 k).lp Y 15 [] n (vK t dims v109)=fV k (aQ Y) t dims n v109:=cV (mF k (aQ Y) t dims)
theorem Av: ∀n,(j9 k).jn Y 1000003 [] n (vJ t vars dims)=nR k (aQ Y) t vars dims n:=u7 (kG k (aQ Y) t vars dims (fun v109=>fV k (aQ Y) t dims k v109)) rfl (fun _=>rfl) (aI (b:=kG k (aQ Y) t vars dims (fun v109=>(j9 k).lp Y 15 [] k (vK t dims v109))) (by kernel_rfl) (by simp only [Aw]))
end
theorem Cr (ho:aw o):Tl o 41 (w6 k:Rw S):=aE (j9 k) ⟨B6 k ho,B7 k ho,B8 k ho,uC k ho,Cn k ho,uE k ho,trivial⟩ func41 fun t vars dims Y x h=>aI (b:=sO k (aQ Y) ((j9 k).jn Y 1000003 [] k (vJ t vars dims)) t vars dims) (by kernel_rfl) (aI (by simp only [Av];rfl) (b_ h))
def jS (hd:cE S):Rw S:=aA DX xn fun t vars dims bound Y=>hd t vars dims bound (aQ Y)
def w7 (hd:cE S) (k:Nat):Rw S:=aA DY zm fun a_k v d c0 c1 c2 Y=>ab k (kS hd k a_k v d c0 c1 c2) (d9 c0 c1 c2 Y)
def zQ (hd:cE S) (k:Nat):Fx S:=fp 21 [(24,jS hd)] [] k f43 3
theorem Ct (o:Obj) (ho:aw o) (hd:cE S) (Hd:Tl o 24 (jS hd)) (k:Nat):Tl o 43 (w7 hd k:Rw S):=aE (zQ hd k) ⟨Hd,trivial⟩ func43 fun a_k v d c0 c1 c2 Y x h=>aV h
def w8 (hd:cE S) (k:Nat):Rw S:=aA DZ zm fun t c0 c1 c2 Y=>ab k (nf hd k t c0 c1 c2) (d9 c0 c1 c2 Y)
def gV (hd:cE S) (k:Nat):Fx S:=fp 60 [(43,w7 hd k),(68,ou k)] [(2,bM [1,2,15,16,17] [(2,6),(1000000,1),(1000001,1),(1000002,1)],bk 4 5),(12,bM [1,9,40,41,42] [(1000000,1),(1000001,1),(1000002,1)],bk 7 47),(15,bM [1,9,40,41,42,47,48,49] [(1000000,1),(1000001,1),(1000002,1)],bk 15 13103)] k f42 3
def qK (c0 c1:Int) (c2:Bool) (t:Tm) (v17:Int):St UU:=⟨[(1,(.func 43 [] [(pt 1000000),(pt 1000001),(pt 1000002)])),(2,(pt 2)),(15,(sT t.kids)),(16,(iI t.kids.length)),(17,(iI v17))],[(2,bT t),(1000000,bI c0),(1000001,bI c1),(1000002,.cells [(.bool c2)])],[],[]⟩
def lE (c0 c1:Int) (c2:Bool) (t:Tm) (v42 more9:Int):St UU:=⟨[(1,(.func 43 [] [(pt 1000000),(pt 1000001),(pt 1000002)])),(9,(iI more9)),(40,(sB t.sys)),(41,(iI t.sys.length)),(42,(iI v42))],[(1000000,bI c0),(1000001,bI c1),(1000002,.cells [(.bool c2)])],[],[]⟩
def vL (c0 c1:Int) (c2:Bool) (t:Tm) (v42:Int) (x4:(Br Tm)) (more9:Int) (v49:Int):St UU:=⟨[(1,(.func 43 [] [(pt 1000000),(pt 1000001),(pt 1000002)])),(9,(iI more9)),(40,(sB t.sys)),(41,(iI t.sys.length)),(42,(iI v42)),(47,(sT x4.kids)),(48,(iI x4.kids.length)),(49,(iI v49))],[(1000000,bI c0),(1000001,bI c1),(1000002,.cells [(.bool c2)])],[],[]⟩
section
variable (hd:cE S) (k:Nat) (t:Tm) (c0 c1:Int) (c2:Bool) (Y:Out UU->Option S)
theorem Az (v42 x4 more9 Y1): ∀n v49,(gV hd k).lp Y 15 [Y1] n (vL c0 c1 c2 t v42 x4 more9 v49)=gE hd k (d9 c0 c1 c2 Y) (fun v42 more9=>Y1 (lE c0 c1 c2 t v42 more9)) c0 c1 c2 t v42 x4 more9 n v49:=cV (mD hd k (d9 c0 c1 c2 Y) c0 c1 c2 t v42 x4 more9 (fun v42 more9=>Y1 (lE c0 c1 c2 t v42 more9)))
theorem Ay: ∀n v42 more9,(gV hd k).lp Y 12 [] n (lE c0 c1 c2 t v42 more9)=eS hd k (d9 c0 c1 c2 Y) c0 c1 c2 t n v42 more9:=dS (fun own=>kA hd k (d9 c0 c1 c2 Y) c0 c1 c2 t (fun v42 x4 more9 v49=>gE hd k (d9 c0 c1 c2 Y) own c0 c1 c2 t v42 x4 more9 k v49) own) rfl (fun _=>rfl) fun r v42 more9=>aI (b:=kA hd k (d9 c0 c1 c2 Y) c0 c1 c2 t (fun v42 x4 more9 v49=>(gV hd k).lp Y 15 [r] k (vL c0 c1 c2 t v42 x4 more9 v49)) (fun v42 more9=>r (lE c0 c1 c2 t v42 more9)) v42 more9) (by kernel_rfl) (by simp only [Az])
theorem Ax: ∀n v17,(gV hd k).lp Y 2 [] n (qK c0 c1 c2 t v17)=ir hd k (d9 c0 c1 c2 Y) c0 c1 c2 t n v17:=cV (fun own=>kz hd k (d9 c0 c1 c2 Y) c0 c1 c2 t (fun v42 more9=>eS hd k (d9 c0 c1 c2 Y) c0 c1 c2 t k v42 more9) own) rfl (fun _=>rfl) fun r v17=>aI (b:=kz hd k (d9 c0 c1 c2 Y) c0 c1 c2 t (fun v42 more9=>(gV hd k).lp Y 12 [] k (lE c0 c1 c2 t v42 more9)) (fun v17=>r (qK c0 c1 c2 t v17)) v17) (by kernel_rfl) (by simp only [Ay])
end
theorem Cu (o:Obj) (ho:aw o) (hd:cE S) (Hd:Tl o 24 (jS hd)) (k:Nat):Tl o 42 (w8 hd k:Rw S):=aE (gV hd k) ⟨Ct o ho hd Hd k,p5 k ho,trivial⟩ func42 fun t c0 c1 c2 Y x h=>aI (b:=sL hd k (d9 c0 c1 c2 Y) (fun v17=>(gV hd k).lp Y 2 [] k (qK c0 c1 c2 t v17)) t c0 c1 c2) (by kernel_rfl) (aI (by simp only [Ax];rfl) (b_ h))
def zP (hd:cE S) (k:Nat):Fx S:=fp 24 [(41,w6 k),(42,w8 hd k)] [] k f24 0
theorem qf (o:Obj) (ho:aw o): ∀k:Nat,Tl o 24 (jS (dL k:cE S))
 |0=>iP fun t vars dims bound Y x h=>by cases h
 |k+1=>aE (zP (dL k) k) ⟨Cr k ho,Cu o ho (dL k) (qf o ho k) k,trivial⟩ func24 fun t vars dims bound Y x h=>aI (by kernel_rfl) h
def ot:Rw S:=aA vf xn fun t vars dims Y=>ab k (h_ k t vars dims) (bn Y)
def zR:Fx S:=fp 28 [(23,rl k),(24,jS (dL k))] [] k f13 0
theorem pZ (ho:aw o):Tl o 13 (ot k:Rw S):=aE (zR k) ⟨uA k ho,qf o ho k,trivial⟩ func13 fun t vars dims Y x h=>aV h
def w_:Rw S:=aA D4 xn fun l Y=>ab k (kL k l) (bn Y)
def oS:Fx S:=fp 15 [(67,rq k)] [(2,bM [5,6,7] [],bk 4 5)] k f46 0
def vN (l:List (List Cl)) (v7:Int):St UU:=⟨[(5,(cL l .none)),(6,(iI l.length)),(7,(iI v7))],[],[],[]⟩
section
variable (k:Nat) (l:List (List Cl)) (Y:Out UU->Option S)
theorem AC: ∀n v7,(oS k).lp Y 2 [] n (vN l v7)=jy k (bn Y) l n v7:=cV (mi k (bn Y) l)
end
theorem Cw (ho:aw o):Tl o 46 (w_ k:Rw S):=aE (oS k) ⟨uE k ho,trivial⟩ func46 fun l Y x h=>aI (b:=sc k (bn Y) (fun v7=>(oS k).lp Y 2 [] k (vN l v7)) l) (by kernel_rfl) (aI (by simp only [AC];rfl) (b_ h))
def xa:Rw S:=aA nL j4 fun d c0 Y=>ab k (uo k d c0) (om c0 Y)
def zS:Fx S:=fp 7 [(71,rm k)] [] k f70 1
theorem Cx (ho:aw o):Tl o 70 (xa k:Rw S):=aE (zS k) ⟨uB k ho,trivial⟩ func70 fun d c0 Y x h=>aV h
def xb:Rw S:=aA vg j4 fun s c0 Y=>ab k (pO k s c0) (gK c0 Y)
def oT:Fx S:=fp 19 [(70,xa k)] [(2,bM [0,1,7,8] [(1000000,2)],bk 4 5)] k f69 1
def vO (c0:Cl) (s:List Cl) (v8:Int):St UU:=⟨[(0,(sC s)),(1,(.func 70 [] [(pt 1000000)])),(7,(iI s.length)),(8,(iI v8))],[(1000000,bC c0)],[],[]⟩
section
variable (k:Nat) (s:List Cl) (c0:Cl) (Y:Out UU->Option S)
theorem AD: ∀n v8,(oT k).lp Y 2 [] n (vO c0 s v8)=nP k (gK c0 Y) c0 s n v8:=cV (tB k (gK c0 Y) c0 s)
end
theorem Cy (ho:aw o):Tl o 69 (xb k:Rw S):=aE (oT k) ⟨Cx k ho,trivial⟩ func69 fun s c0 Y x h=>aI (b:=sD k (gK c0 Y) (fun v8=>(oT k).lp Y 2 [] k (vO c0 s v8)) s c0) (by kernel_rfl) (aI (by simp only [AD];rfl) (b_ h))
def xd:Rw S:=aA vg j4 fun s c0 Y=>ab k (pK k s c0) (om c0 Y)
def zT:Fx S:=fp 9 [(69,xb k)] [] k f47 1
theorem Cz (ho:aw o):Tl o 47 (xd k:Rw S):=aE (zT k) ⟨Cy k ho,trivial⟩ func47 fun s c0 Y x h=>aV h
def xe:Rw S:=aA D5 xn fun c f Y=>ab k (mU k c f) (aQ Y)
def zU:Fx S:=fp 8 [(47,xd k)] [] k f49 0
theorem CA (ho:aw o):Tl o 49 (xe k:Rw S):=aE (zU k) ⟨Cz k ho,trivial⟩ func49 fun c f Y x h=>aV h
def xg:Rw S:=aA nL oI fun c c0 Y=>ab k (mT k c c0) (rj c0 Y)
def zV:Fx S:=fp 8 [(49,xe k)] [] k f48 1
theorem CB (ho:aw o):Tl o 48 (xg k:Rw S):=aE (zV k) ⟨CA k ho,trivial⟩ func48 fun c c0 Y x h=>aV h
def xh:Rw S:=aA vh oI fun s c0 Y=>ab k (pS k s c0) (oe c0 Y)
def oU:Fx S:=fp 19 [(48,xg k)] [(2,bM [0,1,7,8] [(1000000,1)],bk 4 5)] k f69 1
def vP (c0 s:List Cl) (v8:Int):St UU:=⟨[(0,(sC s)),(1,(.func 48 [] [(pt 1000000)])),(7,(iI s.length)),(8,(iI v8))],[(1000000,.cells [(sC c0)])],[],[]⟩
section
variable (k:Nat) (s c0:List Cl) (Y:Out UU->Option S)
theorem AE: ∀n v8,(oU k).lp Y 2 [] n (vP c0 s v8)=jI k (oe c0 Y) c0 s n v8:=cV (pn k (oe c0 Y) c0 s)
end
theorem CC (ho:aw o):Tl o 69 (xh k:Rw S):=aE (oU k) ⟨CB k ho,trivial⟩ func69 fun s c0 Y x h=>aI (b:=sH k (oe c0 Y) (fun v8=>(oU k).lp Y 2 [] k (vP c0 s v8)) s c0) (by kernel_rfl) (aI (by simp only [AE];rfl) (b_ h))
def xj:Rw S:=aA vh oI fun s c0 Y=>ab k (pL k s c0) (rj c0 Y)
def zW:Fx S:=fp 9 [(69,xh k)] [] k f47 1
theorem CD (ho:aw o):Tl o 47 (xj k:Rw S):=aE (zW k) ⟨CC k ho,trivial⟩ func47 fun s c0 Y x h=>aV h
def xk:Rw S:=aA qw xn fun f g Y=>ab k (kK k f g) (GL Y)
def zX:Fx S:=fp 18 [(46,w_ k),(47,xj k)] [] k f29 0
theorem CE (ho:aw o):Tl o 29 (xk k:Rw S):=aE (zX k) ⟨Cw k ho,CD k ho,trivial⟩ func29 fun f g Y x h=>aV h
def fF (hd:bp S):Rw S:=aA jv xn fun t Y=>hd t (aQ Y)
def xl (hd:bp S) (k:Nat):Rw S:=aA vi xn fun s Y=>ab k (pP hd k s) (bn Y)
def oV (hd:bp S) (k:Nat):Fx S:=fp 19 [(16,fF hd)] [(2,bM [0,1,7,8] [],bk 4 5)] k f44 0
def vR (s:List Tm) (v8:Int):St UU:=⟨[(0,(sT s)),(1,(.func 16 [] [])),(7,(iI s.length)),(8,(iI v8))],[],[],[]⟩
section
variable (hd:bp S) (k:Nat) (s:List Tm) (Y:Out UU->Option S)
theorem AG: ∀n v8,(oV hd k).lp Y 2 [] n (vR s v8)=il hd k (bn Y) s n v8:=cV (kr hd k (bn Y) s)
end
theorem CF (o:Obj) (ho:aw o) (hd:bp S) (Hd:Tl o 16 (fF hd)) (k:Nat):Tl o 44 (xl hd k:Rw S):=aE (oV hd k) ⟨Hd,trivial⟩ func44 fun s Y x h=>aI (b:=sE hd k (bn Y) (fun v8=>(oV hd k).lp Y 2 [] k (vR s v8)) s) (by kernel_rfl) (aI (by simp only [AG];rfl) (b_ h))
def rx (hd:bp S) (k:Nat):Rw S:=aA vi xn fun s Y=>ab k (ji hd k s) (aQ Y)
def z6 (hd:bp S) (k:Nat):Fx S:=fp 9 [(44,xl hd k)] [] k f26 0
theorem uF (o:Obj) (ho:aw o) (hd:bp S) (Hd:Tl o 16 (fF hd)) (k:Nat):Tl o 26 (rx hd k:Rw S):=aE (z6 hd k) ⟨CF o ho hd Hd k,trivial⟩ func26 fun s Y x h=>aV h
def xm (hd:bp S) (k:Nat):Rw S:=aA D6 xn fun b Y=>ab k (gn hd k b) (aQ Y)
def z7 (hd:bp S) (k:Nat):Fx S:=fp 21 [(26,rx hd k),(29,xk k)] [] k f28 0
theorem CG (o:Obj) (ho:aw o) (hd:bp S) (Hd:Tl o 16 (fF hd)) (k:Nat):Tl o 28 (xm hd k:Rw S):=aE (z7 hd k) ⟨uF o ho hd Hd k,CE k ho,trivial⟩ func28 fun b Y x h=>aV h
def xo (hd:bp S) (k:Nat):Rw S:=aA vj xn fun s Y=>ab k (pR hd k s) (bn Y)
def oW (hd:bp S) (k:Nat):Fx S:=fp 19 [(28,xm hd k)] [(2,bM [0,1,7,8] [],bk 4 5)] k f45 0
def vS (s:List (Br Tm)) (v8:Int):St UU:=⟨[(0,(sB s)),(1,(.func 28 [] [])),(7,(iI s.length)),(8,(iI v8))],[],[],[]⟩
section
variable (hd:bp S) (k:Nat) (s:List (Br Tm)) (Y:Out UU->Option S)
theorem AH: ∀n v8,(oW hd k).lp Y 2 [] n (vS s v8)=io hd k (bn Y) s n v8:=cV (kw hd k (bn Y) s)
end
theorem CH (o:Obj) (ho:aw o) (hd:bp S) (Hd:Tl o 16 (fF hd)) (k:Nat):Tl o 45 (xo hd k:Rw S):=aE (oW hd k) ⟨CG o ho hd Hd k,trivial⟩ func45 fun s Y x h=>aI (b:=sG hd k (bn Y) (fun v8=>(oW hd k).lp Y 2 [] k (vS s v8)) s) (by kernel_rfl) (aI (by simp only [AH];rfl) (b_ h))
def xp (hd:bp S) (k:Nat):Rw S:=aA vj xn fun s Y=>ab k (m_ hd k s) (aQ Y)
def z8 (hd:bp S) (k:Nat):Fx S:=fp 9 [(45,xo hd k)] [] k f27 0
theorem CI (o:Obj) (ho:aw o) (hd:bp S) (Hd:Tl o 16 (fF hd)) (k:Nat):Tl o 27 (xp hd k:Rw S):=aE (z8 hd k) ⟨CH o ho hd Hd k,trivial⟩ func27 fun s Y x h=>aV h
def zZ (hd:bp S) (k:Nat):Fx S:=fp 11 [(26,rx hd k),(27,xp hd k)] [] k f16 0
theorem lf (o:Obj) (ho:aw o): ∀k:Nat,Tl o 16 (fF (dA k:bp S))
 |0=>iP fun t Y x h=>by cases h
 |k+1=>aE (zZ (dA k) k) ⟨uF o ho (dA k) (lf o ho k) k,CI o ho (dA k) (lf o ho k) k,trivial⟩ func16 fun t Y x h=>aI (by kernel_rfl) h
def xq:Rw S:=aA D7 xn fun d Y=>ab k (kN k d) (aQ Y)
def z_:Fx S:=fp 12 [(13,ot k),(16,fF (dA k))] [] k f15 0
theorem CJ (ho:aw o):Tl o 15 (xq k:Rw S):=aE (z_ k) ⟨pZ k ho,lf o ho k,trivial⟩ func15 fun d Y x h=>aV h
def xt:Rw S:=aA vk xn fun s Y=>ab k (pQ k s) (bn Y)
def oX:Fx S:=fp 19 [(15,xq k)] [(2,bM [0,1,7,8] [],bk 4 5)] k f25 0
def vT (s:List Df) (v8:Int):St UU:=⟨[(0,(cr s .none)),(1,(.func 15 [] [])),(7,(iI s.length)),(8,(iI v8))],[],[],[]⟩
section
variable (k:Nat) (s:List Df) (Y:Out UU->Option S)
theorem AI: ∀n v8,(oX k).lp Y 2 [] n (vT s v8)=im k (bn Y) s n v8:=cV (ku k (bn Y) s)
end
theorem CK (ho:aw o):Tl o 25 (xt k:Rw S):=aE (oX k) ⟨CJ k ho,trivial⟩ func25 fun s Y x h=>aI (b:=sF k (bn Y) (fun v8=>(oX k).lp Y 2 [] k (vT s v8)) s) (by kernel_rfl) (aI (by simp only [AI];rfl) (b_ h))
def ry:Rw S:=aA vk xn fun s Y=>ab k (m9 k s) (aQ Y)
def Aa:Fx S:=fp 9 [(25,xt k)] [] k f14 0
theorem uG (ho:aw o):Tl o 14 (ry k:Rw S):=aE (Aa k) ⟨CK k ho,trivial⟩ func14 fun s Y x h=>aV h
def xu:Rw S:=aA vd xn fun s i Y=>ab k (jh k s i) (jR Y)
def Ab:Fx S:=fp 16 [(73,rp k)] [] k f51 0
theorem CL (ho:aw o):Tl o 51 (xu k:Rw S):=aE (Ab k) ⟨uD k ho,trivial⟩ func51 fun s i Y x h=>aV h
def xv:Rw S:=aA qv xn fun a_x Y=>ab k (ur k a_x) (bn Y)
def Ad:Fx S:=fp 21 [] [] k f72 0
theorem CM (ho:aw o):Tl o 72 (xv k:Rw S):=aE (Ad k) trivial func72 fun a_x Y x h=>aV h
def xw:Rw S:=aA qv xn fun s Y=>ab k (jf k s) (bn Y)
def Ae:Fx S:=fp 6 [(72,xv k)] [] k f50 0
theorem CN (ho:aw o):Tl o 50 (xw k:Rw S):=aE (Ae k) ⟨CM k ho,trivial⟩ func50 fun s Y x h=>aV h
def xx:Rw S:=aA nK xn fun i Y=>ab k (kM k i) (fY Y)
def Af:Fx S:=fp 12 [(50,xw k),(51,xu k)] [] k f30 0
theorem CO (ho:aw o):Tl o 30 (xx k:Rw S):=aE (Af k) ⟨CN k ho,CL k ho,trivial⟩ func30 fun i Y x h=>aV h
def rz:Rw S:=aA D8 xn fun defs vars dims fuel Y=>ab k (m8 k defs vars dims fuel) (gJ Y)
def j_:Fx S:=fp 83 [(30,xx k)] [(5,⟨[(2,ae),(9,ae),(29,ae),(30,ae)],[(18,[ae,ae,ae,bU 201155,bU 201156,bU 201157,ae,ae,ae,ae,ae,ae,ae,ae,ae]),(26,[bU 201664,bU 201665])]⟩,bk 7 47),(10,⟨[(9,ae),(56,ae),(57,ae)],[(18,[ae,ae,ae,bU 201155,bU 201156,bU 201157,ae,ae,ae,ae,ae,ae,ae,ae,ae]),(26,[bU 201664,bU 201665])]⟩,bk 8 95)] k f17 0
def qL (vars dims fuel:Int) (defs:List Df) (b26_0:List Tm) (v30:Int):St UU:=⟨[(2,(iI dims)),(9,(pt 18)),(29,(iI vars)),(30,(iI v30))],[(18,.cells [(iI 0),(iI 0),i4,(.own 201155 0),(.own 201156 0),(.own 201157 0),(iI fuel),(iI 0),(iI 0),(cr defs .none),(iI vars),(iI dims),(pt 26),(.psl 0 1 [] true),(.bool false)]),(26,.cells [(.own 201664 0),(.own 201665 0)])],[(201665,⟨0,ET.F,([]:List (List Cl))⟩),(201664,⟨0,ET.K,b26_0⟩),(201157,iY),(201156,i8),(201155,iZ)],[(201665,.wr),(201664,.wr),(201157,.wr),(201156,.wr),(201155,.wr)]⟩
def vU (vars dims fuel:Int) (defs:List Df) (b26_0:List Tm) (b26_1:List (List Cl)) (v57:Int):St UU:=⟨[(9,(pt 18)),(56,(iI dims)),(57,(iI v57))],[(18,.cells [(iI 0),(iI 0),i4,(.own 201155 0),(.own 201156 0),(.own 201157 0),(iI fuel),(iI 0),(iI 0),(cr defs .none),(iI vars),(iI dims),(pt 26),(.psl 0 1 [] true),(.bool false)]),(26,.cells [(.own 201664 0),(.own 201665 0)])],[(201665,⟨0,ET.F,b26_1⟩),(201664,⟨0,ET.K,b26_0⟩),(201157,iY),(201156,i8),(201155,iZ)],[(201665,.wr),(201664,.wr),(201157,.wr),(201156,.wr),(201155,.wr)]⟩
section
variable (k:Nat) (defs:List Df) (vars dims fuel:Int) (Y:Out UU->Option S)
theorem AK (b26_0): ∀n b26_1 v57,(j_ k).lp Y 10 [] n (vU vars dims fuel defs b26_0 b26_1 v57)=ij k (gJ Y) vars dims fuel defs b26_0 n b26_1 v57:=dS (mo k (gJ Y) vars dims fuel defs b26_0)
theorem AJ: ∀n b26_0 v30,(j_ k).lp Y 5 [] n (qL vars dims fuel defs b26_0 v30)=jB k (gJ Y) vars dims fuel defs n b26_0 v30:=dS (fun own=>kl k (gJ Y) vars dims fuel defs (fun b26_0 b26_1 v57=>ij k (gJ Y) vars dims fuel defs b26_0 k b26_1 v57) own) rfl (fun _=>rfl) fun r b26_0 v30=>aI (b:=kl k (gJ Y) vars dims fuel defs (fun b26_0 b26_1 v57=>(j_ k).lp Y 10 [] k (vU vars dims fuel defs b26_0 b26_1 v57)) (fun b26_0 v30=>r (qL vars dims fuel defs b26_0 v30)) b26_0 v30) (by kernel_rfl) (by simp only [AK])
end
theorem uH (ho:aw o):Tl o 17 (rz k:Rw S):=aE (j_ k) ⟨CO k ho,trivial⟩ func17 fun defs vars dims fuel Y x h=>aI (b:=sn k (gJ Y) (fun b26_0 v30=>(j_ k).lp Y 5 [] k (qL vars dims fuel defs b26_0 v30)) defs vars dims fuel) (by kernel_rfl) (aI (by simp only [AJ];rfl) (b_ h))
def iJ (hd:dy S):Rw S:=aA jv xn fun t Y=>hd t (og Y)
def xy (hd:dy S) (k:Nat):Rw S:=aA D9 xn fun l Y=>ab k (kT hd k l) (oh Y)
def oZ (hd:dy S) (k:Nat):Fx S:=fp 19 [(20,iJ hd)] [(3,⟨[(3,bU 100003),(6,ae),(7,ae),(8,ae)],[]⟩,bk 5 11)] k f38 0
def vW (l:List Tm) (out3:List Tm) (v8:Int):St UU:=⟨[(3,(.own 100003 0)),(6,(sT l)),(7,(iI l.length)),(8,(iI v8))],[],[(100003,⟨0,ET.T,out3⟩)],[(100003,.wr)]⟩
section
variable (hd:dy S) (k:Nat) (l:List Tm) (Y:Out UU->Option S)
theorem AM: ∀n out3 v8,(oZ hd k).lp Y 3 [] n (vW l out3 v8)=jK hd k (oh Y) l n out3 v8:=dS (mB hd k (oh Y) l)
end
theorem CQ (o:Obj) (ho:aw o) (hd:dy S) (Hd:Tl o 20 (iJ hd)) (k:Nat):Tl o 38 (xy hd k:Rw S):=aE (oZ hd k) ⟨Hd,trivial⟩ func38 fun l Y x h=>aI (b:=sJ hd k (oh Y) (fun out3 v8=>(oZ hd k).lp Y 3 [] k (vW l out3 v8)) l) (by kernel_rfl) (aI (by simp only [AM];rfl) (b_ h))
def oY (hd:dy S) (k:Nat):Fx S:=fp 40 [(37,rK),(38,xy hd k)] [(3,⟨[(2,ae),(3,ae),(20,ae),(21,ae),(22,ae)],[(2,[ae,ae,ae,bU 200131,bU 200132,bU 200133]),(3,[ae,ae,ae,ae,ae,bU 200197])]⟩,bk 5 11)] k f20 0
def vV (t:Tm) (r1:List Cl) (r2:List Tm) (b3_5:List (Br Tm)) (v22:Int):St UU:=⟨[(2,(pt 2)),(3,(pt 3)),(20,(sB t.sys)),(21,(iI t.sys.length)),(22,(iI v22))],[(2,.cells [(iI 0),(iI 0),i4,(.own 200131 0),(.own 200132 0),(.own 200133 0)]),(3,.cells [(iI t.kind),(iI t.n),(.str t.name),(sC r1),(sT r2),(.own 200197 0)])],[(200197,⟨0,ET.B,b3_5⟩),(200133,iY),(200132,i8),(200131,iZ)],[(200197,.wr),(200133,.wr),(200132,.wr),(200131,.wr)]⟩
section
variable (hd:dy S) (k:Nat) (t:Tm) (Y:Out UU->Option S)
theorem AL (r1 r2): ∀n b3_5 v22,(oY hd k).lp Y 3 [] n (vV t r1 r2 b3_5 v22)=jJ hd k (og Y) t r1 r2 n b3_5 v22:=dS (mA hd k (og Y) t r1 r2)
end
theorem lg (o:Obj) (ho:aw o): ∀k:Nat,Tl o 20 (iJ (dB k:dy S))
 |0=>iP fun t Y x h=>by cases h
 |k+1=>aE (oY (dB k) k) ⟨IW o ho,CQ o ho (dB k) (lg o ho k) k,trivial⟩ func20 fun t Y x h=>aI (b:=sI (dB k) k (og Y) (fun r1 r2 b3_5 v22=>(oY (dB k) k).lp Y 3 [] k (vV t r1 r2 b3_5 v22)) t) (by kernel_rfl) (aI (by simp only [AL];rfl) h)
def xz:Rw S:=aA qx gc fun t ah ai aq ar au av aG am ao ap ak al aD af ag Y=>ab k (pH k t ah ai aq ar au av aG am ao ap ak al aD af ag) (GM ah ai aq ar au av aG am ao ap ak al aD af ag Y)
def tf:Fx S:=fp 11 [] [] k f33 2
theorem CR (ho:aw o):Tl o 33 (xz k:Rw S):=aE (tf k) trivial func33 fun t ah ai aq ar au av aG am ao ap ak al aD af ag Y x h=>aV h
def xA:Rw S:=aA lm gc fun aP a_ ba be a8 bg ah ai aq ar au av aG am ao ap ak al aD af ag Y=>ab k (hM k aP a_ ba be a8 bg ah ai aq ar au av aG am ao ap ak al aD af ag) (wE ah ai aq ar au av aG am ao ap ak al aD af ag Y)
def o8:Fx S:=fp 62 [] [] k f52 2
theorem CS (ho:aw o):Tl o 52 (xA k:Rw S):=aE (o8 k) trivial func52 fun aP a_ ba be a8 bg ah ai aq ar au av aG am ao ap ak al aD af ag Y x h=>aV h
def xB:Rw S:=aA D_ Ji fun aP a_ ba be a8 bg i ah ai Y=>ab k (eO k aP a_ ba be a8 bg i ah ai) (GN ah ai Y)
def tg:Fx S:=fp 14 [] [] k f76 1
theorem CT (ho:aw o):Tl o 76 (xB k:Rw S):=aE (tg k) trivial func76 fun aP a_ ba be a8 bg i ah ai Y x h=>aV h
def xD:Rw S:=aA Ea gc fun ah ai aq ar au av aG am ao ap ak al aD af ag Y=>ab k (uq k ah ai aq ar au av aG am ao ap ak al aD af ag) (GO ah ai aq ar au av am ao ap ak al aD af ag Y)
def th:Fx S:=fp 18 [] [] k f79 2
theorem CU (ho:aw o):Tl o 79 (xD k:Rw S):=aE (th k) trivial func79 fun ah ai aq ar au av aG am ao ap ak al aD af ag Y x h=>aV h
def xF:Rw S:=aA lm gc fun aP a_ ba be a8 bg ah ai aq ar au av aG am ao ap ak al aD af ag Y=>ab k (pG k aP a_ ba be a8 bg ah ai aq ar au av aG am ao ap ak al aD af ag) (wE ah ai aq ar au av aG am ao ap ak al aD af ag Y)
def ti:Fx S:=fp 109 [] [] k f81 2
theorem CW (ho:aw o):Tl o 81 (xF k:Rw S):=aE (ti k) trivial func81 fun aP a_ ba be a8 bg ah ai aq ar au av aG am ao ap ak al aD af ag Y x h=>aV h
def xG:Rw S:=aA lm gc fun aP a_ ba be a8 bg ah ai aq ar au av aG am ao ap ak al aD af ag Y=>ab k (hU k aP a_ ba be a8 bg ah ai aq ar au av aG am ao ap ak al aD af ag) (GP ah ai aq ar au av am ao ap ak al aD af ag Y)
def tj:Fx S:=fp 112 [(76,xB k),(79,xD k),(81,xF k)] [] k f53 2
theorem CX (ho:aw o):Tl o 53 (xG k:Rw S):=aE (tj k) ⟨CT k ho,CU k ho,CW k ho,trivial⟩ func53 fun aP a_ ba be a8 bg ah ai aq ar au av aG am ao ap ak al aD af ag Y x h=>aV h
def xH:Rw S:=aA lm gc fun aP a_ ba be a8 bg ah ai aq ar au av aG am ao ap ak al aD af ag Y=>ab k (je k aP a_ ba be a8 bg ah ai aq ar au av aG am ao ap ak al aD af ag) (lS ah ai aq ar au av aG am ao ap ak al aD af ag Y)
def tk:Fx S:=fp 26 [] [] k f55 2
theorem CY (ho:aw o):Tl o 55 (xH k:Rw S):=aE (tk k) trivial func55 fun aP a_ ba be a8 bg ah ai aq ar au av aG am ao ap ak al aD af ag Y x h=>aV h
def xJ:Rw S:=aA qx gc fun a_x ah ai aq ar au av aG am ao ap ak al aD af ag Y=>ab k (hZ k a_x ah ai aq ar au av aG am ao ap ak al aD af ag) (lS ah ai aq ar au av aG am ao ap ak al aD af ag Y)
def mb:Fx S:=fp 27 [] [(2,⟨[(0,ae),(3,ae),(4,ae),(5,ae)],[(3,[ae,ae,ae,ae,ae,ae]),(4,[ae,ae,ae,bU 200259,bU 200260,bU 200261]),(1000000,[ae,ae,ae,ae,ae,ae,ae,ae,ae,ae,ae,ae,ae,ae,ae]),(1000001,[ae,ae])]⟩,bk 4 5)] k f54 2
def vX (ah ai ak al:Int) (aD:Bool) (aq:ByteArray) (ar:List Cl) (au:List Tm) (av:List (Br Tm)) (aG am ao:Int) (ap:List Df) (af:List Tm) (ag:List (List Cl)) (a_x:Tm):St UU:=⟨[(0,(pt 1000000)),(3,(pt 3)),(4,(pt 4)),(5,(iI 0))],[(3,bT a_x),(4,.cells [(iI 0),(iI 0),i4,(.own 200259 0),(.own 200260 0),(.own 200261 0)]),(1000000,.cells [(iI ah),(iI ai),(.str aq),(sC ar),(sT au),(sB av),(iI aG),(iI am),(iI ao),(cr ap .none),(iI ak),(iI al),(pt 1000001),(.psl 0 1 [] true),(.bool aD)]),(1000001,.cells [(de af .none),(cL ag .none)])],[(200261,iY),(200260,i8),(200259,iZ)],[(200261,.wr),(200260,.wr),(200259,.wr)]⟩
section
variable (k:Nat) (a_x:Tm) (ah ai:Int) (aq:ByteArray) (ar:List Cl) (au:List Tm) (av:List (Br Tm)) (aG am ao:Int) (ap:List Df) (ak al:Int) (aD:Bool) (af:List Tm) (ag:List (List Cl)) (Y:Out UU->Option S)
theorem AN: ∀n,(mb k).lp Y 2 [] n (vX ah ai ak al aD aq ar au av aG am ao ap af ag a_x)=nO k (lS ah ai aq ar au av aG am ao ap ak al aD af ag Y) ah ai ak al aD aq ar au av aG am ao ap af ag a_x n:=Ft (pm k (lS ah ai aq ar au av aG am ao ap ak al aD af ag Y) ah ai ak al aD aq ar au av aG am ao ap af ag a_x)
end
theorem CZ (ho:aw o):Tl o 54 (xJ k:Rw S):=aE (mb k) trivial func54 fun a_x ah ai aq ar au av aG am ao ap ak al aD af ag Y x h=>aI (b:=sk k (lS ah ai aq ar au av aG am ao ap ak al aD af ag Y) ((mb k).lp Y 2 [] k (vX ah ai ak al aD aq ar au av aG am ao ap af ag a_x)) a_x ah ai aq ar au av aG am ao ap ak al aD af ag) (by kernel_rfl) (aI (by simp only [AN];rfl) (b_ h))
def xK:Rw S:=aA lm gc fun aP a_ ba be a8 bg ah ai aq ar au av aG am ao ap ak al aD af ag Y=>ab k (m7 k aP a_ ba be a8 bg ah ai aq ar au av aG am ao ap ak al aD af ag) (oj ah ai aq ar au av am ao ap ak al af ag Y)
def mc:Fx S:=fp 49 [(52,xA k),(53,xG k),(54,xJ k),(55,xH k)] [(1,⟨[(0,ae),(3,ae),(4,ae)],[(3,[ae,ae,ae,ae,ae,ae,ae]),(4,[ae,ae,ae,bU 200259,bU 200260,bU 200261]),(1000000,[ae,ae,ae,ae,ae,ae,ae,ae,ae,ae,ae,ae,ae,ae,ae]),(1000001,[ae,ae])]⟩,bk 2 1)] k f32 2
def vY (ah ai ak al:Int) (aq:ByteArray) (ar:List Cl) (au:List Tm) (av:List (Br Tm)) (am ao:Int) (ap:List Df) (af:List Tm) (ag:List (List Cl)) (bN:Bool) (di cZ dm:Int) (dp:ByteArray) (dq:List Cl) (dr:List Tm) (b3_5:List (Br Tm)):St UU:=⟨[(0,(pt 1000000)),(3,(pt 3)),(4,(pt 4))],[(3,.cells [(iI cZ),(iI dm),(.str dp),(sC dq),(sT dr),(sB b3_5),(pt 1000001)]),(4,.cells [(iI 0),(iI 0),i4,(.own 200259 0),(.own 200260 0),(.own 200261 0)]),(1000000,.cells [(iI ah),(iI ai),(.str aq),(sC ar),(sT au),(sB av),(iI di),(iI am),(iI ao),(cr ap .none),(iI ak),(iI al),(pt 1000001),(.psl 0 1 [] true),(.bool bN)]),(1000001,.cells [(de af .none),(cL ag .none)])],[(200261,iY),(200260,i8),(200259,iZ)],[(200261,.wr),(200260,.wr),(200259,.wr)]⟩
section
variable (k:Nat) (aP a_:Int) (ba:ByteArray) (be:List Cl) (a8:List Tm) (bg:List (Br Tm)) (ah ai:Int) (aq:ByteArray) (ar:List Cl) (au:List Tm) (av:List (Br Tm)) (aG am ao:Int) (ap:List Df) (ak al:Int) (aD:Bool) (af:List Tm) (ag:List (List Cl)) (Y:Out UU->Option S)
theorem AO: ∀n bN di cZ dm dp dq dr b3_5,(mc k).lp Y 1 [] n (vY ah ai ak al aq ar au av am ao ap af ag bN di cZ dm dp dq dr b3_5)=ln k (oj ah ai aq ar au av am ao ap ak al af ag Y) ah ai ak al aq ar au av am ao ap af ag n bN di cZ dm dp dq dr b3_5:=Fv (pk k (oj ah ai aq ar au av am ao ap ak al af ag Y) ah ai ak al aq ar au av am ao ap af ag)
end
theorem C0 (ho:aw o):Tl o 32 (xK k:Rw S):=aE (mc k) ⟨CS k ho,CX k ho,CZ k ho,CY k ho,trivial⟩ func32 fun aP a_ ba be a8 bg ah ai aq ar au av aG am ao ap ak al aD af ag Y x h=>aI (b:=si k (oj ah ai aq ar au av am ao ap ak al af ag Y) (fun bN di cZ dm dp dq dr b3_5=>(mc k).lp Y 1 [] k (vY ah ai ak al aq ar au av am ao ap af ag bN di cZ dm dp dq dr b3_5)) aP a_ ba be a8 bg ah ai aq ar au av aG am ao ap ak al aD af ag) (by kernel_rfl) (aI (by simp only [AO];rfl) (b_ h))
def rA:Rw S:=aA jv xn fun t Y=>ab k (nc k t) (bn Y)
def Ah:Fx S:=fp 12 [(23,rl k),(24,jS (dL k))] [] k f34 0
theorem uI (ho:aw o):Tl o 34 (rA k:Rw S):=aE (Ah k) ⟨uA k ho,qf o ho k,trivial⟩ func34 fun t Y x h=>aV h
def xL:Rw S:=aA qx gc fun t ah ai aq ar au av aG am ao ap ak al aD af ag Y=>ab k (m6 k t ah ai aq ar au av aG am ao ap ak al aD af ag) (GQ am ao ap ak al af ag Y)
def tl:Fx S:=⟨⟨22,(fun _=>[]),(fun _=>false),ae,fun|4=>true|_=>false,fun _=>false⟩,[(20,iJ (dB k)),(32,xK k),(33,xz k),(34,rA k)],[],k,f18,false,[],2,some (pA 14 31 f31 k)⟩
theorem C1 (ho:aw o):Tl o 18 (xL k:Rw S):=IP (tl k) rfl (tO o func31 (by kernel_rfl)) ⟨lg o ho k,C0 k ho,CR k ho,uI k ho,trivial⟩ func18 (by kernel_rfl) fun t ah ai aq ar au av aG am ao ap ak al aD af ag Y x h=>aV h
def xM:Rw S:=aA Eb xn fun defs t vars dims fuel Y=>ab k (cH k defs t vars dims fuel) (ol Y)
def md:Fx S:=fp 86 [(13,ot k),(14,ry k),(16,fF (dA k)),(17,rz k),(18,xL k),(20,iJ (dB k))] [(1000013,⟨[(10,ae),(11,ae),(14,ae)],[(10,[ae,ae,ae,bU 200643,bU 200644,bU 200645,ae,ae,ae]),(43000,[ae,ae,ae,ae,ae,ae,ae,ae,ae,ae,ae,ae,ae,ae,ae]),(43001,[ae,ae])]⟩,bk 8 255)] k f7 0
def vZ (r5:Int×Int×Int×ByteArray×List Cl×List Tm×List (Br Tm)×Int×Bool) (r4:Int×Int×ByteArray×List Cl×List Tm×List (Br Tm)×Int×Int×Int×List Df×Int×Int×Bool×List Tm×List (List Cl)):St UU:=⟨[(10,(pt 10)),(11,(iI r5.1)),(14,(pt 43000))],[(10,.cells [(iI 0),(iI 0),i4,(.own 200643 0),(.own 200644 0),(.own 200645 0),(iI 0),(iI 0),(iI 0)]),(43000,.cells [(iI r5.2.1),(iI r5.2.2.1),(.str r5.2.2.2.1),(sC r5.2.2.2.2.1),(sT r5.2.2.2.2.2.1),(sB r5.2.2.2.2.2.2.1),(iI r5.2.2.2.2.2.2.2.1),(iI r4.2.2.2.2.2.2.2.1),(iI r4.2.2.2.2.2.2.2.2.1),(cr r4.2.2.2.2.2.2.2.2.2.1 .none),(iI r4.2.2.2.2.2.2.2.2.2.2.1),(iI r4.2.2.2.2.2.2.2.2.2.2.2.1),(pt 43001),(.psl 0 1 [] true),(.bool r5.2.2.2.2.2.2.2.2)]),(43001,.cells [(de r4.2.2.2.2.2.2.2.2.2.2.2.2.2.1 .none),(cL r4.2.2.2.2.2.2.2.2.2.2.2.2.2.2 .none)])],[(200645,iY),(200644,i8),(200643,iZ)],[(200645,.wr),(200644,.wr),(200643,.wr)]⟩
section
variable (k:Nat) (defs:List Df) (t:Tm) (vars dims fuel:Int) (Y:Out UU->Option S)
theorem AP (r5 r4): ∀n,(md k).jn Y 1000013 [] n (vZ r5 r4)=nN k (ol Y) r5 r4 n:=u7 (kj k (ol Y) r5 r4)
end
theorem C2 (ho:aw o):Tl o 7 (xM k:Rw S):=aE (md k) ⟨pZ k ho,uG k ho,lf o ho k,uH k ho,C1 k ho,lg o ho k,trivial⟩ func7 fun defs t vars dims fuel Y x h=>aI (b:=j0 k (ol Y) (fun r5 r4=>(md k).jn Y 1000013 [] k (vZ r5 r4)) defs t vars dims fuel) (by kernel_rfl) (aI (by simp only [AP];rfl) (b_ h))
def xN:Rw S:=aA qw xn fun a b Y=>ab k (kQ k a b) (aQ Y)
def o9:Fx S:=fp 26 [] [(4,bM [0,1,5] [],bk 5 11)] k f21 0
def v6 (a b:List Cl) (i5:Int):St UU:=⟨[(0,(sC a)),(1,(sC b)),(5,(iI i5))],[],[],[]⟩
section
variable (k:Nat) (a b:List Cl) (Y:Out UU->Option S)
theorem AQ: ∀n i5,(o9 k).lp Y 4 [] n (v6 a b i5)=jC k (aQ Y) a b n i5:=cV (mq k (aQ Y) a b)
end
theorem C3 (ho:aw o):Tl o 21 (xN k:Rw S):=aE (o9 k) trivial func21 fun a b Y x h=>aI (b:=sq k (aQ Y) (fun i5=>(o9 k).lp Y 4 [] k (v6 a b i5)) a b) (by kernel_rfl) (aI (by simp only [AQ];rfl) (b_ h))
def lV (hd:dx S):Rw S:=aA Ec xn fun a b Y=>hd a b (aQ Y)
def xP (hd:dx S) (k:Nat):Rw S:=aA Ed xn fun a b Y=>ab k (kR hd k a b) (aQ Y)
def pb (hd:dx S) (k:Nat):Fx S:=fp 27 [(9,lV hd)] [(4,bM [0,1,5] [],bk 5 11)] k f22 0
def wa (a b:List Tm) (i5:Int):St UU:=⟨[(0,(sT a)),(1,(sT b)),(5,(iI i5))],[],[],[]⟩
section
variable (hd:dx S) (k:Nat) (a b:List Tm) (Y:Out UU->Option S)
theorem AS: ∀n i5,(pb hd k).lp Y 4 [] n (wa a b i5)=jE hd k (aQ Y) a b n i5:=cV (mu hd k (aQ Y) a b)
end
theorem C5 (o:Obj) (ho:aw o) (hd:dx S) (Hd:Tl o 9 (lV hd)) (k:Nat):Tl o 22 (xP hd k:Rw S):=aE (pb hd k) ⟨Hd,trivial⟩ func22 fun a b Y x h=>aI (b:=sx hd k (aQ Y) (fun i5=>(pb hd k).lp Y 4 [] k (wa a b i5)) a b) (by kernel_rfl) (aI (by simp only [AS];rfl) (b_ h))
def o_ (hd:dx S) (k:Nat):Fx S:=fp 87 [(21,xN k),(22,xP hd k)] [(4,bM [2,3,5] [(2,6),(3,6)],bk 5 11)] k f9 0
def v_ (a b:Tm) (i5:Int):St UU:=⟨[(2,(pt 2)),(3,(pt 3)),(5,(iI i5))],[(2,bT a),(3,bT b)],[],[]⟩
section
variable (hd:dx S) (k:Nat) (a b:Tm) (Y:Out UU->Option S)
theorem AR: ∀n i5,(o_ hd k).lp Y 4 [] n (v_ a b i5)=jD hd k (aQ Y) a b n i5:=cV (mt hd k (aQ Y) a b)
end
theorem qh (o:Obj) (ho:aw o): ∀k:Nat,Tl o 9 (lV (bY k:dx S))
 |0=>iP fun a b Y x h=>by cases h
 |k+1=>aE (o_ (bY k) k) ⟨C3 k ho,C5 o ho (bY k) (qh o ho k) k,trivial⟩ func9 fun a b Y x h=>aI (b:=su (bY k) k (aQ Y) (fun i5=>(o_ (bY k) k).lp Y 4 [] k (v_ a b i5)) a b) (by kernel_rfl) (aI (by simp only [AR];rfl) h)
end
end Go.Proofs.YtlidjlacmpaefaaGreatDoor
namespace Go.Proofs.YtlidjlacmpaefaaGreatDoor
open Go PI
set_option maxRecDepth 100000
noncomputable section
variable {S:Type}
noncomputable def Fx.row (F:Fx S):Rw S:=fun vs bs κ=>bif a7 vs.length F.sd.nt&&a7 bs.length 1000000 then F.run vs bs κ else .none
theorem dw {o:Obj} (F:Fx S) {f:FuncId} (ht:TA o F.rows) (hf:Tryz.prog.funcs[f]? =some F.fn) (hb:gH F 0 0=true)
  (h1:F.sd.rcv= .none:=by rfl) (h2:F.sd.pin=(fun _=>false):=by rfl) (h3:F.cd= .none:=by rfl):Tl o f F.row:=fun vs bs κ x h=>by
 unfold Fx.row at h
 cases hc:a7 vs.length F.sd.nt&&a7 bs.length 1000000 with
 |false=>rw [hc] at h;cases h
 |true=>
  rw [hc] at h
  simp only [cond_true] at h
  simp only [aj] at hc
  unfold Fx.run at h
  rw [h3] at h
  obtain ⟨b1,b2,b3,b4,b5,b6⟩:=lP hb
  exact sw (rN jM (jt o) h1 h2 ht.tells hf b1 b2 b3 b4 (eI hc.1) h)
open Classical in
theorem IT {o:Obj} (F:Fx S) {f:FuncId} {C:PU->Oracle UU S} (h3:F.cd=some C) (hC: ∀v u u',RcvOK v u u'->(C v).Tells (eG (LL o) (e9 Tryz.prog u u'))) (ht:TA o F.rows) (hf:Tryz.prog.funcs[f]? =some F.fn) (hb:gH F 0 0=true)
  (h1:F.sd.rcv= .none:=by rfl):Tl o f F.row:=fun vs bs κ x h=>by
 unfold Fx.row at h
 cases hc:a7 vs.length F.sd.nt&&a7 bs.length 1000000 with
 |false=>rw [hc] at h;cases h
 |true=>
  rw [hc] at h
  simp only [cond_true] at h
  simp only [aj] at hc
  unfold Fx.run at h
  rw [h3] at h
  obtain ⟨b1,b2,b3,b4,b5,b6⟩:=lP hb
  exact sw (x_ jM (jt o) h1 ht.tells hC hf b1 b2 b3 b4 (eI hc.1) (eI hc.2) h)
noncomputable def FciSpend:Fx S:={(th 60:Fx S) with rows:=[]}
noncomputable def t_:Rw S:=FciSpend.row
theorem IG (o:Obj) (ho:aw o):Tl o 79 (t_:Rw S):=dw FciSpend trivial Tryz.func79 (by kernel_rfl)
noncomputable def FciKid:Fx S:={(tg 60:Fx S) with rows:=[]}
noncomputable def tU:Rw S:=FciKid.row
theorem Ix (o:Obj) (ho:aw o):Tl o 76 (tU:Rw S):=dw FciKid trivial Tryz.func76 (by kernel_rfl)
noncomputable def FciWith:Fx S:=⟨⟨18,fun _=>[],fun _=>false,.none,fun _=>false,fun|6=>true|_=>false⟩,[],[],60,Tryz.f346,false,[true,true,true,true,true,true,true,true,true],0,.none⟩
noncomputable def ub:Rw S:=FciWith.row
theorem II (o:Obj) (ho:aw o):Tl o 346 (ub:Rw S):=dw FciWith trivial Tryz.func346 (by kernel_rfl)
noncomputable def FciApply:Fx S:=⟨⟨26,fun _=>[],fun _=>false,.none,fun _=>false,fun _=>false⟩,[(79,t_),(346,ub)],[],60,Tryz.f344,false,[],0,.none⟩
noncomputable def tP:Rw S:=FciApply.row
theorem It (o:Obj) (ho:aw o):Tl o 344 (tP:Rw S):=dw FciApply ⟨IG o ho,II o ho,trivial⟩ Tryz.func344 (by kernel_rfl)
noncomputable def FciFire:Fx S:={(o8 60:Fx S) with rows:=[(344,tP)],sd:={(o8 60:Fx S).sd with psl:=fun|53=>true|_=>false}}
noncomputable def tQ:Rw S:=FciFire.row
theorem Iu (o:Obj) (ho:aw o):Tl o 52 (tQ:Rw S):=dw FciFire ⟨It o ho,trivial⟩ Tryz.func52 (by kernel_rfl)
noncomputable def FciPush:Fx S:=⟨⟨22,fun _=>[],fun _=>false,.none,fun _=>false,fun|14=>true|_=>false⟩,[],[],60,Tryz.f75,false,[],0,.none⟩
noncomputable def t6:Rw S:=FciPush.row
theorem ID (o:Obj) (ho:aw o):Tl o 75 (t6:Rw S):=dw FciPush trivial Tryz.func75 (by kernel_rfl)
noncomputable def FciLook:Fx S:=⟨⟨33,fun _=>[],fun _=>false,.none,fun _=>false,fun _=>false⟩,[],[],60,Tryz.f74,false,[],0,.none⟩
noncomputable def tV:Rw S:=FciLook.row
theorem Iy (o:Obj) (ho:aw o):Tl o 74 (tV:Rw S):=dw FciLook trivial Tryz.func74 (by kernel_rfl)
noncomputable def FciOther:Fx S:={(ti 60:Fx S) with rows:=[]}
noncomputable def tY:Rw S:=FciOther.row
theorem IB (o:Obj) (ho:aw o):Tl o 81 (tY:Rw S):=dw FciOther trivial Tryz.func81 (by kernel_rfl)
noncomputable def FciNode:Fx S:={(tj 60:Fx S) with rows:=[(74,tV),(75,t6),(76,tU),(81,tY)]}
noncomputable def tW:Rw S:=FciNode.row
theorem Iz (o:Obj) (ho:aw o):Tl o 53 (tW:Rw S):=dw FciNode ⟨Iy o ho,ID o ho,Ix o ho,IB o ho,trivial⟩ Tryz.func53 (by kernel_rfl)
noncomputable def FciForce:Fx S:={(tk 60:Fx S) with rows:=[]}
noncomputable def tR:Rw S:=FciForce.row
theorem Iv (o:Obj) (ho:aw o):Tl o 55 (tR:Rw S):=dw FciForce trivial Tryz.func55 (by kernel_rfl)
noncomputable def FciStuck:Fx S:={(mb 60:Fx S) with rows:=[]}
noncomputable def ua:Rw S:=FciStuck.row
theorem IH (o:Obj) (ho:aw o):Tl o 54 (ua:Rw S):=dw FciStuck trivial Tryz.func54 (by kernel_rfl)
noncomputable def FciRun:Fx S:={(mc 60:Fx S) with rows:=[(52,tQ),(53,tW),(54,ua),(55,tR)]}
noncomputable def t7:Rw S:=FciRun.row
theorem IE (o:Obj) (ho:aw o):Tl o 32 (t7:Rw S):=dw FciRun ⟨Iu o ho,Iz o ho,IH o ho,Iv o ho,trivial⟩ Tryz.func32 (by kernel_rfl)
noncomputable def FciPlain:Fx S:={(tf 60:Fx S) with rows:=[]}
noncomputable def tZ:Rw S:=FciPlain.row
theorem IC (o:Obj) (ho:aw o):Tl o 33 (tZ:Rw S):=dw FciPlain trivial Tryz.func33 (by kernel_rfl)
noncomputable def FciGuarded:Fx S:={(tl 60:Fx S) with rows:=[(20,iJ (dB 60)),(32,t7),(33,tZ),(34,rA 60)]}
noncomputable def tT:Rw S:=FciGuarded.row
theorem Iw (o:Obj) (ho:aw o):Tl o 18 (tT:Rw S):=IT FciGuarded rfl (tO o Tryz.func31 (by kernel_rfl)) ⟨lg o ho 60,IE o ho,IC o ho,uI 60 ho,trivial⟩ Tryz.func18 (by kernel_rfl)
noncomputable def FciRunM:Fx S:={(md 60:Fx S) with rows:=[(13,ot 60),(14,ry 60),(16,fF (dA 60)),(17,rz 60),(18,tT),(20,iJ (dB 60))]}
noncomputable def t8:Rw S:=FciRunM.row
theorem IF (o:Obj) (ho:aw o):Tl o 7 (t8:Rw S):=dw FciRunM ⟨pZ 60 ho,uG 60 ho,lf o ho 60,uH 60 ho,Iw o ho,lg o ho 60,trivial⟩ Tryz.func7 (by kernel_rfl)
noncomputable def FciOf:Fx S:=⟨⟨8,fun _=>[],fun _=>false,.none,fun _=>false,fun _=>false⟩,[],[],60,Tryz.f10,false,[],0,.none⟩
noncomputable def tX:Rw S:=FciOf.row
theorem IA (o:Obj) (ho:aw o):Tl o 10 (tX:Rw S):=dw FciOf trivial Tryz.func10 (by kernel_rfl)
noncomputable def FciWorks:Fx S:=⟨⟨49,fun _=>[],fun _=>false,.none,fun _=>false,fun _=>false⟩,[(7,t8),(10,tX),(9,lV (bY 60))],[],60,Tryz.f4,false,[],0,.none⟩
noncomputable def uc:Rw S:=FciWorks.row
theorem IJ (o:Obj) (ho:aw o):Tl o 4 (uc:Rw S):=dw FciWorks ⟨IF o ho,IA o ho,qh o ho 60,trivial⟩ Tryz.func4 (by kernel_rfl)
set_option maxHeartbeats 4000000 in
theorem Jd (κ:Out UU->Option S):(uc:Rw S) [] [] κ=κ (.ret (.bool true) []):=by kernel_rfl
theorem IV (o:Obj) (ho:aw o):Tl o 4 (rJ:Rw S):=fun vs bs κ x h=>by
 unfold rJ at h
 split at h
 ·exact IJ o ho [] [] _ x ((Jd _).trans h)
 ·cases h
end
end Go.Proofs.YtlidjlacmpaefaaGreatDoor
namespace Go.Proofs.YtlidjlacmpaefaaGreatDoor
open Go PI _root_.Go.Proofs.Tryz
set_option maxRecDepth 100000
noncomputable section
variable {S:Type} {o:Obj} (k:Nat)
def ov:Rw S:=aA Ee xn fun defs t vars many Y=>ab k (mZ k defs t vars many) (aQ Y)
def Ai:Fx S:=fp 75 [(4,rJ),(5,wF k),(6,wW k),(7,xM k),(8,w9 k),(9,lV (bY k))] [] k f3 0
theorem C6 (ho:aw o):Tl o 3 (ov k:Rw S):=aE (Ai k) ⟨IV o ho,B3 k ho,Ck k ho,C2 k ho,Cv k ho,qh o ho k,trivial⟩ func3 fun defs t vars many Y x h=>aV h
theorem IU (o:Obj) (ho:aw o) (k:Nat):Tl o 3 (ov k:Rw S):=C6 k ho
end
end Go.Proofs.YtlidjlacmpaefaaGreatDoor
namespace Go.Proofs.YtlidjlacmpaefaaGreatDoor
open Go PI
variable {S:Type} {k:Nat}
def bE {α β:Type} (x:Except Int α) (f:α->Except Int β):Except Int β:=match x with
 | .error e=> .error e
 | .ok a=>f a
theorem eo {α β:Type} {x:Except Int α} {f:α->Except Int β} {b:β} (h:bE x f= .ok b): ∃a,x= .ok a/\f a= .ok b:=by
 cases x with
 |error e=>cases h
 |ok a=>exact ⟨a,rfl,h⟩
def iR (x:LC×Int):Except Int (LC):=if x.2=0 then .ok x.1 else .error x.2
theorem sP {x:LC×Int} {l:LC} (h:iR x= .ok l):x.2=0/\x.1=l:=by
 grind [iR]
theorem y8 {n b x y:Nat} (h:e7 n b x=e7 n b y):x=y:=by
 grind [e7]
theorem I0 (n b:Nat) {l:List Nat} (h:l.Nodup):(l.map (e7 n b)).Nodup:=
 List.Pairwise.map (S:=fun a b=>a≠b) (R:=fun a b=>a≠b) _ (fun x y hxy h=>hxy (y8 h)) h
theorem Fi {m n b:Nat} (h:(fW m n b).2=0) (j:Nat):(fW m n b).1.testBit j=true↔ ∃x,x<24/\m.testBit x=true/\e7 n b x=j:=by
 rw [Fg] at h ⊢
 split<;>grind [yI,I0,tH,gF]
theorem Dl {i b:Int}: ∀ {r h:LC},(d5 (fB i b) h r).2=0->(∀c∈r,(eU c i b).2=0)/\(d5 (fB i b) h r).1=h++r.map fun c=>(eU c i b).1:=by
 intro r
 induction r<;>grind [d5,fB]
theorem Fc {f:LC} {i b:Int} (h:(fC f i b).2=0): ∀c∈(fC f i b).1,∃d∈f,(eU d i b).2=0/\c=(eU d i b).1:=by
 grind [fC,Dl,co,mem_mins]
theorem Bz {c:Cl}:dZ c=false↔ ∀j,¬ (c.pos.toNat.testBit j=true/\c.neg.toNat.testBit j=true):=by
 unfold dZ
 rw [Bool.not_eq_false',decide_eq_true_eq]
 constructor
 ·intro h j ⟨h1,h2⟩
  have:(c.pos.toNat&&&c.neg.toNat).testBit j=true:=by grind
  grind
 ·intro h
  apply Nat.eq_of_testBit_eq
  grind
theorem Fj {s i b:Int} (h:(eA s i b).2=0) {j:Nat} (hj:(eA s i b).1.toNat.testBit j=true): ∃x,s.toNat.testBit x=true/\e7 i.toNat b.toNat x=j:=by
 unfold eA at h hj
 split at h
 ·cases h
 ·next hn=>
  rw [if_neg hn] at hj
  have h':(fW s.toNat i.toNat b.toNat).2=0:=by
   omega
  obtain ⟨x,_,h2,h3⟩:=(Fi h' j).1 hj
  grind
theorem Fa {c:Cl} {i b:Int} (h:(eU c i b).2=0) (hc:dZ c=false):dZ (eU c i b).1=false:=by
 grind [Bz,eU,Fj,y8]
def dF (d b:Int) (f:LC):Except Int (LC):=if b=0\/d>=24 then .ok f else iR (fC f d b)
theorem rI {d b:Int} {f g:LC} (hf:RF f) (h:dF d b f= .ok g):RF g:=by
 grind [dF,sP,vq]
theorem Hb {d b:Int} {f g:LC} (hf:f.all (fun c=> !dZ c)=true) (h:dF d b f= .ok g):g.all (fun c=> !dZ c)=true:=by
 grind [dF,sP,Fc,Fa]
theorem xZ (d b:Int):dF d b []= .ok []:=by
 unfold dF
 split
 all_goals rfl
mutual
def fE (vb db v d:Int):Tm->Except Int Tm
 | .mk kd n nm r ks sys=>
  if kd=1/\n>=v/\n>1000000000-vb then .error 100
  else bE (dF d db r) fun r'=>bE (lr vb db v d kd 0 ks) fun ks'=>bE (lu vb db v d kd sys) fun sys'=> .ok (.mk kd (if kd=1/\n>=v then n+vb else n) nm r' ks' sys')
def lr (vb db v d kd:Int) (i:Nat):LT->Except Int (LT)
 |[]=> .ok []
 |t::l=>bE (fE vb db (v+ep kd i) (d+eK kd i) t) fun t'=>bE (lr vb db v d kd (i+1) l) fun l'=> .ok (t'::l')
def lu (vb db v d kd:Int):LB->Except Int (LB)
 |[]=> .ok []
 |b::l=>bE (vp vb db v d kd b) fun b'=>bE (lu vb db v d kd l) fun l'=> .ok (b'::l')
def vp (vb db v d kd:Int):Br Tm->Except Int (Br Tm)
 | .mk f ks=>bE (dF d db f) fun f'=>bE (ls vb db v d kd ks) fun ks'=> .ok (.mk f' ks')
def ls (vb db v d kd:Int):LT->Except Int (LT)
 |[]=> .ok []
 |t::l=>bE (fE vb db v (d+da kd) t) fun t'=>bE (ls vb db v d kd l) fun l'=> .ok (t'::l')
end
mutual
def RowsT:Tm->Prop
 | .mk kd n nm r ks sys=>(RF r/\(kd=1->r=[])/\0<=kd)/\eH ks/\gi sys
def eH:LT->Prop
 |[]=>True
 |t::l=>RowsT t/\eH l
def gi:LB->Prop
 |[]=>True
 |b::l=>pd b/\gi l
def pd:Br Tm->Prop
 | .mk f ks=>RF f/\eH ks
end
theorem rowsK_iff: ∀ {l:LT},eH l↔ ∀t∈l,RowsT t:=by
 intro l
 induction l<;>grind [eH]
theorem rL {b:Br Tm}:pd b↔RF b.face/\ ∀t∈b.kids,RowsT t:=by cases b;rw [pd,rowsK_iff]
theorem rowsS_iff: ∀ {l:LB},gi l↔ ∀b∈l,RF b.face/\ ∀t∈b.kids,RowsT t:=by
 intro l
 induction l<;>grind [gi,rL]
inductive F2 {α β:Type} (R:α->β->Prop):List α->List β->Prop
 |nil:F2 R [] []
 |cons {a:α} {b:β} {l:List α} {m:List β}:R a b->F2 R l m->F2 R (a::l) (b::m)
theorem F2.len {α β:Type} {R:α->β->Prop} {l:List α} {m:List β} (h:F2 R l m):m.length=l.length:=by
 induction h<;>grind
theorem F2.imp {α β:Type} {R Q:α->β->Prop} {l:List α} {m:List β} (h:F2 R l m) (hq: ∀a b,R a b->Q a b):F2 Q l m:=by
 induction h<;>grind [nil,cons]
theorem Fe {vb db v d kd:Int} {R:Tm->Tm->Prop}: ∀ {l:LT} {i:Nat} {l':LT},(∀x∈l,∀v d x',fE vb db v d x= .ok x'->R x x')->lr vb db v d kd i l= .ok l'->F2 R l l':=by
 intro l
 induction l with
 |nil=>intro i l' _ h;rw [lr] at h;injection h with h;subst h;exact .nil
 |cons t l ih=>
  intro i l' hr h
  rw [lr] at h
  obtain ⟨t',h1,h⟩:=eo h
  obtain ⟨m,h2,h⟩:=eo h
  injection h with h;subst h
  exact .cons (hr t (by simp) _ _ _ h1) (ih (fun x hx=>hr x (by simp [hx])) h2)
theorem Ff {vb db v d kd:Int} {R:Tm->Tm->Prop}: ∀ {l:LT} {l':LT},(∀x∈l,∀v d x',fE vb db v d x= .ok x'->R x x')->ls vb db v d kd l= .ok l'->F2 R l l':=by
 intro l
 induction l with
 |nil=>intro l' _ h;rw [ls] at h;injection h with h;subst h;exact .nil
 |cons t l ih=>
  intro l' hr h
  rw [ls] at h
  obtain ⟨t',h1,h⟩:=eo h
  obtain ⟨m,h2,h⟩:=eo h
  injection h with h;subst h
  exact .cons (hr t (by simp) _ _ _ h1) (ih (fun x hx=>hr x (by simp [hx])) h2)
theorem Fk {vb db v d kd:Int} {R:Tm->Tm->Prop}: ∀ {l l':LB},(∀b∈l,∀x∈b.kids,∀v d x',fE vb db v d x= .ok x'->R x x')->lu vb db v d kd l= .ok l'->
  F2 (fun b b'=>dF d db b.face= .ok b'.face/\F2 R b.kids b'.kids) l l':=by
 intro l
 induction l with
 |nil=>intro l' _ h;rw [lu] at h;injection h with h;subst h;exact .nil
 |cons b l ih=>
  intro l' hr h
  rw [lu] at h
  obtain ⟨b',h1,h⟩:=eo h
  obtain ⟨m,h2,h⟩:=eo h
  injection h with h;subst h
  cases b with
  |mk f ks=>
   rw [vp] at h1
   obtain ⟨f',h3,h1⟩:=eo h1
   obtain ⟨ks',h4,h1⟩:=eo h1
   injection h1 with h1;subst h1
   exact .cons ⟨h3,Ff (hr ⟨f,ks⟩ (by simp)) h4⟩ (ih (fun b hb=>hr b (by simp [hb])) h2)
theorem nU {f:LC} {d:Int} (h:24<=d):dR f d=true:=by
 grind [dR,gF]
def Up (x x':Tm):Prop:=aU x'=aU x/\aR x'=aR x/\x'.kind=x.kind/\(OkT x->OkT x'/\(RowsT x->RowsT x')/\ ∀dd dd',24<=dd->24<=dd'->aL false (-1) dd x=true->aL false (-1) dd' x'=true)
theorem y_ {l l':LT} (h:F2 Up l l'):du l'=du l:=by
 induction h with
 |nil=>rfl
 |cons h1 _ ih=>rw [du,du,h1.1,ih]
theorem zc {l l':LT} (h:F2 Up l l'):bj l'=bj l:=by
 induction h with
 |nil=>rfl
 |cons h1 _ ih=>rw [bj,bj,h1.2.1,ih]
theorem I7 {l l':LB} (h:F2 (fun b b':Br Tm=>F2 Up b.kids b'.kids) l l'):dN l'=dN l:=by
 induction h with
 |nil=>rfl
 |cons h1 _ ih=>grind [dN,ni,y_]
theorem I8 {l l':LB} (h:F2 (fun b b':Br Tm=>F2 Up b.kids b'.kids) l l'):bo l'=bo l:=by
 induction h with
 |nil=>rfl
 |cons h1 _ ih=>grind [bo,lZ,zc]
theorem za {l l':LT} (h:F2 Up l l'):bO l->bO l':=by
 induction h with
 |nil=>exact id
 |cons h1 _ ih=>rw [bO,bO];exact fun h=>⟨(h1.2.2.2 h.1).1,ih h.2⟩
theorem zb {l l':LT} (h:F2 Up l l'):bO l->eH l->eH l':=by
 induction h with
 |nil=>simp
 |cons h1 _ ih=>rw [bO,eH,eH];exact fun h g=>⟨(h1.2.2.2 h.1).2.1 g.1,ih h.2 g.2⟩
theorem ze (v:Int):cA (-1) v= -1:=by rfl
theorem I5 {kd dd dd':Int} (h1:24<=dd) (h2:24<=dd') {l l':LT} (h:F2 Up l l'): ∀ {i:Nat},bO l->bD false (-1) dd kd i l=true->bD false (-1) dd' kd i l'=true:=by
 induction h with
 |nil=>exact fun _ h=>h
 |cons h3 _ ih=>
  intro i
  rw [bO,bD,bD,aj,aj,ze]
  have:=pu kd i
  exact fun h g=>⟨(h3.2.2.2 h.1).2.2 _ _ (by omega) (by omega) g.1,ih h.2 g.2⟩
theorem I6 {kd dd dd':Int} (h1:24<=dd) (h2:24<=dd') {l l':LT} (h:F2 Up l l'):bO l->cj false (-1) dd kd l=true->cj false (-1) dd' kd l'=true:=by
 induction h with
 |nil=>exact fun _ h=>h
 |cons h3 _ ih=>
  rw [bO,cj,cj,aj,aj]
  have:=qV kd
  exact fun h g=>⟨(h3.2.2.2 h.1).2.2 _ _ (by omega) (by omega) g.1,ih h.2 g.2⟩
def iX (d db:Int) (b b':Br Tm):Prop:=dF d db b.face= .ok b'.face/\F2 Up b.kids b'.kids
theorem x8 {d db:Int} {f g:LC} (h:dF d db f= .ok g) (hf:aZ f) (hl:f.length<1073741824):aZ g/\g.length<1073741824:=by
 unfold dF at h
 split at h
 ·grind
 ·obtain ⟨h1,rfl⟩:=sP h
  have:=vq h1
  exact ⟨this.2,by have:=this.len;omega⟩
theorem x9 {d db:Int} {f g:LC} (h:dF d db f= .ok g) (hf:aZ f) (hr:dc f=true):dc g=true:=(rI ((iM hf).1 hr) h).right
theorem xY {d db:Int} {f g:LC} (h:dF d db f= .ok g) (hf:aZ f) (hr:cK f=true):cK g=true:=by
 grind [cK,x9,Hb]
theorem Ha {d db:Int} {f g:LC} (h:dF d db f= .ok g) (hf:f.length=0):g.length=0:=by
 grind [xZ]
theorem I2 {d db:Int} {l l':LB} (h:F2 (iX d db) l l'):bR l->bR l':=by
 induction h with
 |nil=>exact id
 |cons h1 _ ih=>
  rw [bR,bR,iC,iC]
  intro h
  have h3:=x8 h1.1 h.1.1.1 h.1.1.2.1
  exact ⟨⟨⟨h3.1,h3.2,by have:=h1.2.len;omega⟩,okK_iff.1 (za h1.2 (okK_iff.2 h.1.2))⟩,ih h.2⟩
theorem I4 {d db:Int} {l l':LB} (h:F2 (iX d db) l l'):bR l->gi l->gi l':=by
 induction h with
 |nil=>simp
 |cons h1 _ ih=>
  rw [bR,iC,gi,gi,rL,rL]
  intro h g
  exact ⟨⟨rI g.1.1 h1.1,rowsK_iff.1 (zb h1.2 (okK_iff.2 h.1.2) (rowsK_iff.2 g.1.2))⟩,ih h.2 g.2⟩
theorem I1 {d db kd dd dd':Int} (h1:24<=dd) (h2:24<=dd') {l l':LB} (h:F2 (iX d db) l l'):bR l->bX false (-1) dd kd l=true->bX false (-1) dd' kd l'=true:=by
 induction h with
 |nil=>exact fun _ h=>h
 | @cons a b _ _ h3 _ ih=>
  rw [bR,iC,bX,bX,aj,aj]
  intro h g
  refine ⟨?_,ih h.2 g.2⟩
  cases a;cases b
  have g1:=g.1
  rw [g7] at g1 ⊢
  exact I6 h1 h2 h3.2 (okK_iff.2 h.1.2) g1
theorem I3 {d db kd dd dd':Int} (h1:24<=dd) (h2:24<=dd') {l l':LB} (h:F2 (iX d db) l l'):bR l->l.all (dt kd dd)=true->l'.all (dt kd dd')=true:=by
 induction h with
 |nil=>simp
 | @cons a b _ _ h3 _ ih=>
  rw [bR,iC,List.all_cons,List.all_cons,aj,aj]
  intro h g
  refine ⟨?_,ih h.2 g.2⟩
  have g1:=g.1
  unfold dt at g1 ⊢
  rw [aj,aj,decide_eq_true_eq] at g1 ⊢
  rw [h3.2.len]
  exact ⟨g1.1,xY h3.1 h.1.1.1 g1.2.1,nU h2⟩
theorem y9 {d db:Int} {l l':LB} (h:F2 (iX d db) l l'):F2 (fun b b':Br Tm=>F2 Up b.kids b'.kids) l l':=h.imp fun _ _ h=>h.2
theorem vt {vb db:Int} (hvb:0<=vb) (hvb':vb<=1000000000) (t:Tm): ∀v d t',fE vb db v d t= .ok t'->Up t t':=by
 induction t using iQ with
 |h kd n nm r ks sys ih1 ih2=>
  intro v d t' h
  rw [fE] at h
  split at h
  ·cases h
  next hv=>
  obtain ⟨r',hr,h⟩:=eo h
  obtain ⟨ks',hk,h⟩:=eo h
  obtain ⟨sys',hs,h⟩:=eo h
  injection h with h;subst h
  have fk:F2 Up ks ks':=Fe (fun x hx v d x'=>ih1 x hx v d x') hk
  have fs:F2 (iX d db) sys sys':=Fk (fun b hb x hx v d x'=>ih2 b hb x hx v d x') hs
  refine ⟨?_, ?_,rfl,fun hok=> ?_⟩
  ·grind [aU,y_,I7,y9]
  ·grind [aR,zc,I8,y9]
  ·obtain ⟨o1,o2,o3,o4,o5,o6,o7⟩:=hok.node
   have hok':=hok
   rw [OkT] at hok'
   obtain ⟨_,ok,os⟩:=hok'
   have hr':=x8 hr o4 o5
   have o2':=o2
   unfold cX at o2'
   refine ⟨?_, ?_, ?_⟩
   ·rw [OkT]
    refine ⟨⟨o1, ?_,o3,hr'.1,hr'.2,by rw [fk.len];exact o6,by rw [fs.len];exact o7⟩,za fk ok,I2 fs os⟩
    grind [cX]
   ·grind [RowsT,rI,zb,I4,xZ]
   ·intro dd dd' h1 h2
    rw [aL,aL]
    simp only [Bool.false_and,Bool.not_false,Bool.true_and,aj]
    rintro ⟨a,b,c⟩
    refine ⟨?_,I5 h1 h2 fk ok b,I1 h1 h2 fs os c⟩
    unfold cJ at a ⊢
    simp only [aj,decide_eq_true_eq,fk.len,fs.len] at a ⊢
    grind [Ha,x9,nU,xY,I3]
theorem Eo {kd:Int} {n:Nat} (h:fR kd=n):0<=kd:=by
 grind [fR]
theorem Ba {bd:Bool} (t:Tm): ∀ {vars dims:Int},OkT t->aL bd vars dims t=true->RowsT t:=by
 induction t using iQ with
 |h kd n nm r ks sys ih1 ih2=>
  intro vars dims hok h
  rw [aL,aj,aj,aj] at h
  obtain ⟨_,a,b,c⟩:=h
  obtain ⟨o1,o2,o3,o4,o5,o6,o7⟩:=hok.node
  have hok':=hok
  rw [OkT] at hok'
  obtain ⟨_,ok,os⟩:=hok'
  have hkids: ∀ {l:LT} {i:Nat},(∀x∈l,∀ {vars dims:Int},OkT x->aL bd vars dims x=true->RowsT x)->bO l->bD bd vars dims kd i l=true->eH l:=by
   intro l
   induction l<;>grind [eH,bD,bO]
  rw [pf,bW] at c
  unfold cJ at a
  simp only [aj,decide_eq_true_eq] at a
  obtain ⟨⟨a1,a2,a3,a4⟩,a5⟩:=a
  have r0: ∀ {l:LC},l.length=0->RF l:=fun h=>by
   grind [xW]
  rw [RowsT]
  have hfaces:(sys=[]\/sys.all (dt kd dims)=true)/\RF r/\(kd=1->r=[]):=by
   have nosys:dW kd=0->sys=[]:=fun h=>List.length_eq_zero_iff.1 (a4 h)
   by_cases c1:kd=1
   ·rw [if_pos c1] at a5
    simp only [aj,decide_eq_true_eq] at a5
    exact ⟨.inl (nosys (by subst c1;decide)),r0 a5.1,fun _=>List.length_eq_zero_iff.1 a5.1⟩
   ·rw [if_neg c1] at a5
    by_cases c2:kd=2
    ·rw [if_pos c2] at a5
     simp only [aj,decide_eq_true_eq] at a5
     exact ⟨.inl (nosys (by subst c2;decide)),r0 a5.1,fun h=>absurd h c1⟩
    ·rw [if_neg c2] at a5
     by_cases c3:kd=13\/kd=21\/kd=26
     ·rw [if_pos c3,aj] at a5
      exact ⟨.inl (nosys (by rcases c3 with rfl|rfl|rfl<;>decide)),(iM o4).1 a5.1,fun h=>absurd h c1⟩
     ·rw [if_neg c3] at a5
      by_cases c4:kd=14
      ·rw [if_pos c4,aj] at a5
       unfold cK at a5
       rw [aj] at a5
       exact ⟨.inl (nosys (by subst c4;decide)),(iM o4).1 a5.1.1,fun h=>absurd h c1⟩
      grind
  refine ⟨⟨hfaces.2.1,hfaces.2.2,Eo a1⟩,hkids (fun x hx=>ih1 x hx) ok b, ?_⟩
  rw [rowsS_iff]
  intro br hbr
  have hc:=c br hbr
  rw [bW] at hc
  have hob:=hok.br hbr
  refine ⟨?_,fun x hx=>ih2 br hbr x hx (hob.2 x hx) (hc x hx)⟩
  rcases hfaces.1 with h|h<;>grind [dt,cK,iM]
abbrev eh:=Int->LC->Except Int (LC)
mutual
def sY (fo fa:eh) (d:Int):Tm->Except Int Tm
 | .mk kd n nm r ks sys=>bE (if kd=14 then fa d r else fo d r) fun r'=>bE (zf fo fa d kd 0 ks) fun ks'=>bE (zh fo fa d kd sys) fun sys'=> .ok (.mk kd n nm r' ks' sys')
def zf (fo fa:eh) (d kd:Int) (i:Nat):LT->Except Int (LT)
 |[]=> .ok []
 |t::l=>bE (sY fo fa (d+eK kd i) t) fun t'=>bE (zf fo fa d kd (i+1) l) fun l'=> .ok (t'::l')
def zh (fo fa:eh) (d kd:Int):LB->Except Int (LB)
 |[]=> .ok []
 |b::l=>bE (I_ fo fa d kd b) fun o=>bE (zh fo fa d kd l) fun l'=> .ok (o++l')
def I_ (fo fa:eh) (d kd:Int):Br Tm->Except Int (LB)
 | .mk f ks=>bE (fa d f) fun f'=>if f'.length=0 then .ok [] else bE (zg fo fa d kd ks) fun ks'=> .ok [.mk f' ks']
def zg (fo fa:eh) (d kd:Int):LT->Except Int (LT)
 |[]=> .ok []
 |t::l=>bE (sY fo fa (d+da kd) t) fun t'=>bE (zg fo fa d kd l) fun l'=> .ok (t'::l')
end
section
variable {fo fa:eh} {G:Int->LC->LC}
def Bc (f:eh) (G:Int->LC->LC):eh:=fun d l=>bE (f d l) fun m=> .ok (G d m)
end
set_option maxRecDepth 20000
theorem Ep (kd:Int):(kd<0\/kd>28)\/(∃n:Nat,n<29/\kd=n):=by
 by_cases h:kd<0\/kd>28
 ·omega
 ·exact .inr ⟨kd.toNat,by omega,by omega⟩
theorem Hw (kd:Int) (Z:Int->OS S):nd k kd Z=Z (fR kd):=by
 simp only [nd]
 rcases Ep kd with h|⟨n,hn,rfl⟩
 ·simp only [f0,beq_iff_eq]
  unfold fR
  rw [if_pos h]
  repeat rw [if_neg (by omega)]
 ·unfold fR
  rw [if_neg (by omega),Int.toNat_natCast]
  match n,hn with
  |0,_=>rfl
  |1,_=>rfl
  |2,_=>rfl
  |3,_=>rfl
  |4,_=>rfl
  |5,_=>rfl
  |6,_=>rfl
  |7,_=>rfl
  |8,_=>rfl
  |9,_=>rfl
  |10,_=>rfl
  |11,_=>rfl
  |12,_=>rfl
  |13,_=>rfl
  |14,_=>rfl
  |15,_=>rfl
  |16,_=>rfl
  |17,_=>rfl
  |18,_=>rfl
  |19,_=>rfl
  |20,_=>rfl
  |21,_=>rfl
  |22,_=>rfl
  |23,_=>rfl
  |24,_=>rfl
  |25,_=>rfl
  |26,_=>rfl
  |27,_=>rfl
  |28,_=>rfl
  |n+29,h=>omega
theorem rV (kd i:Int) (Z:Int×Int->OS S):jj k kd i Z=Z (ep kd i,eK kd i):=by
 simp only [jj,f0,beq_iff_eq]
 grind [ep,eK]
theorem yq (kd:Int) (Z:Int->OS S):gq k kd Z=Z (dW kd):=by
 grind [gq,f0,dW]
theorem tC (s t:BA):(s==t)=decide (s=t):=by
 obtain ⟨a⟩:=s;obtain ⟨b⟩:=t
 show (a==b)=_
 grind
theorem wl (s:BA):(s==aY)=decide (s.size=0):=by
 simp_all [tC]
theorem rY (s:BA):(s.size:Int)=(s.data.toList.length:Int):=by
 rfl
def gG (p:List UInt8) (r:List UInt8):Bool:=match p with
 |[]=>lM r
 |_::_=>r.all fun d=>iw d||kY d
theorem FJ (p:List UInt8) (x:UInt8) (r:List UInt8):gG p (x::r)=((iw x||(decide (p≠[])&&kY x))&&gG (p++[x]) r):=by
 cases p<;>grind [gG,lM]
theorem FK {p:List UInt8}:gG p []=decide (p.length≠0):=by
 cases p with
 |nil=>rfl
 |cons c l=>rfl
theorem EU (hk:Fu k) (Z:Bool->OS S) {s:BA} (hs:s.size<2147483648):
  ∀ (r p:List UInt8) (m:Nat),s.data.toList=p++r->r.length<m->iv k Z s m (p.length:Int)=Z (gG p r):=by
 obtain ⟨q,rfl⟩: ∃q,k=q+1:=⟨k-1,by omega⟩
 have hs':s.data.toList.length<2147483648:=by simp_all
 intro r
 induction r with
 |nil=>
  grind [aK,iv,kE,rY,ax,wl,FK]
 |cons x r ih=>
  intro p m h hm
  obtain ⟨m,rfl,hm'⟩:=aK hm
  obtain ⟨e1,e2,e3,e4⟩:=bK h (by omega)
  have hi:=ih (p++[x]) m e4 hm'
  rw [FJ]
  simp only [iv,kE,rY,e1,aH,e2,bB,eC,nQ,po,e3,hi]
  have hl: ∀b:Bool,b=iw x->aa (!b) (aa (((p.length:Nat):Int)==0) (Z false) (if ((x.toNat:Nat):Int)<48 then Z false else if ((x.toNat:Nat):Int)>57 then Z false else Z (gG (p++[x]) r))) (Z (gG (p++[x]) r))=Z ((iw x||(decide (p≠[])&&kY x))&&gG (p++[x]) r):=by
   grind [f0,List.length_pos_iff,kY]
  grind [iw]
theorem HU (hk:Fu k) {s:BA} (hs:s.size<2147483648) (Z:Bool->OS S):ng k s Z=Z (lM s.data.toList):=by
 simp only [ng,sN]
 have:=EU hk Z hs s.data.toList [] k rfl (by grind [rY])
 exact this
theorem vo (n:Nat):(((n:Nat):Int)==0)=decide (n=0):=by grind
theorem EV (hk:Fu k) (Z:Bool->OS S) {t:Tm} {dims:Int} (hd:0<=dims) (hd':dims<9223372036854775808) (hs: ∀b∈t.sys,aZ b.face/\b.face.length<1073741824) (hlen:t.sys.length<1073741824):
  ∀ (r p:LB) (m:Nat),t.sys=p++r->r.length<m->fV k Z t dims m (p.length:Int)=Z (r.all (dt t.kind dims)&&decide (t.r.length=0)):=by
 intro r
 induction r with
 |nil=>
  grind [aK,fV,mF,ax,vo]
 |cons x r ih=>
  intro p m h hm
  obtain ⟨m,rfl,hm'⟩:=aK hm
  obtain ⟨e1,e2,e3,e4⟩:=bK h (by omega)
  have hx:=hs x (by grind)
  have hb:((x.kids.length:Int)==dW t.kind)=decide ((x.kids.length:Int)=dW t.kind):=by rfl
  simp only [fV,mF,e1,aH,e2,bB,aJ hk,yq,rW hk hx.1 (show x.face.length<2147483648 by omega),yE hk hx.1 (show x.face.length<4294967296 by omega) hd hd',e3,ih (p++[x]) m e4 hm',List.all_cons,hb]
  grind [dt,decide,Int,cK,aH,ax]
theorem H9 {S:Type} (b c:Bool) (Z:Bool->OS S):aa b (Z c) (Z false)=Z (b&&c):=by
 cases b<;>rfl
def jO (vars dims:Int) (t:Tm):Bool:=
 if t.kind=1 then decide (t.r.length=0)&&(decide (0<=t.n)&&decide (vars<0\/t.n<vars))
   else if t.kind=2 then decide (t.r.length=0)&&lM t.name.data.toList
   else if t.kind=13\/t.kind=21\/t.kind=26 then dc t.r&&dR t.r dims
   else if t.kind=14 then cK t.r&&dR t.r dims
   else t.sys.all (dt t.kind dims)&&decide (t.r.length=0)
theorem GA (vars dims:Int) (t:Tm):cJ vars dims t=((decide (fR t.kind=t.kids.length)&&(decide (t.kind=1\/t.n=0)&&(decide (t.kind=2\/t.name.size=0)&&decide (dW t.kind=0->t.sys.length=0))))&&jO vars dims t):=by
 cases t;rfl
def AZ (t:Tm):Prop:=cX t.kind/\cX t.n/\t.name.size<1073741824/\aZ t.r/\t.r.length<1073741824/\t.kids.length<1073741824/\t.sys.length<1073741824
theorem OkT.no {t:Tm} (h:OkT t):AZ t:=by cases t;exact h.node
theorem OkT.ki {t x:Tm} (h:OkT t) (hx:x∈t.kids):OkT x:=by cases t;exact h.kid hx
theorem OkT.bi {t:Tm} {b:Br Tm} (h:OkT t) (hb:b∈t.sys):(aZ b.face/\b.face.length<1073741824/\b.kids.length<1073741824)/\ ∀t∈b.kids,OkT t:=by cases t;exact h.br hb
theorem HY (hk:Fu k) {t:Tm} (ht:OkT t) {vars dims:Int} (hd:0<=dims) (hd':dims<9223372036854775808) (Z:Bool->OS S):nR k Z t vars dims k=Z (jO vars dims t):=by
 obtain ⟨o1,o2,o3,o4,o5,o6,o7⟩:=ht.no
 have hb:=fun b hb=>(ht.bi (b:=b) hb).1
 obtain ⟨q,hq⟩: ∃q,k=q+1:=⟨k-1,by omega⟩
 have: ∀j,j=q+1->nR k Z t vars dims j=kG k Z t vars dims (fun v109=>fV k Z t dims k v109):=by rintro j rfl;rfl
 rw [this k hq]
 have hl:=EV hk Z hd hd' (fun b h=>⟨(hb b h).1,(hb b h).2.1⟩) o7 t.sys [] k rfl (by omega)
 have hl:fV k Z t dims k 0=_:=hl
 simp only [kG,aJ hk,HU hk (show t.name.size<2147483648 by omega),yy hk o4 (show t.r.length<2147483648 by omega),rW hk o4 (show t.r.length<2147483648 by omega),yE hk o4 (show t.r.length<4294967296 by omega) hd hd',hl,vo,H9]
 grind [f0,jO]
theorem HX (hk:Fu k) {t:Tm} (ht:OkT t) {vars dims:Int} (hd:0<=dims) (hd':dims<9223372036854775808) (Z:Bool->OS S):kU k t vars dims Z=Z (cJ vars dims t):=by
 have hq:(fR t.kind==(t.kids.length:Int))=decide (fR t.kind=t.kids.length):=by rfl
 have hp:(dW t.kind==0)=decide (dW t.kind=0):=pr _
 simp only [kU,sO,aJ hk,Hw,yq,HY hk ht hd hd',wl,hq,hp,pr,GA]
 have hsy:aa (decide (dW t.kind=0)) (aa (decide (((t.sys.length:Nat):Int)>0)) (Z false) (Z (jO vars dims t))) (Z (jO vars dims t))=Z (decide (dW t.kind=0->t.sys.length=0)&&jO vars dims t):=by
  rw [eC,eC]
  by_cases h1:dW t.kind=0
  ·rw [if_pos h1]
   by_cases h2:t.sys.length=0<;>grind
  grind
 grind [aH,ax,decide_eq_false]
abbrev Fd (k n:Nat):Prop:=4294967296+n<=k
theorem Fd.fu {n:Nat} (h:Fd k n):Fu k:=by omega
theorem Fd.pos {n:Nat} (h:Fd k n): ∃q,k=q+1/\ ∀j,j+1<=n->Fd q j:=⟨k-1,by omega,fun j hj=>by omega⟩
theorem Fd.pos' {n:Nat} (h:Fd k n) (hn:1<=n): ∃q,k=q+1/\Fu q/\ ∀j,j+1<=n->Fd q j:=⟨k-1,by omega,by omega,fun j hj=>by omega⟩
theorem fO (t:Tm):1<=aU t:=by cases t;rw [aU];omega
theorem nj (t:Tm):aU t=max (du t.kids) (dN t.sys)+1:=by cases t;rfl
theorem yK (t:Tm):aR t=1+bj t.kids+bo t.sys:=by cases t;rfl
theorem fh {t x:Tm} (h:x∈t.kids):aU x+1<=aU t:=by rw [nj t];have:=uw h;omega
theorem gu {t:Tm} {b:Br Tm} {x:Tm} (hb:b∈t.sys) (h:x∈b.kids):aU x+1<=aU t:=by rw [nj t];have:=uw h;have:=BX hb;omega
theorem gb {Q:Tm->Prop} (h: ∀t,(∀x∈t.kids,Q x)->(∀b∈t.sys,∀x∈b.kids,Q x)->Q t) (t:Tm):Q t:=iQ (fun kd n nm r ks sys h1 h2=>h (.mk kd n nm r ks sys) h1 h2) t
theorem yF {α:Type} (b c:Bool) (x y:α):aa (!b) y (if c then x else y)=if b&&c then x else y:=by cases b<;>cases c<;>rfl
theorem yG {S:Type} (b c:Bool) (Z:Bool->OS S):aa (!b) (Z false) (Z c)=Z (b&&c):=by cases b<;>rfl
theorem dj {n:Int} (h1: -9223372036854775808<=n) (h2:n<9223372036854775808):ay .i64 n=n:=s_ h1 h2
section
variable {hd:Tm->Int->(Bool->OS S)->OS S} {c0:Int} {t:Tm} {Q:Tm->Bool}
theorem EN (hk:Fu k) (Z:Bool->OS S) (rec1:Int->Int->OS S) (hc: -9223372036854775807<=c0) (hc':c0<9223372036854775808) {v more:Int} {x:Br Tm} (hQ: ∀y∈x.kids,∀g,hd y (c0-1) g=g (Q y)) (hl:x.kids.length<1073741824):
  ∀ (r p:LT) (m:Nat),x.kids=p++r->r.length<m->it hd k Z rec1 c0 t v x more m (p.length:Int)=if r.all Q then rec1 (ay .i64 (v+1)) more else Z false:=by
 intro r
 induction r with
 |nil=>
  grind [aK,it,mE,ax]
 |cons y r ih=>
  intro p m h hm
  obtain ⟨m,rfl,hm'⟩:=aK hm
  obtain ⟨e1,e2,e3,e4⟩:=bK h (by omega)
  have hy:=hQ y (by grind)
  simp only [it,mE,e1,aH,e2,bB,aJ hk,kV,bt,dj (show-9223372036854775808<=c0-1 by omega) (by omega),hy,e3,ih (p++[y]) m e4 hm',yF]
  rfl
theorem EM (hk:Fu k) (Z:Bool->OS S) (hc: -9223372036854775807<=c0) (hc':c0<9223372036854775808) {more:Int} (hQ: ∀b∈t.sys,∀y∈b.kids,∀g,hd y (c0-1) g=g (Q y)) (hl:t.sys.length<1073741824) (hl': ∀b∈t.sys,b.kids.length<1073741824):
  ∀ (r p:LB) (m:Nat),t.sys=p++r->r.length<m->fA hd k Z c0 t m (p.length:Int) more=Z (r.all fun b=>b.kids.all Q):=by
 intro r
 induction r with
 |nil=>
  grind [aK,fA,kC,ax]
 |cons x r ih=>
  intro p m h hm
  obtain ⟨m,rfl,hm'⟩:=aK hm
  obtain ⟨e1,e2,e3,e4⟩:=bK h (by omega)
  have hx:x∈t.sys:=by grind
  have hlx:=hl' x hx
  have:=EN (t:=t) hk Z (fA hd k Z c0 t m) (v:=(p.length:Int)) (more:=more) hc hc' (hQ x hx) hlx x.kids [] k rfl (by omega)
  simp only [fA,kC,e1,aH,e2,bB,List.all_cons]
  refine aI this ?_
  rw [e3,ih (p++[x]) m e4 hm']
  cases x.kids.all Q<;>rfl
theorem EK (hk:Fu k) (Z:Bool->OS S) (hc: -9223372036854775807<=c0) (hc':c0<9223372036854775808) (hQ: ∀y∈t.kids,∀g,hd y (c0-1) g=g (Q y)) (hQ': ∀b∈t.sys,∀y∈b.kids,∀g,hd y (c0-1) g=g (Q y)) (ht:OkT t):
  ∀ (r p:LT) (m:Nat),t.kids=p++r->r.length<m->jL hd k Z c0 t m (p.length:Int)=Z (r.all Q&&t.sys.all fun b=>b.kids.all Q):=by
 obtain ⟨o1,o2,o3,o4,o5,o6,o7⟩:=ht.no
 intro r
 induction r with
 |nil=>
  intro p m h hm
  obtain ⟨m,rfl,hm'⟩:=aK hm
  have hs: ∀more:Int,fA hd k Z c0 t k 0 more=_:=fun more=>EM hk Z hc hc' (more:=more) hQ' o7 (fun b hb=>(ht.bi hb).1.2.2) t.sys [] k rfl (by omega)
  simp only [jL,kB,lx h,ax,hs]
  cases (t.kind==15)<;>rfl
 |cons y r ih=>
  intro p m h hm
  obtain ⟨m,rfl,hm'⟩:=aK hm
  obtain ⟨e1,e2,e3,e4⟩:=bK h (by omega)
  have hy:=hQ y (by grind)
  simp only [jL,kB,e1,aH,e2,bB,aJ hk,rV,kV,bt,dj (show-9223372036854775808<=c0-1 by omega) (by omega),hy,e3,ih (p++[y]) m e4 hm',yG,List.all_cons,Bool.and_assoc]
end
theorem ut {n:Int} (hn:0<=n): ∀ {l:LT},(l.all fun x=>decide ((aU x:Int)<=n))=decide ((du l:Int)<=n):=by
 intro l
 induction l<;>grind [du]
theorem BV {n:Int} (hn:0<=n): ∀ {l:LB},(l.all fun b=>b.kids.all fun x=>decide ((aU x:Int)<=n))=decide ((dN l:Int)<=n):=by
 intro l
 induction l with
 |nil=>rw [dN];simp [hn]
 |cons b l ih=>rw [List.all_cons,ih,ut hn,dN,ni,Bool.eq_iff_iff];grind
theorem H0 (t:Tm):OkT t-> ∀ {k:Nat} {left:Int} (Z:Bool->OS S),Fd k (aU t)-> -4611686018427387904<=left->left<4611686018427387904->fg k t left Z=Z (decide ((aU t:Int)<=left)):=by
 induction t using gb with
 |h t ih1 ih2=>
  intro ht k left Z hk h1 h2
  obtain ⟨q,rfl,hq,hf⟩:=hk.pos' (fO t)
  simp only [fg,yW,eC,bt,aJ hq]
  by_cases h0:left>0
  ·rw [if_pos h0]
   have hQ: ∀y∈t.kids,∀g:Bool->OS S,fg q y (left-1) g=g (decide ((aU y:Int)<=left-1)):=fun y hy g=>ih1 y hy (ht.ki hy) g (hf _ (fh hy)) (by omega) (by omega)
   have hQ': ∀b∈t.sys,∀y∈b.kids,∀g:Bool->OS S,fg q y (left-1) g=g (decide ((aU y:Int)<=left-1)):=fun b hb y hy g=>ih2 b hb y hy ((ht.bi hb).2 y hy) g (hf _ (gu hb hy)) (by omega) (by omega)
   have:=EK (Q:=fun y=>decide ((aU y:Int)<=left-1)) hq Z (by omega) (by omega) hQ hQ' ht t.kids [] q rfl (by have:=ht.no.2.2.2.2.2.1;omega)
   simp only [pT,sM]
   refine aI this ?_
   rw [ut (by omega),BV (by omega),nj]
   congr 1
   rw [Bool.eq_iff_iff];simp;omega
  grind [fO]
section
variable {hd:Tm->Int->(Bool×Int->OS S)->OS S} {t:Tm}
def j6 (hd:Tm->Int->(Bool×Int->OS S)->OS S) (k:Nat) (y:Tm):Prop:= ∀ (c:Int) (g:Bool×Int->OS S),0<=c->c<4611686018427387904->
 ∃v,jk hd k y c g=g (decide ((aR y:Int)<=c),v)/\((aR y:Int)<=c->v=c-aR y)
theorem EJ (hk:Fu k) (Z:Bool×Int->OS S) (rec1:Int->Int->Int->OS S) {v more:Int} {x:Br Tm} (hQ: ∀y∈x.kids,j6 hd k y) (hl:x.kids.length<1073741824):
  ∀ (r p:LT) (m:Nat) (c:Int),0<=c->c<4611686018427387904->x.kids=p++r->r.length<m->
  ((bj r:Int)<=c->fU hd k Z rec1 t v x more m c (p.length:Int)=rec1 (c-bj r) (ay .i64 (v+1)) more)/\(¬ (bj r:Int)<=c-> ∃w,fU hd k Z rec1 t v x more m c (p.length:Int)=Z (false,w)):=by
 intro r
 induction r with
 |nil=>
  grind [aK,fU,mC,ax,bj]
 |cons y r ih=>
  intro p m c h0 h1 h hm
  obtain ⟨m,rfl,hm'⟩:=aK hm
  obtain ⟨e1,e2,e3,e4⟩:=bK h (by omega)
  have hy:=hQ y (by grind)
  obtain ⟨w,hw,hw'⟩:=hy c (fun r1=>(fun r6:Bool×Int=>aa (!r6.1) (Z (false,r6.2)) (fU hd k Z rec1 t v x more m r6.2 (((p++[y]).length:Nat):Int))) (r1.1,r1.2)) h0 h1
  simp only [fU,mC,e1,aH,e2,bB,aJ hk,kX,bt,e3,bj]
  rw [hw]
  by_cases hs:(aR y:Int)<=c
  ·grind [ax]
  grind [aH]
theorem EI (hk:Fu k) (Z:Bool×Int->OS S) {more:Int} (hQ: ∀b∈t.sys,∀y∈b.kids,j6 hd k y) (hl:t.sys.length<1073741824) (hl': ∀b∈t.sys,b.kids.length<1073741824):
  ∀ (r p:LB) (m:Nat) (c:Int),0<=c->c<4611686018427387904->t.sys=p++r->r.length<m->
  ((bo r:Int)<=c->eR hd k Z t m c (p.length:Int) more=Z (true,c-bo r))/\(¬ (bo r:Int)<=c-> ∃w,eR hd k Z t m c (p.length:Int) more=Z (false,w)):=by
 intro r
 induction r with
 |nil=>
  grind [aK,eR,ky,ax,bo]
 |cons x r ih=>
  intro p m c h0 h1 h hm
  obtain ⟨m,rfl,hm'⟩:=aK hm
  obtain ⟨e1,e2,e3,e4⟩:=bK h (by omega)
  have hx:x∈t.sys:=by grind
  have hlx:=hl' x hx
  have:=EJ (t:=t) hk Z (eR hd k Z t m) (v:=(p.length:Int)) (more:=more) (hQ x hx) hlx x.kids [] k c h0 h1 rfl (by omega)
  simp only [eR,ky,e1,aH,e2,bB,bo,lZ]
  obtain ⟨t1,t2⟩:=this
  rw [show (((([]:LT).length:Nat):Int))=0 from rfl] at t1 t2
  by_cases hs:(bj x.kids:Int)<=c
  ·obtain ⟨i1,i2⟩:=ih (p++[x]) m (c-bj x.kids) (by omega) (by omega) e4 hm'
   rw [t1 hs,e3]
   refine ⟨fun h=> ?_,fun h=>i2 (by omega)⟩
   rw [i1 (by omega),show c-(bj x.kids:Int)-(bo r:Int)=c-((bj x.kids+bo r:Nat):Int) by omega]
  ·exact ⟨fun h=>absurd (by omega) hs,fun _=>t2 hs⟩
theorem EH (hk:Fu k) (Z:Bool×Int->OS S) (hQ: ∀y∈t.kids,j6 hd k y) (hQ': ∀b∈t.sys,∀y∈b.kids,j6 hd k y) (ht:OkT t):
  ∀ (r p:LT) (m:Nat) (c:Int),0<=c->c<4611686018427387904->t.kids=p++r->r.length<m->
  ∃w,iq hd k Z t m c (p.length:Int)=Z (decide (((bj r+bo t.sys:Nat):Int)<=c),w)/\(((bj r+bo t.sys:Nat):Int)<=c->w=c-((bj r+bo t.sys:Nat):Int)):=by
 obtain ⟨o1,o2,o3,o4,o5,o6,o7⟩:=ht.no
 intro r
 induction r with
 |nil=>
  intro p m c h0 h1 h hm
  obtain ⟨m,rfl,hm'⟩:=aK hm
  have hs: ∀more:Int,_:=fun more=>EI hk Z (more:=more) hQ' o7 (fun b hb=>(ht.bi hb).1.2.2) t.sys [] k c h0 h1 rfl (by omega)
  have key: ∀more:Int,∃w,eR hd k Z t k c 0 more=Z (decide (((bo t.sys:Nat):Int)<=c),w)/\(((bo t.sys:Nat):Int)<=c->w=c-((bo t.sys:Nat):Int)):=fun more=>by
   by_cases hc:(bo t.sys:Int)<=c
   ·simp_all
   ·obtain ⟨w,e⟩:=(hs more).2 hc
    grind
  have hz:bj []+bo t.sys=bo t.sys:=by rw [bj,b8]
  rw [hz]
  simp only [iq,kx,lx h,ax]
  cases (t.kind==15) with
  |true=>exact key 1
  |false=>exact key 0
 |cons y r ih=>
  intro p m c h0 h1 h hm
  obtain ⟨m,rfl,hm'⟩:=aK hm
  obtain ⟨e1,e2,e3,e4⟩:=bK h (by omega)
  have hy:=hQ y (by grind)
  obtain ⟨w,hw,hw'⟩:=hy c (fun r1=>(fun r3:Bool×Int=>aa (!r3.1) (Z (false,r3.2)) (iq hd k Z t m r3.2 (((p++[y]).length:Nat):Int))) (r1.1,r1.2)) h0 h1
  have hz:bj (y::r)+bo t.sys=aR y+bj r+bo t.sys:=by rw [bj]
  rw [hz]
  simp only [iq,kx,e1,aH,e2,bB,aJ hk,rV,kX,bt,e3]
  rw [hw]
  by_cases hs:(aR y:Int)<=c
  ·have:=hw' hs
   subst this
   obtain ⟨u,i1,i2⟩:=ih (p++[y]) m (c-aR y) (by omega) (by omega) e4 hm'
   grind [ax]
  grind [aH,decide_eq_false]
end
theorem HH (t:Tm):OkT t-> ∀ {k:Nat} (c:Int) (Z:Bool×Int->OS S),Fd k (aU t)->0<=c->c<4611686018427387904->
  ∃w,dM k t c Z=Z (decide ((aR t:Int)-1<=c),w)/\((aR t:Int)-1<=c->w=c-((aR t:Int)-1)):=by
 induction t using gb with
 |h t ih1 ih2=>
  intro ht k c Z hk h1 h2
  obtain ⟨q,rfl,hq,hf⟩:=hk.pos' (fO t)
  have cnt: ∀y,(∀ {k:Nat} (c:Int) (Z:Bool×Int->OS S),Fd k (aU y)->0<=c->c<4611686018427387904-> ∃w,dM k y c Z=Z (decide ((aR y:Int)-1<=c),w)/\((aR y:Int)-1<=c->w=c-((aR y:Int)-1)))->
    Fd q (aU y)->j6 (S:=S) (dM q) q y:=by
   intro y hy hfy c g h0 h1
   simp only [jk,bt,dj (show-9223372036854775808<=c-1 by omega) (by omega),eC]
   have:=yL y
   by_cases hc:c-1>=0
   ·rw [if_pos hc]
    obtain ⟨w,e,e'⟩:=hy (c-1) (fun r1=>g (r1.1,r1.2)) hfy (by omega) (by omega)
    grind
   ·rw [if_neg hc]
    exact ⟨c-1,by grind,fun h=>by omega⟩
  obtain ⟨w,e,e'⟩:=EH hq Z (fun y hy=>cnt y (fun c Z=>ih1 y hy (ht.ki hy) c Z) (hf _ (fh hy))) (fun b hb y hy=>cnt y (fun c Z=>ih2 b hb y hy ((ht.bi hb).2 y hy) c Z) (hf _ (gu hb hy))) ht t.kids [] q c h1 h2 rfl (by have:=ht.no.2.2.2.2.2.1;omega)
  grind [dM,sK,yK]
theorem H1 {t:Tm} (ht:OkT t) (hk:Fd k (aU t)) {most:Int} (h0:0<most) (h1:most<4611686018427387904) (Z:Bool->OS S):nh k t most Z=Z (decide ((aR t:Int)<=most)):=by
 simp only [nh,aJ hk.fu,jk,bt,dj (show-9223372036854775808<=most-1 by omega) (by omega),eC]
 rw [if_pos (by omega)]
 obtain ⟨w,e,_⟩:=HH t ht (most-1) (fun r1=>Z (r1.1,r1.2).1) hk (by omega) (by omega)
 grind
def VW (vars dims:Int) (n:Nat):Prop:= -9223372036854775808<=vars/\vars<9223372036854775808/\0<=dims/\dims+n<4611686018427387904
section
variable {hd:Tm->Int->Int->Bool->(Bool->OS S)->OS S} {vars dims:Int} {bd:Bool} {t:Tm}
theorem yu (hv:VW vars dims 1) {v d:Int} (h1:0<=v/\v<=1) (h2:0<=d/\d<=1) (y:Tm) (g:Bool->OS S):kS hd k y v d vars dims bd g=hd y (ay .i64 (cA vars v)) (dims+d) bd g:=by
 obtain ⟨v1,v2,v3,v4⟩:=hv
 simp only [kS,bt,eC,dj (show-9223372036854775808<=dims+d by omega) (by omega)]
 unfold cA
 split
 ·rw [Int.add_zero]
 ·rfl
theorem EG (hk:Fu k) (Z:Bool->OS S) (rec1:Int->Int->OS S) (hv:VW vars dims 1) {v more:Int} {x:Br Tm} (hm:more=da t.kind) (hQ: ∀y∈x.kids,∀g,hd y vars (dims+more) bd g=g (aL bd vars (dims+more) y)) (hl:x.kids.length<1073741824):
  ∀ (r p:LT) (m:Nat),x.kids=p++r->r.length<m->gE hd k Z rec1 vars dims bd t v x more m (p.length:Int)=if cj bd vars dims t.kind r then rec1 (ay .i64 (v+1)) more else Z false:=by
 subst hm
 intro r
 induction r with
 |nil=>
  intro p m h hm
  obtain ⟨m,rfl,hm'⟩:=aK hm
  simp only [gE,mD,lx h,ax];rfl
 |cons y r ih=>
  intro p m h hm
  obtain ⟨m,rfl,hm'⟩:=aK hm
  obtain ⟨e1,e2,e3,e4⟩:=bK h (by omega)
  have hy:=hQ y (by grind)
  have h0:ay .i64 (cA vars 0)=vars:=by rw [show cA vars 0=vars by grind [cA]];exact dj hv.1 hv.2.1
  simp only [gE,mD,e1,aH,e2,bB,aJ hk,bt,yu hv (show (0:Int)<=0/\(0:Int)<=1 by omega) (qV t.kind),h0,hy,e3,ih (p++[y]) m e4 hm',yF]
  rw [cj]
theorem EF (hk:Fu k) (Z:Bool->OS S) (hv:VW vars dims 1) {more:Int} (hm:more=da t.kind) (hQ: ∀b∈t.sys,∀y∈b.kids,∀g,hd y vars (dims+more) bd g=g (aL bd vars (dims+more) y)) (hl:t.sys.length<1073741824) (hl': ∀b∈t.sys,b.kids.length<1073741824):
  ∀ (r p:LB) (m:Nat),t.sys=p++r->r.length<m->eS hd k Z vars dims bd t m (p.length:Int) more=Z (bX bd vars dims t.kind r):=by
 intro r
 induction r with
 |nil=>
  grind [aK,eS,kA,ax,bX]
 |cons x r ih=>
  intro p m h hml
  obtain ⟨m,rfl,hm'⟩:=aK hml
  obtain ⟨e1,e2,e3,e4⟩:=bK h (by omega)
  have hx:x∈t.sys:=by grind
  have hlx:=hl' x hx
  have:=EG (t:=t) (bd:=bd) hk Z (eS hd k Z vars dims bd t m) hv (v:=(p.length:Int)) hm (hQ x hx) hlx x.kids [] k rfl (by omega)
  have this:gE hd k Z (eS hd k Z vars dims bd t m) vars dims bd t (p.length:Int) x more k 0=_:=this
  simp only [eS,kA,e1,aH,e2,bB,this,e3,ih (p++[x]) m e4 hm']
  have ea:bX bd vars dims t.kind (x::r)=(cj bd vars dims t.kind x.kids&&bX bd vars dims t.kind r):=by cases x;rfl
  grind
theorem EE (hk:Fu k) (Z:Bool->OS S) (hv:VW vars dims 1) (hQ: ∀y∈t.kids,∀v d,0<=v/\v<=1->0<=d/\d<=1-> ∀g,hd y (ay .i64 (cA vars v)) (dims+d) bd g=g (aL bd (cA vars v) (dims+d) y)) (hQ': ∀b∈t.sys,∀y∈b.kids,∀g,hd y vars (dims+da t.kind) bd g=g (aL bd vars (dims+da t.kind) y)) (ht:OkT t):
  ∀ (r p:LT) (m:Nat),t.kids=p++r->r.length<m->ir hd k Z vars dims bd t m (p.length:Int)=Z (bD bd vars dims t.kind p.length r&&bX bd vars dims t.kind t.sys):=by
 obtain ⟨o1,o2,o3,o4,o5,o6,o7⟩:=ht.no
 intro r
 induction r with
 |nil=>
  intro p m h hm
  obtain ⟨m,rfl,hm'⟩:=aK hm
  have hs:eS hd k Z vars dims bd t k 0 (da t.kind)=_:=EF hk Z hv rfl hQ' o7 (fun b hb=>(ht.bi hb).1.2.2) t.sys [] k rfl (by omega)
  grind [ir,kz,bD,da,f0]
 |cons y r ih=>
  intro p m h hm
  obtain ⟨m,rfl,hm'⟩:=aK hm
  obtain ⟨e1,e2,e3,e4⟩:=bK h (by omega)
  have b1:=pw t.kind p.length
  have b2:=pu t.kind p.length
  have hy:=hQ y (by grind) (ep t.kind p.length) (eK t.kind p.length) b1 b2
  simp only [ir,kz,e1,aH,e2,bB,aJ hk,rV,bt,yu hv b1 b2,hy,e3,ih (p++[y]) m e4 hm',yG]
  grind [bD]
end
theorem ph (bd:Bool) (vars dims:Int) (t:Tm):aL bd vars dims t=(!(bd&&decide (dims>24))&&(cJ vars dims t&&(bD bd vars dims t.kind 0 t.kids&&bX bd vars dims t.kind t.sys))):=by cases t;rfl
theorem I9 {vars v:Int} (h:0<=v/\v<=1):vars<=cA vars v/\cA vars v<=vars+1:=by grind [cA]
theorem A6 {bd:Bool} (t:Tm):OkT t-> ∀ {V W D:Int},W<0->9223372036854775808<=V->aL bd W D t=aL bd V D t:=by
 induction t using iQ with
 |h kd n nm r ks sys ih1 ih2=>
  intro ht V W D hW hV
  have ho:=ht
  rw [OkT] at ht
  obtain ⟨o1,o2,o3,o4,o5,o6,o7⟩:=ht.1
  have hk: ∀ {l:LT} {i:Nat},(∀x∈l,OkT x-> ∀ {V W D:Int},W<0->9223372036854775808<=V->aL bd W D x=aL bd V D x)->bO l->bD bd W D kd i l=bD bd V D kd i l:=by
   intro l
   induction l with
   |nil=>intro i _ _;rw [bD,bD]
   |cons t l ih=>
    intro i h hl
    rw [bO] at hl
    have hb:=pw kd i
    rw [bD,bD,ih (fun x hx=>h x (by simp [hx])) hl.2,h t (by simp) hl.1 (W:=cA W (ep kd i)) (V:=cA V (ep kd i)) (by unfold cA;split<;>omega) (by unfold cA;split<;>omega)]
  have hm: ∀ {l:LT},(∀x∈l,OkT x-> ∀ {V W D:Int},W<0->9223372036854775808<=V->aL bd W D x=aL bd V D x)->bO l->cj bd W D kd l=cj bd V D kd l:=by
   intro l
   induction l with
   |nil=>intro _ _;rw [cj,cj]
   |cons t l ih=>
    intro h hl
    rw [bO] at hl
    rw [cj,cj,ih (fun x hx=>h x (by simp [hx])) hl.2,h t (by simp) hl.1 hW hV]
  have hs: ∀ {l:LB},(∀b∈l,∀x∈b.kids,OkT x-> ∀ {V W D:Int},W<0->9223372036854775808<=V->aL bd W D x=aL bd V D x)->bR l->bX bd W D kd l=bX bd V D kd l:=by
   intro l
   induction l with
   |nil=>intro _ _;rw [bX,bX]
   |cons b l ih=>
    intro h hl
    obtain ⟨f,ks'⟩:=b
    rw [bR,gY] at hl
    rw [bX,bX,g7,g7,ih (fun b hb=>h b (by simp [hb])) hl.2,hm (l:=ks') (h ⟨f,ks'⟩ (by simp)) hl.1.2]
  have hw:cJ W D (.mk kd n nm r ks sys)=cJ V D (.mk kd n nm r ks sys):=by
   unfold cJ
   have:decide (W<0\/n<W)=decide (V<0\/n<V):=by
    have hn:n<9223372036854775808:=by unfold cX at o2;omega
    rw [decide_eq_true (.inl hW),decide_eq_true (.inr (by omega))]
   dsimp only
   rw [this]
  rw [aL,aL,hw,hk ih1 ht.2.1,hs ih2 ht.2.2]
theorem yv (t:Tm):OkT t-> ∀ {k:Nat} {vars dims:Int} {bd:Bool} (Z:Bool->OS S),Fd k (aU t)->VW vars dims (aU t)->dL k t vars dims bd Z=Z (aL bd vars dims t):=by
 induction t using gb with
 |h t ih1 ih2=>
  intro ht k vars dims bd Z hk hv
  obtain ⟨q,rfl,hq,hf⟩:=hk.pos' (fO t)
  have hp:=fO t
  have hv':=hv
  unfold VW at hv'
  have hv1:VW vars dims 1:=by unfold VW;omega
  have hm:=qV t.kind
  have hQ: ∀y∈t.kids,∀v d,0<=v/\v<=1->0<=d/\d<=1-> ∀g:Bool->OS S,dL q y (ay .i64 (cA vars v)) (dims+d) bd g=g (aL bd (cA vars v) (dims+d) y):=fun y hy v d h1 h2 g=>by
   have hd:=fh hy
   have hvb:=I9 (vars:=vars) h1
   by_cases hlt:cA vars v<9223372036854775808
   ·rw [dj (by omega) hlt]
    exact ih1 y hy (ht.ki hy) g (hf _ (fh hy)) (by unfold VW;omega)
   ·have e:cA vars v=9223372036854775808:=by omega
    rw [e,show ay .i64 9223372036854775808= -9223372036854775808 from by decide,ih1 y hy (ht.ki hy) g (hf _ (fh hy)) (by unfold VW;omega),A6 y (ht.ki hy) (by omega) (Int.le_refl _)]
  have hQ': ∀b∈t.sys,∀y∈b.kids,∀g:Bool->OS S,dL q y vars (dims+da t.kind) bd g=g (aL bd vars (dims+da t.kind) y):=fun b hb y hy g=>ih2 b hb y hy ((ht.bi hb).2 y hy) g (hf _ (gu hb hy)) (by
   have:=gu hb hy;unfold VW;omega)
  have:=EE (bd:=bd) hq Z hv1 hQ hQ' ht t.kids [] q rfl (by have:=ht.no.2.2.2.2.2.1;omega)
  have this:ir (dL q) q Z vars dims bd t q 0=_:=this
  simp only [dL,yV,bt,aJ hq,HX hq ht (show 0<=dims by omega) (show dims<9223372036854775808 by omega),nf,sL,this]
  rw [ph]
  cases bd with
  |true=>
   rw [aH,eC,Bool.true_and]
   by_cases h24:dims>24
   ·grind
   ·rw [if_neg h24,decide_eq_false h24]
    cases cJ vars dims t<;>rfl
  |false=>
   rw [ax]
   cases cJ vars dims t<;>rfl
def VD (vars dims:Int) (n:Nat):Prop:= -4611686018427387904<=vars/\vars+n<4611686018427387904/\0<=dims/\dims+n<4611686018427387904
theorem HC (t:Tm) (ht:OkT t) {k:Nat} {vars dims:Int} {bd:Bool} (Z:Bool->OS S) (hk:Fd k (aU t)) (hv:VD vars dims (aU t)):dL k t vars dims bd Z=Z (aL bd vars dims t):=
 yv t ht Z hk (by obtain ⟨v1,v2,v3,v4⟩:=hv;exact ⟨by omega,by omega,v3,v4⟩)
theorem yD {t:Tm} (ht:OkT t) (hk:Fd k (aU t)) (Z:Int->OS S):kW k t Z=Z (if aU t>200 then 62 else if aR t>20000 then 221 else 0):=by
 simp only [kW,bt,H0 t ht _ hk (show (-4611686018427387904:Int)<=200 by omega) (show (200:Int)<4611686018427387904 by omega),aJ hk.fu,H1 ht hk (show (0:Int)<20000 by omega) (show (20000:Int)<4611686018427387904 by omega)]
 by_cases h1:aU t>200
 ·rw [if_pos h1,decide_eq_false (by omega)];rfl
 ·rw [if_neg h1,decide_eq_true (by omega),Bool.not_true,ax]
  by_cases h2:aR t>20000
  ·rw [if_pos h2,decide_eq_false (by omega)];rfl
  ·rw [if_neg h2,decide_eq_true (by omega)];rfl
theorem Hv {t:Tm} (ht:OkT t) (hk:Fd k (aU t)) (hdep:aU t<1099511627776) (Z:Int->OS S):nc k t Z=Z (eu t):=by
 simp only [nc,bt,aJ hk.fu,yD ht hk,HC t ht _ hk (show VD (-1) 24 (aU t) by unfold VD;omega),pr]
 unfold eu
 by_cases h1:aU t>200
 ·rw [if_pos h1,if_pos h1];rfl
 ·rw [if_neg h1,if_neg h1]
  by_cases h2:aR t>20000
  ·rw [if_pos h2,if_pos h2];rfl
  ·rw [if_neg h2,if_neg h2,decide_eq_true rfl,Bool.not_true,ax]
   cases aL false (-1) 24 t<;>rfl
theorem uu: ∀ {l:LT},(∀x∈l,aU x<=aR x)->du l<=bj l:=by
 intro l
 induction l<;>grind [du,bj]
theorem BW: ∀ {l:LB},(∀b∈l,∀x∈b.kids,aU x<=aR x)->dN l<=bo l:=by
 intro l
 induction l<;>grind [dN,bo,ni,lZ,uu]
theorem pV (t:Tm):aU t<=aR t:=by
 induction t using gb<;>grind [nj,yK,uu,BW]
section
variable {hd:Tm->(Int->OS S)->OS S} {t:Tm}
end
section
variable {hd:Tm->(Int->OS S)->OS S} {t:Tm}
end
section
variable {hd:Tm->Int->Int->Bool->(Bool->OS S)->OS S} {vars dims:Int} {bd:Bool} {t:Tm}
end
theorem EX (hk:Fu k) (Z:Bool->OS S) {l:LC} (hlen:l.length<2147483648):
  ∀ (r p:LC) (m:Nat),l=p++r->r.length<m->jC k Z l l m (p.length:Int)=Z true:=by
 intro r
 induction r with
 |nil=>
  grind [aK,jC,mq,ax]
 |cons x r ih=>
  intro p m h hm
  obtain ⟨m,rfl,hm'⟩:=aK hm
  obtain ⟨e1,e2,e3,e4⟩:=bK h (by omega)
  grind [jC,mq,aH,ax]
theorem yC (hk:Fu k) {l:LC} (hlen:l.length<2147483648) (Z:Bool->OS S):kQ k l l Z=Z true:=by
 simp only [kQ,sq,beq_self_eq_true,Bool.not_true,ax]
 exact EX hk Z hlen l [] k rfl (by omega)
section
variable {hd:Tm->Tm->(Bool->OS S)->OS S}
theorem ER (hk:Fu k) (Z:Bool->OS S) {l:LT} (hlen:l.length<2147483648) (hQ: ∀y∈l,∀g,hd y y g=g true):
  ∀ (r p:LT) (m:Nat),l=p++r->r.length<m->jE hd k Z l l m (p.length:Int)=Z true:=by
 intro r
 induction r with
 |nil=>
  grind [aK,jE,mu,ax]
 |cons x r ih=>
  intro p m h hm
  obtain ⟨m,rfl,hm'⟩:=aK hm
  obtain ⟨e1,e2,e3,e4⟩:=bK h (by omega)
  grind [jE,mu,aH,bt,ax]
theorem yz (hk:Fu k) (Z:Bool->OS S) {l:LT} (hlen:l.length<2147483648) (hQ: ∀y∈l,∀g,hd y y g=g true):kR hd k l l Z=Z true:=by
 simp only [kR,sx,beq_self_eq_true,Bool.not_true,ax]
 exact ER hk Z hlen hQ l [] k rfl (by omega)
theorem EW (hk:Fu k) (Z:Bool->OS S) {t:Tm} (ht:OkT t) (hQ: ∀b∈t.sys,∀y∈b.kids,∀g,hd y y g=g true):
  ∀ (r p:LB) (m:Nat),t.sys=p++r->r.length<m->jD hd k Z t t m (p.length:Int)=Z true:=by
 obtain ⟨o1,o2,o3,o4,o5,o6,o7⟩:=ht.no
 intro r
 induction r with
 |nil=>
  grind [aK,jD,mt,ax]
 |cons x r ih=>
  intro p m h hm
  obtain ⟨m,rfl,hm'⟩:=aK hm
  obtain ⟨e1,e2,e3,e4⟩:=bK h (by omega)
  have hx:x∈t.sys:=by grind
  have hb:=(ht.bi hx).1
  simp only [jD,mt,e1,aH,e2,bB,aJ hk,yC hk (show x.face.length<2147483648 by omega),yz hk _ (show x.kids.length<2147483648 by omega) (hQ x hx),e3,ih (p++[x]) m e4 hm',Bool.not_true,ax]
end
theorem HZ (t:Tm):OkT t-> ∀ {k:Nat} (Z:Bool->OS S),Fd k (aU t)->bY k t t Z=Z true:=by
 induction t using gb with
 |h t ih1 ih2=>
  intro ht k Z hk
  obtain ⟨q,rfl,hq,hf⟩:=hk.pos' (fO t)
  obtain ⟨o1,o2,o3,o4,o5,o6,o7⟩:=ht.no
  have hQ: ∀y∈t.kids,∀g:Bool->OS S,bY q y y g=g true:=fun y hy g=>ih1 y hy (ht.ki hy) g (hf _ (fh hy))
  have hQ': ∀b∈t.sys,∀y∈b.kids,∀g:Bool->OS S,bY q y y g=g true:=fun b hb y hy g=>ih2 b hb y hy ((ht.bi hb).2 y hy) g (hf _ (gu hb hy))
  have:=EW hq Z ht hQ' t.sys [] q rfl (by omega)
  grind [bY,tC,su,ax,aJ,yC,yz]
section
variable {hd:Tm->Int->(Int->OS S)->OS S} {t:Tm}
end
def dE:Tm:= .mk 0 0 aY [] [] []
def tE:Except Int Tm->Tm×Int
 | .ok t=>(t,0)
 | .error e=>(dE,e)
section
variable {hd:Int->Int->Tm->Int->Int->(Pan Int Tm->OS S)->OS S} {vb db v d:Int} {t:Tm}
end
theorem RowsT.no {t:Tm} (h:RowsT t):RF t.r/\(t.kind=1->t.r=[])/\0<=t.kind:=by cases t;rw [RowsT] at h;exact h.1
theorem RowsT.ki {t x:Tm} (h:RowsT t) (hx:x∈t.kids):RowsT x:=by cases t;rw [RowsT] at h;exact rowsK_iff.1 h.2.1 x hx
theorem RowsT.bi {t:Tm} {b:Br Tm} (h:RowsT t) (hb:b∈t.sys):RF b.face/\ ∀x∈b.kids,RowsT x:=by cases t;rw [RowsT] at h;exact rowsS_iff.1 h.2.2 b hb
section
variable {hd:Tm->Int->Int->Int->Int->(Tm->OS S)->OS S} {vb db v d:Int} {t:Tm}
end
theorem gx {t:Tm} (h:eu t=0):aU t<=200/\aR t<=20000/\aL false (-1) 24 t=true:=by
 grind [eu]
theorem qb {t:Tm} (h1:aU t<=200) (h2:aR t<=20000) (h3:aL false (-1) 24 t=true):eu t=0:=by
 grind [eu]
def Fm (t:Tm):Prop:=OkT t/\eu t=0
theorem Fm.ok {t:Tm} (h:Fm t):OkT t:=h.1
theorem Fm.rows {t:Tm} (h:Fm t):RowsT t:=Ba t h.1 (gx h.2).2.2
theorem Fm.dep {t:Tm} (h:Fm t):aU t<=200:=(gx h.2).1
theorem Fm.siz {t:Tm} (h:Fm t):aR t<=20000:=(gx h.2).2.1
abbrev F3 (k:Nat):Prop:=4294968296<=k
theorem F3.fu (h:F3 k):Fu k:=by omega
theorem F3.fd (h:F3 k) {n:Nat} (hn:n<=1000):Fd k n:=by omega
theorem Fm.fd {t:Tm} (h:Fm t) (hk:F3 k):Fd k (aU t):=hk.fd (by have:=h.dep;omega)
def iV (vb db:Int) (t:Tm):Except Int Tm:=bE (fE vb 0 0 0 t) (fE 0 db 0 0)
def Hc (i:Int) (r:LC) (fa:Bool):eh:=fun d f=>if lh (pX f) (i+d) then bE (iR (fC r 0 d)) fun s=>iR (if fa then GI f (i+d) s else GK f (i+d) s) else .ok f
section
variable {i d:Int} {r f:LC}
end
def pF (j:Int) (c:Cl):Cl:=⟨np c.pos j,np c.neg j⟩
def BS (j:Int) (f:LC):LC:=(co (f.map (pF j))).1
theorem uy (s j:Int):0<=np s j/\np s j<16777216:=by
 have:=B2 s.toNat j
 exact ⟨Int.natCast_nonneg _,by show ((nn s.toNat j:Nat):Int)<_;omega⟩
theorem BQ (j:Int) (c:Cl):RC (pF j c):=⟨uy _ _,uy _ _⟩
theorem ul (j:Int) (f:LC): ∀c∈f.map (pF j),RC c:=fun c hc=>by
 grind [BQ]
section
variable {fo fa:eh} (hfo: ∀d f e,fo d f= .error e->0<e/\e<=1000) (hfa: ∀d f e,fa d f= .error e->0<e/\e<=1000)
include hfo hfa
end
section
variable {hd:Tm->Int->Int->LC->(Tm×Int->OS S)->OS S} {i d:Int} {t:Tm} {r:LC}
end
section
variable {hd:Tm->Int->Int->(Tm×Int->OS S)->OS S} {i d:Int} {t:Tm}
end
def BR (i:Int):Int->LC->LC:=fun d f=>BS (i+d) f
def uP (i:Int) (r:LC) (fa:Bool):eh:=Bc (Hc i r fa) (BR i)
section
variable {hd:Tm->Int->LC->Int->Bool->(Tm->OS S)->OS S} {i d:Int} {r:LC} {t:Tm}
end
def yX (i:Int) (r:LC) (t:Tm):Except Int Tm:=bE (iR (fC r i 1)) fun s=>sY (uP i s false) (uP i s true) 0 t
def In (k:Nat) (t:Tm):Prop:=OkT t/\Fd k (aU t)/\aR t<1099511627776
theorem In.dep {t:Tm} (h:In k t):aU t<1099511627776:=by have:=pV t;have:=h.2.2;omega
def rZ:LT->Int
 |[]=>0
 |t::l=>if eu t=0 then rZ l else eu t
def tx (r:LC) (line:Tm):Except Int Tm:=bE (fE 0 2 0 1 line) (yX 0 r)
section
variable {c:Int}
end
end Go.Proofs.YtlidjlacmpaefaaGreatDoor
namespace Go.Proofs.YtlidjlacmpaefaaGreatDoor
open Go PI
set_option maxRecDepth 100000

set_option maxRecDepth 20000
variable {S:Type} {k:Nat}
theorem yw {l:LC} (hl:l.length<1073741824) (Z:LC->OS S):jP l Z=Z l:=by
 grind [jP,gN]
section
variable {hd:Tm->(Tm->OS S)->OS S}
theorem EA (hk:Fu k) (Z:LT->OS S) {l:LT} (hQ: ∀y∈l,∀g,hd y g=g y) (hl:l.length<1073741824):
  ∀ (r p:LT) (m:Nat),l=p++r->r.length<m->jK hd k Z l m p (p.length:Int)=Z l:=by
 intro r
 induction r with
 |nil=>
  grind [aK,jK,mB,ax]
 |cons y r ih=>
  intro p m h hm
  obtain ⟨m,rfl,hm'⟩:=aK hm
  obtain ⟨e1,e2,e3,e4⟩:=bK h (by omega)
  grind [jK,mB,aH,bt,gN]
theorem yx (hk:Fu k) {l:LT} (hQ: ∀y∈l,∀g,hd y g=g y) (hl:l.length<1073741824) (Z:LT->OS S):kT hd k l Z=Z l:=by
 simp only [kT,sJ]
 exact EA hk Z hQ hl l [] k rfl (by omega)
theorem EB (hk:Fu k) (Z:Tm->OS S) {t:Tm} (ht:OkT t) (hQ: ∀b∈t.sys,∀y∈b.kids,∀g,hd y g=g y) (r1:LC) (r2:LT):
  ∀ (r p:LB) (m:Nat),t.sys=p++r->r.length<m->jJ hd k Z t r1 r2 m p (p.length:Int)=Z (.mk t.kind t.n t.name r1 r2 t.sys):=by
 obtain ⟨o1,o2,o3,o4,o5,o6,o7⟩:=ht.no
 intro r
 induction r with
 |nil=>
  grind [aK,jJ,mA,ax]
 |cons y r ih=>
  intro p m h hm
  obtain ⟨m,rfl,hm'⟩:=aK hm
  obtain ⟨e1,e2,e3,e4⟩:=bK h (by omega)
  have hy:y∈t.sys:=by grind
  have hb:=(ht.bi hy).1
  have hlen:p.length+r.length+1=t.sys.length:=by grind
  simp only [jJ,mA,e1,aH,e2,bB,bt,e3,yw hb.2.1,aJ hk,yx hk (hQ y hy) hb.2.2]
  rw [gN (by grind)]
  have:=ih (p++[y]) m e4 hm'
  omega
end
theorem yp (t:Tm):OkT t-> ∀ {k:Nat} (Z:Tm->OS S),Fd k (aU t)->dB k t Z=Z t:=by
 induction t using gb with
 |h t ih1 ih2=>
  intro ht k Z hk
  obtain ⟨q,rfl,hq,hf⟩:=hk.pos' (fO t)
  obtain ⟨o1,o2,o3,o4,o5,o6,o7⟩:=ht.no
  simp only [dB,sI,yw o5,aJ hq,yx hq (fun y hy g=>ih1 y hy (ht.ki hy) g (hf _ (fh hy))) o6]
  have:=EB hq Z ht (fun b hb y hy g=>ih2 b hb y hy ((ht.bi hb).2 y hy) g (hf _ (gu hb hy))) t.r t.kids t.sys [] q rfl (by omega)
  refine aI this ?_
  cases t;rfl
theorem GB {v d d':Int} (h:24<=d) (h':24<=d') (t:Tm):cJ v d t=cJ v d' t:=by
 have hb: ∀kd,dt kd d=dt kd d':=fun kd=>by grind [dt,nU]
 simp_all [cJ,nU]
theorem A7 (t:Tm): ∀ {v d d':Int},24<=d->24<=d'->aL false v d t=aL false v d' t:=by
 induction t using gb with
 |h t ih1 ih2=>
  intro v d d' h h'
  rw [ph,ph,GB h h']
  have hK: ∀ (l:LT) (i:Nat),(∀x∈l,x∈t.kids)->bD false v d t.kind i l=bD false v d' t.kind i l:=by
   intro l
   induction l<;>grind [bD,eK]
  grind [pf,da]

theorem yJ (t:Tm):aR t=1+bj t.kids+bo t.sys:=by cases t;rfl
def gf (most w:Int) (n:Nat):Prop:=1<=w/\w<=2*most+1/\(w<=most->(n:Int)<=w)
def Mo (most:Int):Prop:=0<=most/\most<=1000
section
variable {hd:Tm->Int->(Int->OS S)->OS S} {t:Tm}
theorem Ey (hk:Fu k) (Z:Int->OS S) (rec1:Int->Int->OS S) {v most:Int} (hm0:Mo most) {x:Br Tm} (hv:aM t.sys v=some x) (hQ: ∀y∈x.kids,∀n,Mo n-> ∀g,∃w,hd y n g=g w/\gf n w (aR y)) (hl:x.kids.length<1073741824):
  ∀ (r p:LT) (m:Nat) (a:Int),x.kids=p++r->r.length<m->1<=a->a<=2*most+1-> ∃w,fT hd k Z rec1 t most v m a (p.length:Int)=rec1 w (ay .i64 (v+1))/\a<=w/\w<=2*most+1/\(w<=most->a+(bj r:Int)<=w):=by
 obtain ⟨hm1,hm2⟩:=hm0
 intro r
 induction r with
 |nil=>
  intro p m a h hm ha ha'
  obtain ⟨m,rfl,hm'⟩:=aK hm
  exact ⟨a,by grind [fT,mr,ax],Int.le_refl _,ha',fun _=>by rw [bj];simp⟩
 |cons y r ih=>
  intro p m a h hm ha ha'
  obtain ⟨m,rfl,hm'⟩:=aK hm
  obtain ⟨e1,e2,e3,e4⟩:=bK h (by omega)
  simp only [fT,mr,hv,e1,aH,e2,bB,bt,e3]
  by_cases hc:a<=most
  ·rw [decide_eq_true hc,aH,dj (show-9223372036854775808<=most-a by omega) (by omega)]
   obtain ⟨w,hw,w1,w2,w3⟩:=hQ y (by grind) (most-a) ⟨by omega,by omega⟩ (fun r8=>fT hd k Z rec1 t most v m (ay .i64 (a+r8)) (((p++[y]).length:Nat):Int))
   rw [hw,dj (show-9223372036854775808<=a+w by omega) (by omega)]
   obtain ⟨u,hu,u1,u2,u3⟩:=ih (p++[y]) m (a+w) e4 hm' (by omega) (by omega)
   exact ⟨u,hu,by omega,u2,fun hle=>by grind [bj]⟩
  grind [ax]
theorem Ew (hk:Fu k) (Z:Int->OS S) {most:Int} (hm0:Mo most) (hQ: ∀b∈t.sys,∀y∈b.kids,∀n,Mo n-> ∀g,∃w,hd y n g=g w/\gf n w (aR y)) (ht:OkT t):
  ∀ (r p:LB) (m:Nat) (a:Int),t.sys=p++r->r.length<m->1<=a->a<=2*most+1-> ∃w,fz hd k Z t most m a (p.length:Int)=Z w/\a<=w/\w<=2*most+1/\(w<=most->a+(bo r:Int)<=w):=by
 obtain ⟨o1,o2,o3,o4,o5,o6,o7⟩:=ht.no
 have hm1:=hm0.1
 have hm2:=hm0.2
 intro r
 induction r with
 |nil=>
  intro p m a h hm ha ha'
  obtain ⟨m,rfl,hm'⟩:=aK hm
  exact ⟨a,by grind [fz,ko,ax],Int.le_refl _,ha',fun _=>by rw [bo];simp⟩
 |cons x r ih=>
  intro p m a h hm ha ha'
  obtain ⟨m,rfl,hm'⟩:=aK hm
  obtain ⟨e1,e2,e3,e4⟩:=bK h (by omega)
  have hx:x∈t.sys:=by grind
  have hb:=(ht.bi hx).1
  simp only [fz,ko,e1,aH,e2,bB,e3]
  by_cases hc:a<=most
  ·rw [decide_eq_true hc,aH]
   by_cases hf:((x.face.length:Nat):Int)>most
   ·grind [aH,dj]
   ·rw [decide_eq_false hf,ax,dj (show-9223372036854775808<=a+1 by omega) (by omega),dj (show-9223372036854775808<=a+1+((x.face.length:Nat):Int) by omega) (by omega)]
    obtain ⟨w,hw,w1,w2,w3⟩:=Ey (t:=t) (most:=most) hk Z (fz hd k Z t most m) hm0 e2 (hQ x hx) hb.2.2 x.kids [] k (a+1+((x.face.length:Nat):Int)) rfl (by omega) (by omega) (by omega)
    have hw:fT hd k Z (fz hd k Z t most m) t most (p.length:Int) k (a+1+((x.face.length:Nat):Int)) 0=_:=hw
    rw [hw,e3]
    obtain ⟨u,hu,u1,u2,u3⟩:=ih (p++[x]) m w e4 hm' (by omega) w2
    exact ⟨u,hu,by omega,u2,fun hle=>by grind [bo,lZ]⟩
  grind [ax]
theorem Ev (hk:Fu k) (Z:Int->OS S) {most:Int} (hm0:Mo most) (hQ: ∀y∈t.kids,∀n,Mo n-> ∀g,∃w,hd y n g=g w/\gf n w (aR y)) (hQ': ∀b∈t.sys,∀y∈b.kids,∀n,Mo n-> ∀g,∃w,hd y n g=g w/\gf n w (aR y)) (ht:OkT t):
  ∀ (r p:LT) (m:Nat) (a:Int),t.kids=p++r->r.length<m->1<=a->a<=2*most+1-> ∃w,ik hd k Z t most m a (p.length:Int)=Z w/\a<=w/\w<=2*most+1/\(w<=most->a+(bj r:Int)+(bo t.sys:Int)<=w):=by
 obtain ⟨o1,o2,o3,o4,o5,o6,o7⟩:=ht.no
 have hm1:=hm0.1
 have hm2:=hm0.2
 intro r
 have hs:=fun a=>Ew (most:=most) hk Z hm0 hQ' ht t.sys [] k a rfl (by omega)
 induction r with
 |nil=>
  grind [aK,ik,kn,ax,bj]
 |cons y r ih=>
  intro p m a h hm ha ha'
  obtain ⟨m,rfl,hm'⟩:=aK hm
  obtain ⟨e1,e2,e3,e4⟩:=bK h (by omega)
  simp only [ik,kn,e1,aH,e2,bB,bt,e3]
  by_cases hc:a<=most
  ·rw [decide_eq_true hc,aH,dj (show-9223372036854775808<=most-a by omega) (by omega)]
   obtain ⟨w,hw,w1,w2,w3⟩:=hQ y (by grind) (most-a) ⟨by omega,by omega⟩ (fun r2=>ik hd k Z t most m (ay .i64 (a+r2)) (((p++[y]).length:Nat):Int))
   rw [hw,dj (show-9223372036854775808<=a+w by omega) (by omega)]
   obtain ⟨u,hu,u1,u2,u3⟩:=ih (p++[y]) m (a+w) e4 hm' (by omega) (by omega)
   exact ⟨u,hu,by omega,u2,fun hle=>by grind [bj]⟩
  grind [ax]
end
theorem yB (t:Tm):OkT t-> ∀ {k:Nat} (most:Int),Mo most-> ∀ (Z:Int->OS S),Fd k (aU t)-> ∃w,dK k t most Z=Z w/\gf most w (aR t):=by
 induction t using gb with
 |h t ih1 ih2=>
  intro ht k most hm0 Z hk
  have hm1:=hm0.1
  have hm2:=hm0.2
  obtain ⟨q,rfl,hq,hf⟩:=hk.pos' (fO t)
  obtain ⟨o1,o2,o3,o4,o5,o6,o7⟩:=ht.no
  have hQ: ∀y∈t.kids,∀n,Mo n-> ∀ (g:Int->OS S),∃w,dK q y n g=g w/\gf n w (aR y):=fun y hy n hn g=>ih1 y hy (ht.ki hy) n hn g (hf _ (fh hy))
  have hQ': ∀b∈t.sys,∀y∈b.kids,∀n,Mo n-> ∀ (g:Int->OS S),∃w,dK q y n g=g w/\gf n w (aR y):=fun b hb y hy n hn g=>ih2 b hb y hy ((ht.bi hb).2 y hy) n hn g (hf _ (gu hb hy))
  simp only [dK,sr]
  have out: ∃w,Z (ay .i64 (most+1))=Z w/\gf most w (aR t):=⟨most+1,by grind [dj],by omega,by omega,fun h=>by omega⟩
  by_cases hr:((t.r.length:Nat):Int)>most
  ·grind [aH]
  ·rw [decide_eq_false hr,ax]
   by_cases hn:((t.name.size:Nat):Int)>most
   ·grind [aH]
   ·rw [decide_eq_false hn,ax,dj (show-9223372036854775808<=1+((t.r.length:Nat):Int) by omega) (by omega),dj (show-9223372036854775808<=1+((t.r.length:Nat):Int)+((t.name.size:Nat):Int) by omega) (by omega)]
    obtain ⟨w,hw,w1,w2,w3⟩:=Ev hq Z hm0 hQ hQ' ht t.kids [] q (1+((t.r.length:Nat):Int)+((t.name.size:Nat):Int)) rfl (by omega) (by omega) (by omega)
    exact ⟨w,hw,by omega,w2,fun hle=>by grind [yJ]⟩
def IX (kd:Int) (l:LT):Tm:= .mk kd 0 aY [] l []
def Fd2 (n m:Nat) (t:Tm):Prop:=OkT t/\aL false (-1) 24 t=true/\aU t<=n/\aR t<=m
theorem Fd2.fm {n m:Nat} {t:Tm} (h:Fd2 n m t) (hn:n<=200) (hm:m<=20000):Fm t:=⟨h.1,qb (by have:=h.2.2.1;omega) (by have:=h.2.2.2;omega) h.2.1⟩
theorem Fm.f2 {t:Tm} (h:Fm t):Fd2 200 20000 t:=⟨h.1,(gx h.2).2.2,(gx h.2).1,(gx h.2).2.1⟩
theorem Fd2.mono {n m n' m':Nat} {t:Tm} (h:Fd2 n m t) (hn:n<=n') (hm:m<=m'):Fd2 n' m' t:=⟨h.1,h.2.1,by have:=h.2.2.1;omega,by have:=h.2.2.2;omega⟩
theorem Fd2.up {n m:Nat} {t t':Tm} (h:Fd2 n m t) {a b:Int} (ha:0<=a/\a<=1000000000) (hl:iV a b t= .ok t'):Fd2 n m t':=by
 obtain ⟨u,h1,h2⟩:=eo hl
 obtain ⟨p1,p2,p3,p4⟩:=vt ha.1 ha.2 t 0 0 u h1
 obtain ⟨q1,q2,q3,q4⟩:=vt (by omega) (by omega) u 0 0 t' h2
 have w:=p4 h.1
 have w2:=q4 w.1
 have ho:=w.2.2 24 24 (by omega) (by omega) h.2.1
 exact ⟨w2.1,w2.2.2 24 24 (by omega) (by omega) ho,by have:=h.2.2.1;omega,by have:=h.2.2.2;omega⟩
mutual
def pD (n:Int):Tm->Nat
 | .mk kd m _ _ ks sys=>(if kd=1/\m=n then 1 else 0)+(uf n kd 0 ks+uh n sys)
def uf (n kd:Int) (i:Nat):LT->Nat
 |[]=>0
 |t::l=>pD (n+ep kd i) t+uf n kd (i+1) l
def uh (n:Int):LB->Nat
 |[]=>0
 |b::l=>BL n b+uh n l
def BL (n:Int):Br Tm->Nat
 | .mk _ ks=>ug n ks
def ug (n:Int):LT->Nat
 |[]=>0
 |t::l=>pD n t+ug n l
end
mutual
def re (n:Int) (u:Tm) (v d:Int):Tm->Except Int Tm
 | .mk kd m nm r ks sys=>if kd=1/\m=n+v then iV v d u else bE (wy n u v d kd 0 ks) fun ks'=>bE (wA n u v d kd sys) fun sys'=> .ok (.mk kd (if kd=1/\m>n+v then m-1 else m) nm r ks' sys')
def wy (n:Int) (u:Tm) (v d kd:Int) (i:Nat):LT->Except Int (LT)
 |[]=> .ok []
 |t::l=>bE (re n u (v+ep kd i) (d+eK kd i) t) fun t'=>bE (wy n u v d kd (i+1) l) fun l'=> .ok (t'::l')
def wA (n:Int) (u:Tm) (v d kd:Int):LB->Except Int (LB)
 |[]=> .ok []
 |b::l=>bE (GE n u v d kd b) fun b'=>bE (wA n u v d kd l) fun l'=> .ok (b'::l')
def GE (n:Int) (u:Tm) (v d kd:Int):Br Tm->Except Int (Br Tm)
 | .mk f ks=>bE (wz n u v d kd ks) fun ks'=> .ok (.mk f ks')
def wz (n:Int) (u:Tm) (v d kd:Int):LT->Except Int (LT)
 |[]=> .ok []
 |t::l=>bE (re n u v (d+da kd) t) fun t'=>bE (wz n u v d kd l) fun l'=> .ok (t'::l')
end
def GF (n:Int) (t u:Tm):Except Int Tm:=if aR t+pD n t*(aR u-1)>20000 then .error 221 else bE (re n u 0 0 t) fun o=>if aU o>200 then .error 62 else .ok o
section
variable {n v d kd:Int} {u:Tm}
end

end Go.Proofs.YtlidjlacmpaefaaGreatDoor
namespace Go.Proofs.YtlidjlacmpaefaaGreatDoor
open Go PI
set_option maxRecDepth 20000

variable {S:Type} {k:Nat}

structure Gd (x:Except Int Tm):Prop where
 en: ∀e,x= .error e->0<e/\e<=1000
 kd: ∀t,x= .ok t->0<=t.kind
section
variable {hd:Tm->(Tm->OS S)->OS S} {t:Tm}
end
def sZ (sys:LB):Tm:= .mk 15 0 aY [] [.mk 3 0 aY [] [] [],.mk 3 0 aY [] [] []] sys
def li (b:Br Tm):Tm:=b.kids.headD dE
structure SyF (sys:LB):Prop where
 kid: ∀b∈sys,b.kids=[li b]/\Fm (li b)/\aZ b.face/\b.face.length<1073741824
 len:sys.length<=20000
 siz:bo sys<=20000
def ui (line:Tm):LB->Except Int (LB)
 |[]=> .ok []
 |b::r=>bE (tx [⟨1,0⟩,⟨2,0⟩] line) fun u=>bE (ui line r) fun l=> .ok (.mk b.face [.mk 14 0 aY [⟨1,0⟩] [u,li b] []]::l)
def BM (line a:Tm) (sys:LB):Except Int Tm:=bE (yX 0 [⟨0,0⟩] line) fun l1=>bE (ui line sys) fun l=> .ok (.mk 15 0 aY [] [l1,IX 14 [line,a]] l)
def uM:LB->Except Int (LB)
 |[]=> .ok []
 |b::r=>bE (iR (fC b.face 0 1)) fun f=>bE (tx [⟨3,0⟩] (li b)) fun u=>bE (uM r) fun l=> .ok (.mk f [u]::l)
def Dh (t a:Tm) (sys:LB):Except Int Tm:=bE (iV 0 1 t) fun t'=>bE (iV 0 1 a) fun a'=>bE (uM sys) fun l=>bE (iV 0 2 a) fun a2=> .ok (.mk 15 0 aY [] [t',a'] (l++[.mk [⟨0,1⟩] [a2]]))

end Go.Proofs.YtlidjlacmpaefaaGreatDoor
namespace Go.Proofs.YtlidjlacmpaefaaGreatDoor
open Go PI
set_option maxRecDepth 20000
abbrev En:=Nat->Prop
def hp (c:Cl) (j:Nat):Prop:=c.pos.toNat.testBit j=true
def hn (c:Cl) (j:Nat):Prop:=c.neg.toNat.testBit j=true
theorem GW {c:Cl} (h:RC c) {j:Nat} (hj:hp c j):j<24:=mI (by have:=h.1;omega) hj
theorem GV {c:Cl} (h:RC c) {j:Nat} (hj:hn c j):j<24:=mI (by have:=h.2;omega) hj
def ef (P:En) (n:Nat) (A:Prop):En:=fun j=>(j≠n/\P j)\/(j=n/\A)
def B1 (n x:Nat):Nat:=if n<x then x-1 else x
def RX (fa:Bool) (f:LC):Prop:=RF f/\(fa=true-> ∀c∈f,dZ c=false)
def same (n:Nat) (P P':En):Prop:= ∀j,j≠n->(P j↔P' j)
theorem same.symm {n:Nat} {P P':En} (h:same n P P'):same n P' P:=fun j hj=>(h j hj).symm
def DN (P:En) (n:Nat):En:=fun x=>x≠n/\P (B1 n x)


abbrev A2:=Bool->Int->LC->LC->Prop
abbrev A1:=Int->LC->LC->Prop
mutual
def g5 (pl:Bool):Tm->Prop
 | .mk kd n nm r ks sys=>RX (decide (kd=14)) r/\g4 pl ks/\kc pl sys
def g4 (pl:Bool):LT->Prop
 |[]=>True
 |t::l=>g5 pl t/\g4 pl l
def kc (pl:Bool):LB->Prop
 |[]=>True
 |b::l=>tq pl b/\kc pl l
def tq (pl:Bool):Br Tm->Prop
 | .mk f ks=>(RX true f/\(pl=true->f≠[]))/\g4 pl ks
end
section
variable {pl:Bool} {c vb db kd:Int} {fo fa:eh} {Ro Ro':A2} {Rb Rb':A1}
end
variable {S:Type} {k:Nat}
def qW (sys:LB):Bool:=sys.any fun b=>(b.face.length:Int)==0
mutual
def iG:Tm->Bool
 | .mk _ _ _ _ ks sys=> !qW sys&&(iH ks&&n7 sys)
def iH:LT->Bool
 |[]=>true
 |t::l=>iG t&&iH l
def n7:LB->Bool
 |[]=>true
 |b::l=>wx b&&n7 l
def wx:Br Tm->Bool
 | .mk _ ks=>iH ks
end
theorem yn {f:LC} (hf:aZ f) (h:cK f=true):RX true f:=by
 have:=(oy hf).1 h
 exact ⟨this.1,fun _=>this.2⟩
theorem qZ {vars dims kd n nm r ks sys} (hok:OkT (.mk kd n nm r ks sys)) (h:cJ vars dims (.mk kd n nm r ks sys)=true):RX (decide (kd=14)) r/\ ∀b∈sys,RX true b.face:=by
 obtain ⟨o1,o2,o3,o4,o5,o6,o7⟩:=hok.node
 unfold cJ at h
 simp only [aj,decide_eq_true_eq] at h
 obtain ⟨⟨a1,a2,a3,a4⟩,a5⟩:=h
 have r0:r.length=0->RX (decide (kd=14)) r:=fun h=>by
  have:=List.length_eq_zero_iff.1 h;subst this;exact ⟨xW,fun _ c hc=>by cases hc⟩
 have nosys:dW kd=0-> ∀b∈sys,RX true b.face:=fun h=>by
  grind
 split at a5
 ·rename_i c
  simp only [aj,decide_eq_true_eq] at a5
  exact ⟨r0 a5.1,nosys (by subst c;decide)⟩
 split at a5
 ·rename_i c
  simp only [aj,decide_eq_true_eq] at a5
  exact ⟨r0 a5.1,nosys (by subst c;decide)⟩
 split at a5
 ·rename_i c
  rw [aj] at a5
  exact ⟨⟨(iM o4).1 a5.1,fun h=>by grind⟩,nosys (by rcases c with rfl|rfl|rfl<;>decide)⟩
 split at a5
 ·rename_i c
  rw [aj] at a5
  subst c
  exact ⟨yn o4 a5.1,nosys (by decide)⟩
 ·simp only [aj,decide_eq_true_eq] at a5
  refine ⟨r0 a5.2,fun b hb=> ?_⟩
  have:=bW.1 a5.1 b hb
  unfold dt at this
  simp only [aj] at this
  exact yn (hok.br hb).1.1 this.2.1
theorem A_ {bd pl:Bool} (t:Tm): ∀ {vars dims:Int},OkT t->aL bd vars dims t=true->(pl=true->iG t=true)->g5 pl t:=by
 induction t using iQ with
 |h kd n nm r ks sys ih1 ih2=>
  intro vars dims hok h hp
  rw [aL,aj,aj,aj] at h
  obtain ⟨_,a,b,c⟩:=h
  obtain ⟨hr,hb⟩:=qZ hok a
  have hok':=hok
  rw [OkT] at hok'
  obtain ⟨_,ok,os⟩:=hok'
  rw [iG] at hp
  simp only [aj,Bool.not_eq_true'] at hp
  have hk: ∀ {l:LT} {i:Nat},(∀x∈l,∀ {vars dims:Int},OkT x->aL bd vars dims x=true->(pl=true->iG x=true)->g5 pl x)->bO l->bD bd vars dims kd i l=true->(pl=true->iH l=true)->g4 pl l:=by
   intro l
   induction l<;>grind [bD,g4,iH,bO]
  have hm: ∀ {l:LT},(∀x∈l,∀ {vars dims:Int},OkT x->aL bd vars dims x=true->(pl=true->iG x=true)->g5 pl x)->bO l->cj bd vars dims kd l=true->(pl=true->iH l=true)->g4 pl l:=by
   intro l
   induction l<;>grind [cj,g4,iH,bO]
  have hs: ∀ {l:LB},(∀b∈l,∀x∈b.kids,∀ {vars dims:Int},OkT x->aL bd vars dims x=true->(pl=true->iG x=true)->g5 pl x)->bR l->(∀b∈l,RX true b.face)->bX bd vars dims kd l=true->(pl=true->qW l=false/\n7 l=true)->kc pl l:=by
   intro l
   induction l with
   |nil=>grind [kc]
   |cons b l ih=>
    intro h1 h2 h3 h4 h5
    obtain ⟨f,ks'⟩:=b
    rw [bR] at h2
    rw [gY] at h2
    rw [bX,g7,aj] at h4
    rw [qW,List.any_cons,Bool.or_eq_false_iff,n7,wx,aj] at h5
    rw [kc,tq]
    refine ⟨⟨⟨h3 ⟨f,ks'⟩ (by simp),fun e he=> ?_⟩,hm (h1 ⟨f,ks'⟩ (by simp)) h2.1.2 h4.1 fun e=>(h5 e).2.1⟩,ih (fun b hb=>h1 b (by simp [hb])) h2.2 (fun b hb=>h3 b (by simp [hb])) h4.2 fun e=>⟨(h5 e).1.2,(h5 e).2.2⟩⟩
    grind
  grind [g5]
theorem Fm.pl {t:Tm} {pl:Bool} (h:Fm t) (hp:pl=true->iG t=true):g5 pl t:=by
 have:=h.2
 unfold eu at this
 split at this
 ·simp_all
 split at this
 ·simp_all
 split at this
 ·rename_i h3;exact A_ t h.1 h3 hp
 omega
theorem A8 {kd d:Int}: ∀ {l:LT} {i:Nat} {x:Tm},24<=d->bD false (-1) d kd i l=true->x∈l->aL false (-1) 24 x=true:=by
 intro l
 induction l with
 |nil=>intro i x _ _ h;cases h
 |cons t l ih=>
  intro i x hd h hx
  rw [bD,aj] at h
  rcases cu.1 hx with rfl|hx
  ·have:=h.1
   rw [ze,A7 x (by have:=pu kd i;omega) (Int.le_refl 24)] at this;exact this
  ·exact ih hd h.2 hx
theorem Fm.kid {t x:Tm} (h:Fm t) (hx:x∈t.kids):Fm x:=by
 obtain ⟨h1,h2,h3⟩:=gx h.2
 have hd:=fh hx
 have hs:aR x<=aR t:=by have:=yJ t;have:=rX hx;omega
 refine ⟨h.1.ki hx,qb (by omega) (by omega) ?_⟩
 obtain ⟨kd,n,nm,r,ks,sys⟩:=t
 rw [aL] at h3
 simp only [Bool.false_and,Bool.not_false,Bool.true_and,aj] at h3
 exact A8 (Int.le_refl 24) h3.2.1 hx
theorem Fm.own {t:Tm} (h:Fm t):cJ (-1) 24 t=true:=by
 have h3:=(gx h.2).2.2
 cases t
 rw [aL] at h3
 simp only [Bool.false_and,Bool.not_false,Bool.true_and,aj] at h3
 exact h3.1
theorem Fm.n0 {t:Tm} (h:Fm t) (hk:t.kind≠1):t.n=0:=by
 have:=h.own
 cases t
 unfold cJ at this
 simp only [aj,decide_eq_true_eq] at this
 exact this.1.2.1.resolve_left hk
theorem Fm.r14 {t:Tm} (h:Fm t) (hk:t.kind=14):RX true t.r:=by
 have:=qZ (kd:=t.kind) (n:=t.n) (nm:=t.name) (r:=t.r) (ks:=t.kids) (sys:=t.sys) (by cases t;exact h.1) (by have:=h.own;cases t;exact this)
 have h1:=this.1
 rw [hk] at h1;exact h1
theorem Fm.face {t:Tm} {b:Br Tm} (h:Fm t) (hb:b∈t.sys):RX true b.face:=by
 have:=qZ (kd:=t.kind) (n:=t.n) (nm:=t.name) (r:=t.r) (ks:=t.kids) (sys:=t.sys) (by cases t;exact h.1) (by have:=h.own;cases t;exact this)
 exact this.2 b hb
section
variable {hd:Tm->Int->(Int->OS S)->OS S} {t:Tm} {n:Int}
end
section
variable {hd:Tm->Int->(Int->OS S)->OS S} {t:Tm} {n:Int}
end
theorem Fm.r1 {t:Tm} (h:Fm t) (hk:t.kind=1):t.r=[]:=by
 have:=h.own
 obtain ⟨kd,n,nm,r,ks,sys⟩:=t
 have hk:kd=1:=hk
 subst hk
 unfold cJ at this
 simp only [aj,decide_eq_true_eq,if_true] at this
 exact List.length_eq_zero_iff.1 this.2.1
section
variable {hd:Tm->Int->Tm->Int->Int->(Pan Int Tm->OS S)->OS S} {t u:Tm} {n v d:Int}
end
section
variable {hd:Tm->(Int->OS S)->OS S} {t:Tm}
end
abbrev F4 (k:Nat):Prop:=4294970296<=k
theorem F4.f3 (h:F4 k):F3 k:=by have:4294970296<=k:=h;unfold F3;omega

structure Sm (n:Nat) (t:Tm):Prop where
 ok:OkT t
 siz:aR t<=n
 dep:aU t<=300
theorem Sm.mono {n m:Nat} {t:Tm} (h:Sm n t) (hnm:n<=m):Sm m t:=⟨h.ok,by have:=h.siz;omega,h.dep⟩
structure Bs' (n:Nat) (l:LB):Prop where
 ok:bR l
 siz:bo l<=l.length*n
 dep:dN l<=301



section
variable {hd:Tm->Int->Tm->Int->Int->(Tm->OS S)->OS S} {t u:Tm} {n v d:Int}
end



def zd:LT->Except Int (LT)
 |[]=> .ok []
 |y::l=>bE (iV 0 1 y) fun y'=>bE (zd l) fun l'=> .ok (y'::l')
abbrev ns (kd:Int) (p:Tm) (l:LT) (a:Tm):Tm:= .mk kd 0 aY [] (p::l++[a]) []
def uK (kd:Int) (b:Tm) (mid:LT):LB->Except Int (LB)
 |[]=> .ok []
 |y::l=>bE (zd mid) fun m=>bE (uK kd b mid l) fun l'=> .ok (.mk y.face [ns kd b m (li y)]::l')
def eT (t:Tm):Tm:=t.kids.getD (t.kids.length-1) dE
def nV (t:Tm):LT:=(t.kids.take (t.kids.length-1)).drop 1


end Go.Proofs.YtlidjlacmpaefaaGreatDoor
namespace Go.Proofs.YtlidjlacmpaefaaGreatDoor
open Go PI
set_option maxRecDepth 20000
def qE (Φ:Nat->Prop) (f:LC):Prop:= ∀c∈f,∀j,hp c j\/hn c j->Φ j
theorem Fq {Φ Ψ:Nat->Prop} {f:LC} (h:qE Φ f) (hi: ∀j,Φ j->Ψ j):qE Ψ f:=fun c hc j hj=>hi j (h c hc j hj)
theorem Fs {f:LC} (hf:RF f) {d:Int}:dR f d=true↔qE (fun j=>(j:Int)<d) f:=by
 unfold dR
 rw [decide_eq_true_eq]
 have: ∀i:Nat,i∈eL (fP f)↔i<24/\ ∃c∈f,hp c i\/hn c i:=fun i=>by
  rw [gF,B0]
  unfold oF hp hn
  simp only [aj,List.any_eq_true,Bool.or_eq_true,decide_eq_true_eq]
  exact ⟨fun h=>⟨h.1,h.2.1⟩,fun h=>⟨h.1,h.2,h.1⟩⟩
 constructor
 ·intro h c hc j hj
  exact h j ((this j).2 ⟨hj.elim (GW (hf.rc hc)) (GV (hf.rc hc)),c,hc,hj⟩)
 ·intro h i hi
  obtain ⟨_,c,hc,hj⟩:=(this i).1 hi
  exact h c hc i hj
theorem qG {f:LC} {d e:Int} (hf:RF f) (h:dR f d=true) (hde:d<=e):dR f e=true:=by
 rw [Fs hf] at h ⊢
 exact Fq h fun j hj=>by omega
abbrev pe (V D:Int) (t:Tm):Prop:=aL true V D t=true
section
variable {bd:Bool} {vb db kd:Int}
end
section
variable {bd:Bool} {r:LC} {c kd:Int}
end
section
variable {vb db kd:Int}
end
variable {S:Type} {k:Nat}

end Go.Proofs.YtlidjlacmpaefaaGreatDoor
namespace Go.Proofs.YtlidjlacmpaefaaGreatDoor
open Go PI
set_option maxRecDepth 20000
theorem H8 {V D:Int} {t:Tm} (h:pe V D t):D<=24:=by
 cases t
 unfold pe at h
 rw [aL] at h
 simp only [Bool.true_and,aj,Bool.not_eq_true',decide_eq_false_iff_not] at h
 omega
variable {S:Type} {k:Nat}
def dT (t:Tm) (V D:Int):Int:=if V<0\/D<0\/D>24 then 2 else if aU t>200 then 62 else if aR t>20000 then 221 else if aL true V D t then 0 else 100
theorem H3 {t:Tm} (ht:In k t) (hk:F3 k) {V D:Int} (hV:V<9223372036854775808) (hD:D<1000000) (Z:Int->OS S):h_ k t V D Z=Z (dT t V D):=by
 simp only [h_,aJ hk.fu,bt,eC]
 unfold dT
 by_cases h1:V<0
 ·rw [if_pos h1,if_pos (.inl h1)]
 rw [if_neg h1]
 by_cases h2:D<0
 ·rw [if_pos h2,if_pos (.inr (.inl h2))]
 rw [if_neg h2]
 by_cases h3:D>24
 ·rw [if_pos h3,if_pos (.inr (.inr h3))]
 have hdep:=ht.dep
 rw [if_neg h3,if_neg (by omega),yD ht.1 ht.2.1]
 by_cases h4:aU t>200
 ·rw [if_pos h4,if_pos h4];rfl
 rw [if_neg h4,if_neg h4]
 by_cases h5:aR t>20000
 ·rw [if_pos h5,if_pos h5];rfl
 rw [if_neg h5,if_neg h5,show (!((0:Int)==0))=false from rfl,ax,yv t ht.1 _ ht.2.1 ⟨by omega,by omega,by omega,by omega⟩]
 cases aL true V D t<;>rfl
theorem xX {t:Tm} {V D:Int} (h:dT t V D=0):0<=V/\0<=D/\pe V D t:=by
 unfold dT at h
 split at h
 ·cases h
 split at h
 ·cases h
 split at h
 ·cases h
 split at h
 ·exact ⟨by omega,by omega,by assumption⟩
 ·cases h






structure ElimP (k:Nat) (t:Tm) (f b line:Tm) (l:LB) (y:Tm):Prop where
 so:rZ [(eT t).kids.getD 0 dE,(eT t).kids.getD 1 dE,sZ (eT t).sys]=0
 fill:Dh ((eT t).kids.getD 0 dE) ((eT t).kids.getD 1 dE) (eT t).sys= .ok f
 up:iV 0 1 (t.kids.getD 0 dE)= .ok b
 plug:GF 0 b f= .ok line
 brs:uK t.kind b (nV t) (eT t).sys= .ok l
 so2:rZ [line,ns t.kind (t.kids.getD 0 dE) (nV t) ((eT t).kids.getD 1 dE),sZ l]=0
 comp:BM line (ns t.kind (t.kids.getD 0 dE) (nV t) ((eT t).kids.getD 1 dE)) l= .ok y
 fy:eu y=0
 ff:Fm f
 fb:Fm b
 fl:Fm line
 fa:Fm (ns t.kind (t.kids.getD 0 dE) (nV t) ((eT t).kids.getD 1 dE))
 fw:Fm (sZ l)
 bs:l.map (·.face)=(eT t).sys.map (·.face)
 yin:In k y
end Go.Proofs.YtlidjlacmpaefaaGreatDoor
namespace Go.Proofs.YtlidjlacmpaefaaGreatDoor
open Go PI
set_option maxRecDepth 20000
section
variable {kd:Int}
theorem Jc (t:Tm): ∀ {V D:Int},aL true V D t=true->aL false V D t=true:=by
 induction t using iQ with
 |h kd n nm r ks sys ih1 ih2=>
  intro V D h
  have hk: ∀ {l:LT} {i:Nat},(∀x∈l,∀ {V D:Int},aL true V D x=true->aL false V D x=true)->bD true V D kd i l=true->bD false V D kd i l=true:=by
   intro l
   induction l<;>grind [bD]
  rw [aL,aj,aj,aj] at h ⊢
  refine ⟨rfl,h.2.1,hk ih1 h.2.2.1, ?_⟩
  have:=h.2.2.2
  rw [pf,bW] at this ⊢
  intro b hb
  have:=this b hb
  rw [bW] at this ⊢
  exact fun x hx=>ih2 b hb x hx (this x hx)
end
section
variable {n V D kd:Int} {u:Tm}
end
section
variable {n kd:Int} {u:Tm}
end
section
variable {f g:Int->LC->Except Int (LC)} {kd:Int}
end

variable {S:Type} {k:Nat}


section
variable {hd:Tm->(Int->OS S)->OS S} {t:Tm}
end
theorem Bv {kd D E:Int} (h:D<=E): ∀ {l:LB},bR l->l.all (dt kd D)=true->l.all (dt kd E)=true:=by
 intro l
 induction l with
 |nil=>intro _ _;rfl
 |cons b l ih=>
  intro ho hb
  obtain ⟨f,ks⟩:=b
  rw [bR,gY] at ho
  rw [List.all_cons,aj] at hb ⊢
  refine ⟨?_,ih ho.2 hb.2⟩
  have h1:=hb.1
  unfold dt at h1 ⊢
  simp only [aj,decide_eq_true_eq] at h1 ⊢
  exact ⟨h1.1,h1.2.1,qG ((oy ho.1.1.1).1 h1.2.1).1 h1.2.2 h⟩
theorem H7 (t:Tm):OkT t-> ∀ {V W D E:Int},aL false V D t=true->(W= -1\/0<=V/\V<=W)->D<=E->aL false W E t=true:=by
 induction t using iQ with
 |h kd n nm r ks sys ih1 ih2=>
  intro ht V W D E h hW hDE
  rw [OkT] at ht
  obtain ⟨o1,o2,o3,o4,o5,o6,o7⟩:=ht.1
  have hk: ∀ {l:LT} {i:Nat},(∀x∈l,OkT x-> ∀ {V W D E:Int},aL false V D x=true->(W= -1\/0<=V/\V<=W)->D<=E->aL false W E x=true)->bO l->bD false V D kd i l=true->bD false W E kd i l=true:=by
   intro l
   induction l with
   |nil=>intro i _ _ _;rw [bD]
   |cons t l ih=>
    intro i h hl ha
    rw [bO] at hl
    rw [bD,aj] at ha ⊢
    have hb:=pw kd i
    exact ⟨h t (by simp) hl.1 ha.1 (hW.imp (fun q=>by rw [q];rfl) fun q=>by unfold cA;rw [if_neg (by omega),if_neg (by omega)];omega) (by omega),ih (fun x hx=>h x (by simp [hx])) hl.2 ha.2⟩
  have hm: ∀ {l:LT},(∀x∈l,OkT x-> ∀ {V W D E:Int},aL false V D x=true->(W= -1\/0<=V/\V<=W)->D<=E->aL false W E x=true)->bO l->cj false V D kd l=true->cj false W E kd l=true:=by
   intro l
   induction l with
   |nil=>intro _ _ _;rw [cj]
   |cons t l ih=>
    intro h hl ha
    rw [bO] at hl
    rw [cj,aj] at ha ⊢
    exact ⟨h t (by simp) hl.1 ha.1 hW (by omega),ih (fun x hx=>h x (by simp [hx])) hl.2 ha.2⟩
  have hs: ∀ {l:LB},(∀b∈l,∀x∈b.kids,OkT x-> ∀ {V W D E:Int},aL false V D x=true->(W= -1\/0<=V/\V<=W)->D<=E->aL false W E x=true)->bR l->bX false V D kd l=true->bX false W E kd l=true:=by
   intro l
   induction l with
   |nil=>intro _ _ _;rw [bX]
   |cons b l ih=>
    intro h hl ha
    obtain ⟨f,ks'⟩:=b
    rw [bR,gY] at hl
    rw [bX,g7,aj] at ha ⊢
    exact ⟨hm (l:=ks') (h ⟨f,ks'⟩ (by simp)) hl.1.2 ha.1,ih (fun b hb=>h b (by simp [hb])) hl.2 ha.2⟩
  rw [aL,aj,aj,aj] at h ⊢
  refine ⟨rfl, ?_,hk ih1 ht.2.1 h.2.2.1,hs ih2 ht.2.2 h.2.2.2⟩
  have h2:=h.2.1
  unfold cJ at h2 ⊢
  simp only [aj] at h2 ⊢
  refine ⟨h2.1, ?_⟩
  have h3:=h2.2
  split
  ·rename_i c
   rw [if_pos c] at h3
   simp only [aj,decide_eq_true_eq] at h3 ⊢
   exact ⟨h3.1,h3.2.1,by omega⟩
  ·rename_i c
   rw [if_neg c] at h3
   split
   ·rename_i c
    rw [if_pos c] at h3;exact h3
   ·rename_i c
    rw [if_neg c] at h3
    split
    ·rename_i c
     rw [if_pos c,aj] at h3
     rw [aj]
     exact ⟨h3.1,qG ((iM o4).1 h3.1) h3.2 hDE⟩
    ·rename_i c
     rw [if_neg c] at h3
     split
     ·rename_i c
      rw [if_pos c,aj] at h3
      rw [aj]
      exact ⟨h3.1,qG ((oy o4).1 h3.1).1 h3.2 hDE⟩
     ·rename_i c
      rw [if_neg c,aj] at h3
      rw [aj]
      exact ⟨Bv hDE ht.2.2 h3.1,h3.2⟩
theorem H6 (t:Tm) (ht:OkT t) {V D E:Int} (h:aL false V D t=true) (hDE:D<=E):aL false (-1) E t=true:=H7 t ht h (.inl rfl) hDE
theorem Dk {t:Tm} (h:In k t) {V D:Int} (hr:dT t V D=0):Fm t:=by
 have hr':=hr
 unfold dT at hr
 split at hr
 ·cases hr
 split at hr
 ·cases hr
 split at hr
 ·cases hr
 obtain ⟨_,_,hs⟩:=xX hr'
 exact ⟨h.1,qb (by omega) (by omega) (H6 t h.1 (Jc t hs) (H8 hs))⟩
structure MayR (k:Nat) (x t:Tm) (V D:Int) (r:Tm×Bool×Int):Prop where
 DN:In k r.1
 no:r.2.1=false->r.1=dE
 ok:r.2.1=true->r.2.2=0/\dT r.1 V D=0/\r.1.kind=x.kind/\(x.kind=15->r.1.sys.map (·.face)=x.sys.map (·.face))
theorem n_ (hk:Fu k): ∃q,k=q+1:=⟨k-1,by have:4294967296<=k:=hk;omega⟩
theorem H4 (hk:Fu k) (c:Cl) (Z:Bool->OS S):mU k c [] Z=Z false:=by
 simp only [mU,aJ hk,pK,pO,sD]
 obtain ⟨q,hq⟩:=n_ hk
 rw [show ∀g:Int->OS S,nP k g c [] k 0=g (-1) from fun g=>by cases k with
  |zero=>cases hq
  |succ n=>rfl]
 rfl
theorem HJ (hk:Fu k) {f:LC} (hf:aZ f) (hl:f.length<1073741824): ∃q:Bool×Int,∀Z:Bool×Int->OS S,kK k f [] Z=Z q:=by
 have h1: ∀g:Int->OS S,kL k [f,[]] g=g (if [f,[]].all cK then 0 else 2):=fun g=>HL hk (l:=[f,[]]) (by
  intro x hx
  simp only [cu,List.not_mem_nil,or_false] at hx
  rcases hx with rfl|rfl
  ·exact ⟨hf,by omega⟩
  ·exact ⟨(fun c hc=>by cases hc),by decide⟩) (by simp) g
 by_cases ha:[f,[]].all cK=true
 ·refine ⟨(f.isEmpty,0),fun Z=> ?_⟩
  simp only [kK,aJ hk,h1,if_pos ha]
  rw [show (!((0:Int)==0))=false from rfl,ax]
  simp only [pL,aJ hk,pS,sH]
  have hu: ∀ (x:Cl) (g:Bool->OS S),mT k x [] g=g true:=fun x g=>by
   simp only [mT,aJ hk,H4 hk]
   rfl
  have hi: ∀ (m:Nat) (g:Int->OS S),jI k g [] f (m+1) 0=g (if f.isEmpty then-1 else 0):=fun m g=>by
   cases f with
   |nil=>rfl
   |cons x r=>
    have e1:decide ((0:Int)<((x::r).length:Int))=true:=decide_eq_true (by simp only [List.length_cons];omega)
    have e2:aM (x::r) 0=some x:=rfl
    simp only [jI,pn,e1,aH,e2,bB,aJ hk,hu]
    rfl
  obtain ⟨q,hq⟩:=n_ hk
  have hi2: ∀g:Int->OS S,jI k g [] f k 0=g (if f.isEmpty then-1 else 0):=fun g=>by
   have:=hi q g
   rwa [<-hq] at this
  rw [hi2]
  cases f<;>rfl
 ·refine ⟨(false,2),fun Z=> ?_⟩
  simp only [kK,aJ hk,h1,if_neg ha]
  rfl
theorem Er (hk:Fu k) {hd:bp S} {s:LT} (hl:s.length<1073741824) (h: ∀x∈s,∃b,∀g,hd x g=g b):
  ∀ (r p:LT) (m:Nat),s=p++r->r.length<m-> ∃n:Int,∀Z:Int->OS S,il hd k Z s m (p.length:Int)=Z n:=by
 intro r
 induction r with
 |nil=>
  intro p m hs hm
  obtain ⟨m,rfl,hm'⟩:=aK hm
  refine ⟨-1,fun Z=> ?_⟩
  have e1:decide ((p.length:Int)<(s.length:Int))=false:=decide_eq_false (by simp [hs])
  simp only [il,kr,e1,ax]
 |cons x r ih=>
  intro p m hs hm
  obtain ⟨m,rfl,hm'⟩:=aK hm
  obtain ⟨e1,e2,e3,e4⟩:=bK hs (by omega)
  obtain ⟨b,hb⟩:=h x (by rw [hs];simp)
  obtain ⟨n,hn⟩:=ih (p++[x]) m e4 hm'
  cases b with
  |true=>exact ⟨p.length,fun Z=>by simp only [il,kr,e1,aH,e2,bB,bt,hb]⟩
  |false=>exact ⟨n,fun Z=>by simp only [il,kr,e1,aH,e2,bB,bt,hb,ax,e3,hn]⟩
theorem yo (hk:Fu k) {hd:bp S} {s:LT} (hl:s.length<1073741824) (h: ∀x∈s,∃b,∀g,hd x g=g b): ∃b,∀Z:Bool->OS S,ji hd k s Z=Z b:=by
 obtain ⟨n,hn⟩:=Er hk hl h s [] k rfl (by have:4294967296<=k:=hk;omega)
 refine ⟨decide (n>=0),fun Z=> ?_⟩
 simp only [ji,aJ hk,pP,sE]
 exact hn _
theorem HQ (hk:Fu k) {hd:bp S} {b:Br Tm} (hf:aZ b.face) (hl1:b.face.length<1073741824) (hl:b.kids.length<1073741824) (h: ∀x∈b.kids,∃q,∀g,hd x g=g q): ∃q,∀Z:Bool->OS S,gn hd k b Z=Z q:=by
 obtain ⟨⟨x,e⟩,hx⟩:=HJ (S:=S) hk hf hl1
 obtain ⟨q,hq⟩:=yo hk hl h
 cases he:(e==0) with
 |false=>exact ⟨q,fun Z=>by simp only [gn,aJ hk,hx,he,ax,hq]⟩
 |true=>cases x with
  |true=>exact ⟨true,fun Z=>by simp only [gn,aJ hk,hx,he,aH]⟩
  |false=>exact ⟨q,fun Z=>by simp only [gn,aJ hk,hx,he,aH,ax,hq]⟩
theorem Et (hk:Fu k) {hd:bp S} {s:LB} (hl:s.length<1073741824) (h: ∀x∈s,∃b,∀g:Bool->OS S,gn hd k x g=g b):
  ∀ (r p:LB) (m:Nat),s=p++r->r.length<m-> ∃n:Int,∀Z:Int->OS S,io hd k Z s m (p.length:Int)=Z n:=by
 intro r
 induction r with
 |nil=>
  intro p m hs hm
  obtain ⟨m,rfl,hm'⟩:=aK hm
  refine ⟨-1,fun Z=> ?_⟩
  have e1:decide ((p.length:Int)<(s.length:Int))=false:=decide_eq_false (by simp [hs])
  simp only [io,kw,e1,ax]
 |cons x r ih=>
  intro p m hs hm
  obtain ⟨m,rfl,hm'⟩:=aK hm
  obtain ⟨e1,e2,e3,e4⟩:=bK hs (by omega)
  obtain ⟨b,hb⟩:=h x (by rw [hs];simp)
  obtain ⟨n,hn⟩:=ih (p++[x]) m e4 hm'
  cases b with
  |true=>exact ⟨p.length,fun Z=>by simp only [io,kw,e1,aH,e2,bB,aJ hk,hb]⟩
  |false=>exact ⟨n,fun Z=>by simp only [io,kw,e1,aH,e2,bB,aJ hk,hb,ax,e3,hn]⟩
theorem Hs (hk:Fu k) {hd:bp S} {s:LB} (hl:s.length<1073741824) (h: ∀x∈s,∃b,∀g:Bool->OS S,gn hd k x g=g b): ∃b,∀Z:Bool->OS S,m_ hd k s Z=Z b:=by
 obtain ⟨n,hn⟩:=Et hk hl h s [] k rfl (by have:4294967296<=k:=hk;omega)
 refine ⟨decide (n>=0),fun Z=> ?_⟩
 simp only [m_,aJ hk,pR,sG]
 exact hn _
theorem yA (t:Tm):OkT t-> ∀ {k:Nat},Fd k (aU t)-> ∃b,∀Z:Bool->OS S,dA k t Z=Z b:=by
 induction t using gb with
 |h t ih1 ih2=>
  intro ht k hk
  obtain ⟨q,rfl,hq,hf⟩:=hk.pos' (fO t)
  obtain ⟨o1,o2,o3,o4,o5,o6,o7⟩:=ht.no
  obtain ⟨b1,h1⟩:=yo (S:=S) hq (hd:=dA q) o6 fun y hy=>ih1 y hy (ht.ki hy) (hf _ (fh hy))
  obtain ⟨b2,h2⟩:=Hs (S:=S) hq (hd:=dA q) o7 fun b hb=>HQ hq (ht.bi hb).1.1 (ht.bi hb).1.2.1 (ht.bi hb).1.2.2 fun y hy=>ih2 b hb y hy ((ht.bi hb).2 y hy) (hf _ (gu hb hy))
  cases b1 with
  |true=>exact ⟨true,fun Z=>by simp only [dA,sm,aJ hq,h1,aH]⟩
  |false=>exact ⟨b2,fun Z=>by simp only [dA,sm,aJ hq,h1,ax,h2]⟩
def gg (k:Nat) (defs:List Df):Prop:=defs.length<1073741824/\ ∀d∈defs,In k d.body
theorem jY (hk:F3 k) {t:Tm} (ht:In k t) {V D:Int} (hV:V<9223372036854775808) (Z:Int->OS S):h_ k t V D Z=Z (dT t V D):=by
 by_cases hD:D<1000000
 ·exact H3 ht hk hV hD Z
 ·have e:dT t V D=2:=by
   unfold dT
   rw [if_pos (by omega)]
  rw [e]
  simp only [h_]
  by_cases hv:V<0
  ·rw [decide_eq_true hv,aH]
  rw [decide_eq_false hv,ax,decide_eq_false (show ¬D<0 by omega),ax,decide_eq_true (show D>24 by omega),aH]
theorem HR (hk:F3 k) {d:Df} (hd:In k d.body): ∃b,∀Z:Bool->OS S,kN k d Z=Z b:=by
 obtain ⟨b,hb⟩:=yA (S:=S) d.body hd.1 hd.2.1
 cases he:(dT d.body 0 0==0) with
 |true=>exact ⟨b,fun Z=>by simp only [kN,aJ hk.fu,bt,jY hk hd (show (0:Int)<9223372036854775808 by omega),he,aH,hb]⟩
 |false=>exact ⟨false,fun Z=>by simp only [kN,aJ hk.fu,bt,jY hk hd (show (0:Int)<9223372036854775808 by omega),he,ax]⟩
theorem Es (hk:F3 k) {s:List Df} (hl:s.length<1073741824) (h: ∀x∈s,In k x.body):
  ∀ (r p:List Df) (m:Nat),s=p++r->r.length<m-> ∃n:Int,∀Z:Int->OS S,im k Z s m (p.length:Int)=Z n:=by
 intro r
 induction r with
 |nil=>
  intro p m hs hm
  obtain ⟨m,rfl,hm'⟩:=aK hm
  refine ⟨-1,fun Z=> ?_⟩
  have e1:decide ((p.length:Int)<(s.length:Int))=false:=decide_eq_false (by simp [hs])
  simp only [im,ku,e1,ax]
 |cons x r ih=>
  intro p m hs hm
  obtain ⟨m,rfl,hm'⟩:=aK hm
  obtain ⟨e1,e2,e3,e4⟩:=bK hs (by omega)
  obtain ⟨b,hb⟩:=HR (S:=S) hk (h x (by rw [hs];simp))
  obtain ⟨n,hn⟩:=ih (p++[x]) m e4 hm'
  cases b with
  |true=>exact ⟨p.length,fun Z=>by simp only [im,ku,e1,aH,e2,bB,aJ hk.fu,p7,hb]⟩
  |false=>exact ⟨n,fun Z=>by simp only [im,ku,e1,aH,e2,bB,aJ hk.fu,p7,hb,ax,e3,hn]⟩
theorem Hr (hk:F3 k) {s:List Df} (h:gg k s): ∃b,∀Z:Bool->OS S,m9 k s Z=Z b:=by
 have hfu:Fu k:=hk.fu
 obtain ⟨n,hn⟩:=Es (S:=S) hk h.1 h.2 s [] k rfl (by have:=h.1;have:4294967296<=k:=hfu;omega)
 refine ⟨decide (n>=0),fun Z=> ?_⟩
 simp only [m9,aJ hfu,pQ,sF]
 exact hn _
theorem E0 (hk:Fu k) {vars dims fuel:Int} {defs:List Df} (b0:LT) (hd:dims<=24):
  ∀ (n m:Nat) (b:List (LC)) (v:Int),0<=v->v+n=dims->b.length+n<=1000->n<m-> ∃b1,∀Z:Int×Int×BA×LC×LT×LB×Int×Int×Int×List Df×Int×Int×Bool×LT×List (LC)->OS S,ij k Z vars dims fuel defs b0 m b v=Z (0,0,aY,[],[],[],fuel,0,0,defs,vars,dims,false,b0,b1):=by
 intro n
 induction n with
 |zero=>
  intro m b v h0 hv hb hm
  obtain ⟨m,rfl,hm'⟩:=aK hm
  refine ⟨b,fun Z=> ?_⟩
  have e1:decide ((v:Int)<dims)=false:=decide_eq_false (by omega)
  simp only [ij,mo,e1,ax]
 |succ n ih=>
  intro m b v h0 hv hb hm
  obtain ⟨m,rfl,hm'⟩:=aK hm
  have e1:decide ((v:Int)<dims)=true:=decide_eq_true (by omega)
  have e2:ay .i64 (v+1)=v+1:=s_ (by omega) (by omega)
  have hdim: ∃q,∀g:LC×Int->OS S,kM k v g=g q:=⟨_,fun g=>Ht hk v g⟩
  obtain ⟨q,hq⟩:=hdim
  obtain ⟨b1,h1⟩:=ih m (b++[q.1]) (v+1) (by omega) (by omega) (by simp;omega) (by omega)
  refine ⟨b1,fun Z=> ?_⟩
  simp only [ij,mo,e1,aH,aJ hk,hq]
  rw [gN (by simp;omega)]
  rw [e2]
  exact h1 Z
theorem EZ (hk:Fu k) {vars dims fuel:Int} {defs:List Df} (hd0:0<=dims) (hd:dims<=24) (hv2:vars<=200):
  ∀ (n m:Nat) (b:LT) (v:Int),0<=v->v+n=vars->b.length+n<=1000->n<m-> ∃b0 b1,∀Z:Int×Int×BA×LC×LT×LB×Int×Int×Int×List Df×Int×Int×Bool×LT×List (LC)->OS S,jB k Z vars dims fuel defs m b v=Z (0,0,aY,[],[],[],fuel,0,0,defs,vars,dims,false,b0,b1):=by
 intro n
 induction n with
 |zero=>
  intro m b v h0 hv hb hm
  obtain ⟨m,rfl,hm'⟩:=aK hm
  have e1:decide ((v:Int)<vars)=false:=decide_eq_false (by omega)
  have hkk:4294967296<=k:=hk
  obtain ⟨b1,h1⟩:=E0 (S:=S) hk (vars:=vars) (fuel:=fuel) (defs:=defs) b hd dims.toNat k [] 0 (by omega) (by omega) (by simp;omega) (by omega)
  refine ⟨b,b1,fun Z=> ?_⟩
  simp only [jB,kl,e1,ax,h1]
 |succ n ih=>
  intro m b v h0 hv hb hm
  obtain ⟨m,rfl,hm'⟩:=aK hm
  have e1:decide ((v:Int)<vars)=true:=decide_eq_true (by omega)
  have e2:ay .i64 (v+1)=v+1:=s_ (by omega) (by omega)
  obtain ⟨b0,b1,h1⟩:=ih m (b++[Tm.mk 1 v aY [] [] []]) (v+1) (by omega) (by omega) (by simp;omega) (by omega)
  refine ⟨b0,b1,fun Z=> ?_⟩
  simp only [jB,kl,e1,aH]
  rw [gN (by simp;omega)]
  rw [e2]
  exact h1 Z
theorem H2 (hk:Fu k) {vars dims fuel:Int} {defs:List Df} (hv0:0<=vars) (hv2:vars<=200) (hd0:0<=dims) (hd:dims<=24):
  ∃b0 b1,∀Z:Int×Int×BA×LC×LT×LB×Int×Int×Int×List Df×Int×Int×Bool×LT×List (LC)->OS S,m8 k defs vars dims fuel Z=Z (0,0,aY,[],[],[],fuel,0,0,defs,vars,dims,false,b0,b1):=by
 have hkk:4294967296<=k:=hk
 obtain ⟨b0,b1,h1⟩:=EZ (S:=S) hk (fuel:=fuel) (defs:=defs) hd0 hd hv2 vars.toNat k [] 0 (by omega) (by omega) (by simp;omega) (by omega)
 exact ⟨b0,b1,fun Z=>by
  simp only [m8,sn]
  exact h1 Z⟩
def df (n:Int):Prop:=n≠1/\n≠6/\n≠9/\n≠10/\n≠13/\n≠22/\n≠27/\n≠28/\n≠18/\n≠2/\n≠21/\n≠26/\n≠14/\n≠15/\n≠16/\n≠17
section
variable {c0 c1:Int} {c2:BA} {c3:LC} {c4:LT} {c5:LB} {c6 c7 c8:Int} {c9:List Df} {c10 c11:Int} {s0:LT} {s1:List (LC)}
theorem HW (hk:Fu k) {t:Tm} (h:df t.kind) (b:Bool) (Z:Pan (Int×Int) (Int×Int×BA×LC×LT×LB×Bool×Int)->OS S):
  hU k t.kind t.n t.name t.r t.kids t.sys c0 c1 c2 c3 c4 c5 c6 c7 c8 c9 c10 c11 b s0 s1 Z=Z (.ok (t.kind,t.n,t.name,t.r,t.kids,t.sys,false,c6)):=by
 obtain ⟨h1,h2,h3,h4,h5,h6,h7,h8,h9,h10,h11,h12,h13,h14,h15,h16⟩:=h
 simp only [hU,pG,aJ hk,beq_false_of_ne h1,beq_false_of_ne h2,beq_false_of_ne h3,beq_false_of_ne h4,beq_false_of_ne h5,beq_false_of_ne h6,beq_false_of_ne h7,beq_false_of_ne h8,beq_false_of_ne h9,
  beq_false_of_ne h10,beq_false_of_ne h11,beq_false_of_ne h12,beq_false_of_ne h13,beq_false_of_ne h14,beq_false_of_ne h15,beq_false_of_ne h16,ax]
theorem HT (hk:Fu k) {t:Tm} (h:df t.kind) (Z:Pan (Int×Int×Bool) (Tm×Int×Bool)->OS S):
  m7 k t.kind t.n t.name t.r t.kids t.sys c0 c1 c2 c3 c4 c5 c6 c7 c8 c9 c10 c11 false s0 s1 Z=Z (.ok (t,c6,false)):=by
 have hn:=h.1
 obtain ⟨q,hq⟩:=n_ hk
 have hst: ∀ (x:Tm) (g:Tm->OS S),hZ k x c0 c1 c2 c3 c4 c5 c6 c7 c8 c9 c10 c11 false s0 s1 g=g x:=fun x g=>by
  simp only [hZ,sk]
  cases k with
  |zero=>cases hq
  |succ n=>simp only [nO,pm,bt]
 have hb: ∀m,ln k Z c0 c1 c10 c11 c2 c3 c4 c5 c7 c8 c9 s0 s1 (m+1) false c6 t.kind t.n t.name t.r t.kids t.sys=Z (.ok (t,c6,false)):=fun m=>by
  simp only [ln,pk,ax,beq_false_of_ne hn,Bool.not_false,aH,aJ hk,HW hk h,Pan.elim,hM,je,bt,hst]
  cases t;rfl
 simp only [m7,si]
 have:=hb q
 rwa [<-hq] at this
theorem HO (hk:F3 k) {t:Tm} (ht:In k t) (h:df t.kind) (hf:eu t=0) (Z:Int×Int×Int×BA×LC×LT×LB×Int×Bool->OS S):
  m6 k t c0 c1 c2 c3 c4 c5 c6 c7 c8 c9 c10 c11 false s0 s1 Z=Z (0,t.kind,t.n,t.name,t.r,t.kids,t.sys,c6,false):=by
 simp only [m6,bt,yp t ht.1 _ ht.2.1,aJ hk.fu,pH,HT hk.fu h,Pan.elim,Hv ht.1 ht.2.1 ht.dep,hf]
end
theorem HS (hk:F3 k) {defs:List Df} (hD:gg k defs) {t:Tm} (ht:In k t) (h:df t.kind) {V D:Int} (hV:V<=200):
  (∃e:Int,e≠0/\ ∀Z:Int×Int×BA×LC×LT×LB×Int×Int×Int×Int->OS S,cH k defs t V D 5 Z=Z (0,0,aY,[],[],[],0,0,0,e))\/
  ∀Z:Int×Int×BA×LC×LT×LB×Int×Int×Int×Int->OS S,cH k defs t V D 5 Z=Z (t.kind,t.n,t.name,t.r,t.kids,t.sys,5,0,0,0):=by
 have hfu:=hk.fu
 by_cases hr:dT t V D=0
 case neg=>exact .inl ⟨dT t V D,hr,fun Z=>by simp only [cH,j0,aJ hfu,bt,jY hk ht (show V<9223372036854775808 by omega),beq_false_of_ne hr,Bool.not_false,aH]⟩
 obtain ⟨hv0,hd0,_⟩:=xX hr
 have hd24:D<=24:=by
  unfold dT at hr
  split at hr
  ·cases hr
  ·omega
 have fm:=Dk ht hr
 obtain ⟨b1,h1⟩:=Hr (S:=S) hk hD
 obtain ⟨b2,h2⟩:=yA (S:=S) t ht.1 ht.2.1
 obtain ⟨x0,x1,h3⟩:=H2 (S:=S) hfu (fuel:=5) (defs:=defs) hv0 hV hd0 hd24
 have hj: ∀ (Z:Int×Int×BA×LC×LT×LB×Int×Int×Int×Int->OS S) r5 r4,nN k Z r5 r4 k=kj k Z r5 r4:=fun Z r5 r4=>by
  obtain ⟨q,hq⟩:=n_ hfu
  have: ∀m,nN k Z r5 r4 (m+1)=kj k Z r5 r4:=fun m=>rfl
  have:=this q
  rwa [<-hq] at this
 have e0:(!((0:Int)==0))=false:=rfl
 have e5:decide ((5:Int)<0)=false:=rfl
 have e6:decide ((5:Int)>100000)=false:=rfl
 cases b1 with
 |true=>exact .inl ⟨61,by decide,fun Z=>by simp only [cH,j0,aJ hfu,bt,jY hk ht (show V<9223372036854775808 by omega),hr,e0,ax,e5,e6,h1,aH]⟩
 |false=>
  cases b2 with
  |true=>exact .inl ⟨61,by decide,fun Z=>by simp only [cH,j0,aJ hfu,bt,jY hk ht (show V<9223372036854775808 by omega),hr,e0,ax,e5,e6,h1,h2,aH]⟩
  |false=>
   refine .inr fun Z=> ?_
   simp only [cH,j0,aJ hfu,bt,jY hk ht (show V<9223372036854775808 by omega),hr,e0,ax,e5,e6,h1,h2,h3,HO hk ht h fm.2,hj,kj]
   have:Tm.mk t.kind t.n t.name t.r t.kids t.sys=t:=by cases t;rfl
   rw [this,yp t ht.1 _ ht.2.1]
theorem HM (hk:F3 k) {t:Tm} (ht:In k t) (Z:Bool->OS S): ∃c,mX k t Z=Z c:=by
 simp only [mX,bt]
 obtain ⟨w,h1,h2,h3,h4⟩:=yB t ht.1 100 (by unfold Mo;omega) (fun r1=>Z (decide (r1>100))) ht.2.1
 exact ⟨_,h1⟩
theorem HN (hk:F3 k) {t:Tm} (ht:In k t) (Z:Bool->OS S): ∃c,mY k t Z=Z c:=by
 simp only [mY,bt]
 obtain ⟨w,h1,h2,h3,h4⟩:=yB t ht.1 80 (by unfold Mo;omega) (fun r1=>Z (decide (r1>80))) ht.2.1
 exact ⟨_,h1⟩
theorem ES (hk:F3 k) (Z:Bool->OS S) {l:List Df} (hl:gg k l):
  ∀ (r p:List Df) (m:Nat),l=p++r->r.length<m-> ∃c,ig k Z l m (p.length:Int)=Z c:=by
 intro r
 induction r with
 |nil=>
  intro p m h hm
  obtain ⟨m,rfl,hm'⟩:=aK hm
  have e1:decide ((p.length:Int)<(l.length:Int))=false:=decide_eq_false (by simp [h])
  exact ⟨false,by simp only [ig,mn,e1,ax]⟩
 |cons x r ih=>
  intro p m h hm
  obtain ⟨m,rfl,hm'⟩:=aK hm
  have hll:=hl.1
  obtain ⟨e1,e2,e3,e4⟩:=bK h (by omega)
  have hi:=hl.2 x (by rw [h];simp)
  simp only [ig,mn,e1,aH,e2,bB,aJ hk.fu,bt,e3]
  obtain ⟨c,c1⟩:=HM hk hi (fun r2=>aa r2 (Z true) (aa (decide ((x.name.size:Int)>50)) (Z true) (ig k Z l m ((p++[x]).length:Int))))
  rw [c1]
  cases c with
  |true=>exact ⟨true,aH _ _⟩
  |false=>
   rw [ax]
   cases hs:decide ((x.name.size:Int)>50) with
   |true=>exact ⟨true,aH _ _⟩
   |false=>rw [ax];exact ih (p++[x]) m e4 hm'
theorem HP (hk:F3 k) {l:List Df} (hl:gg k l) (Z:Bool->OS S): ∃c,mW k l Z=Z c:=by
 simp only [mW,sh]
 have hfu:4294967296<=k:=hk.fu
 have hll:=hl.1
 cases h8:decide ((l.length:Int)>8) with
 |true=>exact ⟨true,aH _ _⟩
 |false=>rw [ax];exact ES hk Z hl l [] k rfl (by omega)
theorem EC (Z:List Df->OS S) {l:List Df} (hl:l.length<1073741824):
  ∀ (r p:List Df) (m:Nat),l=p++r->r.length<m->jA k Z l m p (p.length:Int)=Z l:=by
 intro r
 induction r with
 |nil=>
  grind [aK,jA,ml,ax]
 |cons x r ih=>
  intro p m h hm
  obtain ⟨m,rfl,hm'⟩:=aK hm
  obtain ⟨e1,e2,e3,e4⟩:=bK h (by omega)
  grind [jA,ml,aH,p7,gN]
theorem HI (hk:F3 k) {l:List Df} (hl:l.length<1073741824) (Z:List Df->OS S):dz k l Z=Z l:=by
 simp only [dz,sg]
 have hfu:4294967296<=k:=hk.fu
 exact EC Z hl l [] k rfl (by omega)
theorem Hz (hk:F3 k) {defs:List Df} (hD:gg k defs) {t:Tm} (ht:In k t) {V:Int} (hV6:cX V) {D:Int} (hD6:cX D) (Z:Bool->OS S):mZ k defs t V D Z=Z true:=by
 have hfu:=hk.fu
 simp only [mZ,rf,Bool.not_true,ax,aJ hfu,bt]
 generalize hX:(fun r2:Bool=>aa r2 (Z true) _)=X
 obtain ⟨c,hc⟩:=HN hk ht X
 rw [hc,<-hX]
 cases c with
 |true=>exact aH _ _
 |false=>
 show aa false (Z true) _=Z true
 rw [ax]
 generalize hY:(fun r2:Bool=>aa r2 (Z true) _)=Y
 obtain ⟨c,hc⟩:=HP hk hD Y
 rw [hc,<-hY]
 cases c with
 |true=>exact aH _ _
 |false=>
 show aa false (Z true) _=Z true
 rw [ax]
 by_cases hV:V>200
 ·rw [decide_eq_true hV,aH]
 rw [decide_eq_false hV,ax]
 have hV':V<=200:=by omega
 have eta:Tm.mk t.kind t.n t.name t.r t.kids t.sys=t:=by cases t;rfl
 simp only [HI hk hD.1]
 have main: ∀ {n:Int},t.kind=n->df n-> ∀A:OS S,aa (t.kind==n) (cH k defs t V D 5 fun r5=>aa (!(r5.2.2.2.2.2.2.2.2.2==0)) (Z true) (bY k (Tm.mk r5.1 r5.2.1 r5.2.2.1 r5.2.2.2.1 r5.2.2.2.2.1 r5.2.2.2.2.2.1) t fun r6=>aa r6 (aa (r5.2.2.2.2.2.2.1==5) (aa (r5.2.2.2.2.2.2.2.1==0) (aa (decide ((r5.2.2.2.2.2.2.2.2.1:Int)>=0)) (Z (decide ((r5.2.2.2.2.2.2.2.2.1:Int)<=1))) (Z false)) (Z false)) (Z false)) (Z false))) A=Z true:=by
  intro n hn hs A
  rw [hn,beq_self_eq_true,aH]
  rcases HS (S:=S) hk hD ht (hn▸hs) (D:=D) hV' with ⟨e,he,h1⟩|h1
  ·rw [h1,show (!((0,0,aY,([]:LC),([]:LT),([]:LB),(0:Int),(0:Int),(0:Int),e).2.2.2.2.2.2.2.2.2==0))=true by simp [he],aH]
  ·rw [h1]
   simp only [eta,HZ t ht.1 _ ht.2.1]
   rfl
 by_cases h3:t.kind=3
 ·exact main h3 (by unfold df;decide) _
 rw [beq_false_of_ne h3,ax]
 by_cases h4:t.kind=4
 ·exact main h4 (by unfold df;decide) _
 rw [beq_false_of_ne h4,ax]
 by_cases h7:t.kind=7
 ·exact main h7 (by unfold df;decide) _
 rw [beq_false_of_ne h7,ax]
 by_cases h5:t.kind=5
 ·exact main h5 (by unfold df;decide) _
 rw [beq_false_of_ne h5,ax]
 by_cases h8:t.kind=8
 ·exact main h8 (by unfold df;decide) _
 rw [beq_false_of_ne h8,ax]
 by_cases h12:t.kind=12
 ·exact main h12 (by unfold df;decide) _
 rw [beq_false_of_ne h12,ax]
 by_cases h11:t.kind=11
 ·exact main h11 (by unfold df;decide) _
 rw [beq_false_of_ne h11,ax]
 by_cases h19:t.kind=19
 ·exact main h19 (by unfold df;decide) _
 rw [beq_false_of_ne h19,ax]
 by_cases h20:t.kind=20
 ·exact main h20 (by unfold df;decide) _
 rw [beq_false_of_ne h20,ax]
 by_cases h23:t.kind=23
 ·exact main h23 (by unfold df;decide) _
 rw [beq_false_of_ne h23,ax]
 by_cases h24:t.kind=24
 ·exact main h24 (by unfold df;decide) _
 rw [beq_false_of_ne h24,ax]
 by_cases h25:t.kind=25
 ·exact main h25 (by unfold df;decide) _
 rw [beq_false_of_ne h25,ax]
end Go.Proofs.YtlidjlacmpaefaaGreatDoor
namespace Go.Proofs.YtlidjlacmpaefaaGreatDoor
open Go PI Go.ChangeShapes Go.WideShapes Go.ChangeAt Go.RowKit
set_option maxRecDepth 100000
section
variable {H:Type} {enc:TypeId×Value->H} {w:World} {base:Nat} {spare:Nat->Bool} {held:Bool} {o:Obj} {N:az} {g:Gh UU}
def pc (x:Df) (d:DataW H):Prop:=QT x.body d
theorem Gu (hN: ∀b o,¬N b o) (n:Nat) (cs:List Value) (d:DataW H) (pl:List MemPlace) (h:eZ enc w base spare held n 43 cs=some (d,pl)): ∃x:EL ET.G,g6 o w N g ET.G x cs/\pc (show Df from x) d:=by
 have c9:Tryz.prog.cellsOf 9=1:=by kernel_rfl
 have cT:Tryz.prog.cellsOf 27=6:=by kernel_rfl
 cases n with
 |zero=>cases h
 |succ n=>
  obtain ⟨xs,m,hm,hx,hl,hlen,hf⟩:=DataW.trod_struct Tryz.underlying43 h
  obtain rfl:n=m:=by omega
  injection hx with hx _
  subst hx
  have hl7:cs.length=7:=hl.trans (by kernel_rfl)
  match cs,hl7,xs,hlen with
  |[a0,a1,a2,a3,a4,a5,a6],_,[y0,y1],_=>
  have h0:=hf 0 _ rfl
  have h1:=hf 1 _ rfl
  simp [c9,cT] at h0 h1
  obtain ⟨s,e0,k0,_⟩:=DataW.trod_string Tryz.underlying9 h0
  obtain rfl:a0= .string s:=by simpa using e0
  obtain ⟨t,hr,hq⟩:=(wt (o:=o) (g:=g) hN n).1 _ _ _ h1
  refine ⟨(⟨s,show Tm from t⟩:Df),fun k p hp=> ?_, ?_⟩
  ·cases k with
   |zero=>cases hp;exact ⟨_,rfl,.str _⟩
   |succ k=>
    obtain ⟨v,hv,hw⟩:=hr k p (by
     revert hp
     generalize (show Tm from t)=u
     intro hp
     cases u
     exact hp)
    exact ⟨v,hv,hw⟩
  ·obtain ⟨q1,q2⟩:=hq
   unfold pc QT
   simp only [ek,List.map_nil,Rows.uptoBulk,Rows.uptoBulkAll]
   exact ⟨by show aR (show Tm from t)<=_;omega,fun hb=>q2 (by omega)⟩
theorem Bf (hN: ∀b o,¬N b o) {W:World} {base:Nat} {v:Value} {d:DataW H} {ps:List MemPlace} (hv:Value.okWide Tryz.prog W .any base 22 v) (h:DataW.Trod enc Tryz.prog w 0 spare held 22 v d ps):
  ∃l:List Df,Rep (LL o) w N g v (f_ l .none)/\l.length+1<=Rows.uptoBulk d/\ ∀x∈l,aR x.body<=Rows.uptoBulk d/\(Rows.uptoBulk d<1073741824->OkT x.body):=by
 obtain ⟨a,len,cap,rfl⟩:=okWide_slice Tryz.underlying22 hv
 obtain ⟨n,hn⟩:=h
 cases n with
 |zero=>cases hn
 |succ n=>
  obtain ⟨c,l,ds,hc,hr,hl,hq,hb⟩:=nZ (e:=ET.G) (Q:=fun x d=>pc (show Df from x) d) hN Tryz.underlying22 (by kernel_rfl) (fun cs d pl h=>Gu hN n cs d pl h) hn
  obtain rfl:c= .slice a len cap:=by simpa [Value.cells] using hc.symm
  have hall:=mK (l:=ds)
  have hl': @dH Df l=ds.length:=hl
  refine ⟨l,hr,by omega,fun x hx=> ?_⟩
  obtain ⟨i,hi⟩:=List.getElem?_of_mem hx
  have hlt:i<ds.length:=by rw [<-hl];exact (bS.1 hi).1
  have hx2:QT (Df.body x) ds[i]:=hq i x _ hi (bP hlt)
  obtain ⟨q1,q2⟩:=hx2
  have hle: ∀ (l:List (DataW H)) (i:Nat) (h:i<l.length),Rows.uptoBulk l[i]<=Rows.uptoBulkAll l:=by
   intro l
   induction l with
   |nil=>intro i h;cases h
   |cons y l ih=>
    intro i h
    rw [Rows.uptoBulkAll]
    cases i with
    |zero=>simp
    |succ i=>have:=ih i (by simpa using h);simp;omega
  have:=hle ds i hlt
  exact ⟨by omega,fun h=>q2 (by omega)⟩
end
set_option maxHeartbeats 4000000
theorem DK {k:Nat} (hk:4296016872<=k) {H:Type} {t:Tm} {d:DataW H} (h:QT t d) (hb:Rows.uptoBulk d<=1048576):In k t:=by
 have h1:=h.1
 have h2:=pV t
 exact ⟨h.2 (by omega),by unfold Fd;omega,by omega⟩
theorem BU {k:Nat} (hk:4296016872<=k) {H:Type} {l:List Df} {d:DataW H} (h1:l.length+1<=Rows.uptoBulk d) (h: ∀x∈l,aR x.body<=Rows.uptoBulk d/\(Rows.uptoBulk d<1073741824->OkT x.body)) (hb:Rows.uptoBulk d<=1048576):gg k l:=
 ⟨by omega,fun x hx=>by
  obtain ⟨q1,q2⟩:=h x hx
  have h2:=pV x.body
  exact ⟨q2 (by omega),by unfold Fd;omega,by omega⟩⟩
theorem tw {H:Type} {enc:TypeId×Value->H} {w:World} {spare:Nat->Bool} {held:Bool} {o:Obj} {N:az} {g:Gh UU} (hN: ∀b o,¬N b o) {W:World} {base:Nat} {v:Value} {d:DataW H} {ps:List MemPlace} (hv:Value.okWide Tryz.prog W .any base 3 v) (h:DataW.Trod enc Tryz.prog w 0 spare held 3 v d ps):
  ∃n:Int,Rep (LL o) w N g v (.int .i64 n)/\cX n:=by
 obtain ⟨n,rfl⟩:=okWide_int Tryz.underlying3 hv
 obtain ⟨q,hq⟩:=h
 obtain ⟨z,hz,hi⟩:=qY hq
 obtain rfl:n=z:=by simpa [Value.cells] using hz
 exact ⟨n,.int _ _,hi⟩
theorem aO (q:Nat) {t0:List Df} {a1 b1:Int} {c1:ByteArray} {d1:List Cl} {e1:List Tm} {f1:List (Br Tm)} {t2:Int} {t3:Int}:ov (S:=Out UU) q [f_ t0 .none,.agg (dh ET.T (Tm.mk a1 b1 c1 d1 e1 f1)),.int .i64 t2,.int .i64 t3] [] some=ab q (mZ q t0 (Tm.mk a1 b1 c1 d1 e1 f1) t2 t3) fun r=>some (Out.ret (U:=UU) (.bool r) []):=by kernel_rfl
theorem E7 {j:Nat} (hF:F3 (j+1)) {t0:List Df} (h0:gg (j+1) t0) {t1:Tm} (h1:In (j+1) t1) {t2:Int} (h2:cX t2) {t3:Int} (h3:cX t3):ov (S:=Out UU) (j+1) [f_ t0 .none,.agg (dh ET.T t1),.int .i64 t2,.int .i64 t3] [] some=some (.ret (.bool true) []):=by
 obtain ⟨a1,b1,c1,d1,e1,f1⟩:=t1
 exact (aO (j+1)).trans ((tM (by omega) _ _).trans (Hz hF h0 h1 h2 h3 fun r=>some (Out.ret (U:=UU) (.bool r) [])))
theorem E6 {k:Nat} (hk:4296016872<=k) {o:Obj} (ho:aw o) {t0:List Df} (h0:gg k t0) {t1:Tm} (h1:In k t1) {t2:Int} (h2:cX t2) {t3:Int} (h3:cX t3):
  bL (LL o) 3 [f_ t0 .none,.agg (dh ET.T t1),.int .i64 t2,.int .i64 t3] [] (.ret (.bool true) []):=by
 have hF:F3 k:=by unfold F3;omega
 obtain ⟨j,rfl⟩: ∃j,k=j+1:=⟨k-1,by omega⟩
 obtain ⟨out,hout,hx⟩:=IU (S:=Out UU) o ho (j+1) [f_ t0 .none,.agg (dh ET.T t1),.int .i64 t2,.int .i64 t3] [] some (.ret (.bool true) []) (E7 hF h0 h1 h2 h3)
 injection hx with hx
 exact hx▸hout
theorem E5 (H:Type) (enc:TypeId×Value->H) (W:World) (base:Nat) (args:Array Value) (ds gs:List (DataW H)) (before:List MemPlace)
  (hval: ∀ (j:Nat) t v,Tryz.f3.params[j]? =some t->args[j]? =some v->Value.okWide Tryz.prog W .any base t v)
  (hW:DataW.Whole enc Tryz.prog Tryz.f3.params.toList Rows.machStillSpec.vars false W args.toList ds gs before) (hL:laidMetH Tryz.prog Rows.machStillRow.laid W) (hb:Rows.uptoBulkAll (ds++gs)<=1048576):
  Calls Tryz.prog 3 args W fun e W'=> ∃v,e= .returned v/\Rows.machStillSpec.post enc Tryz.prog Tryz.f3 false true false false W args v W':=by
 have hW':=hW
 obtain ⟨p,q,hA0,hV,rfl,hfz,hnd⟩:=hW
 have hA:DataW.TrodAll enc Tryz.prog W 0 (fun _=>true) true Tryz.f3.params.toList args.toList ds p:=hA0
 rw [Tryz.params3] at hA hval
 obtain ⟨v0,vs0,d0,ds0,p0,q0,hargs,rfl,rfl,h0,r0⟩:=trodAll_cons hA
 obtain ⟨v1,vs1,d1,ds1,p1,q1,rfl,rfl,rfl,h1,r1⟩:=trodAll_cons r0
 obtain ⟨v2,vs2,d2,ds2,p2,q2,rfl,rfl,rfl,h2,r2⟩:=trodAll_cons r1
 obtain ⟨v3,vs3,d3,ds3,p3,q3,rfl,rfl,rfl,h3,r3⟩:=trodAll_cons r2
 obtain ⟨rfl,rfl,rfl⟩:=trodAll_nil r3
 obtain rfl:args= #[v0,v1,v2,v3]:=by cases args;simp_all
 obtain ⟨rfl,rfl⟩:=trodVars_none hV
 obtain ⟨o,ho,hh⟩:=IL hL
 simp only [ei,Rows.uptoBulkAll,Nat.add_zero] at hb
 obtain ⟨t0,e0,m0⟩:=Bf (o:=o) (g:=gB UU 0 fun _=>0) nX (hval 0 22 v0 rfl rfl) h0
 obtain ⟨t1,e1,k1⟩:=Bg (o:=o) (g:=gB UU 0 fun _=>0) nX h1
 obtain ⟨t2,e2,k2⟩:=tw (o:=o) (g:=gB UU 0 fun _=>0) nX (hval 2 3 v2 rfl rfl) h2
 obtain ⟨t3,e3,k3⟩:=tw (o:=o) (g:=gB UU 0 fun _=>0) nX (hval 3 3 v3 rfl rfl) h3
 have hk:(4296016872:Nat)<=4296016872:=b7 _
 generalize hkk:(4296016872:Nat)=k at hk
 have hok:=E6 (k:=k) (by omega) ho (BU (by omega) m0.1 m0.2 (by omega)) (DK (by omega) k1 (by omega)) k2 k3
 refine (Bw hok (DC hh rfl rfl fun j p hj=> ?_)).mono ?_
 ·match j,hj with
  |0,hj=>cases hj;exact e0
  |1,hj=>cases hj;exact e1
  |2,hj=>cases hj;exact e2
  |3,hj=>cases hj;exact e3
  |j+4,hj=>simp at hj
 ·rintro e W' ⟨rfl,hkept⟩
  refine ⟨_,rfl,GG rfl rfl (fun t ht=> ?_) rfl hW' hkept⟩
  rw [Tryz.params3] at ht
  have ht':t=22\/t=27\/t=3\/t=3:=by simpa using ht
  rcases ht' with rfl|rfl|rfl|rfl<;>exact of_decide_eq_true (by kernel_rfl)
noncomputable def qz (os:Os):World:=
 {World.holding Tryz.prog os ⟨#[],#[],[]⟩ with heap:=(World.holding Tryz.prog os ⟨#[],#[],[]⟩).heap.modify 0 fun
   | .cells _ t frozen=> .cells (Lib.deBruijn32tab.map fun n:Nat=>Value.int .u8 n).toArray t frozen
   |o=>o}
def Jm:Value:= .agg #[.int .i64 0,.int .i64 0,.string aY,.slice none 0 0,.slice none 0 0,.slice none 0 0]
def zeroArgs:Array Value:= #[.slice none 0 0,Jm,.int .i64 0,.int .i64 0]
def Jk {H:Type}:DataW H:= .agg [.lit (.int .i64 0),.lit (.int .i64 0),.lit (.string []),.nil,.nil,.nil]
theorem E1 (os:Os):laidMet Tryz.prog Rows.machStillRow.laid ((qz os).forCall (fun _ _=>0) ⟨#[],zeroArgs,[]⟩).memory:=
 laidMet_of_run' 8 (by kernel_rfl) (by kernel_rfl)
theorem GX (os:Os) {H:Type} (enc:TypeId×Value->H): ∃places,DataW.whole enc Tryz.prog ((qz os).forCall (fun _ _=>0) ⟨#[],zeroArgs,[]⟩).memory Tryz.f3.params.toList Rows.machStillSpec.vars false zeroArgs.toList 8=some ([.nil,Jk,.lit (.int .i64 0),.lit (.int .i64 0)],[],places):=
 ⟨[],by kernel_rfl⟩
theorem Fl (os:Os) (started:os.Started) (H:Type) (enc:TypeId×Value->H) (F:Stop.Interp):
  ReturnsInHanded {} Tryz.checked os 3 .any ((Rows.OpenSpec.upto Rows.machStillSpec).preRow enc Tryz.prog Tryz.f3 Rows.machStillUptoRow.domain false Rows.machStillUptoRow.laid) (((Rows.OpenSpec.upto Rows.machStillSpec).at F).post enc Tryz.prog Tryz.f3 false true false false):=by
 obtain ⟨places,hx⟩:=GX os enc
 refine returnsInHanded_of_row (C:=Tryz.checked) (s:=Rows.OpenSpec.upto Rows.machStillSpec) own started (by kernel_rfl) Tryz.func3
  (witness_row_at (enc:=enc) (C:=Tryz.checked) false (qz os) zeroArgs rfl (by kernel_rfl) (by kernel_rfl) (by kernel_rfl)
   (OpenSpec.preRow_of_cond 8 hx (by kernel_rfl) (fun k hk=>by cases hk;kernel_rfl) (by kernel_rfl) (E1 os))) ?_
 intro W base args ds gs before hval hW _ hcond _ hL _ _
 exact E5 H enc W base args ds gs before hval hW hL (of_decide_eq_true (hcond _ rfl))
theorem H5:Rows.MachStillUptoSaid:=
 OpenClaim.holds_of_cond 3 Tryz.f3 rfl rfl rfl rfl rfl rfl rfl ⟨rfl,rfl,rfl,rfl,rfl⟩ rfl rfl rfl rfl rfl (by as_aux_lemma=>kernel_rfl) Tryz.func3 DU
  (of_decide_eq_true (by as_aux_lemma=>kernel_rfl)) (by unfold Func.isWrapper;first|(rw [if_pos (by decide+kernel)];kernel_rfl)|(rw [if_neg (by decide+kernel)];exact ⟨rfl,rfl⟩))
  (fun os started H enc _ F=>by rw [OpenClaim.pre_eq_preRow];exact Fl os started H enc F)
theorem plain (f:FuncId) (fn:Func) (hf:Tryz.pinned.checked.prog.funcNamed "hypercube/hypercubelaw34.MachStill" =some f) (hfn:Tryz.pinned.checked.prog.funcs[f]? =some fn):
  true=Tryz.pinned.checked.prog.looks []/\ ∀ (j:Nat) t,fn.params[j]? =some t->Tryz.pinned.checked.prog.wantsStandIn t=false:=by
 obtain rfl:f=3:=Option.some.inj ((show Tryz.prog.funcNamed "hypercube/hypercubelaw34.MachStill" =some 3 by kernel_rfl).symm.trans hf)|>.symm
 obtain rfl:fn=Tryz.f3:=(Option.some.inj (Tryz.func3.symm.trans hfn)).symm
 refine ⟨by kernel_rfl,fun j t ht=> ?_⟩
 rw [Tryz.params3] at ht
 have ht':t=22\/t=27\/t=3\/t=3:=by simpa using Array.mem_of_getElem? ht
 rcases ht' with rfl|rfl|rfl|rfl
 ·exact (show Tryz.prog.wantsStandIn 22=false by kernel_rfl)
 ·exact (show Tryz.prog.wantsStandIn 27=false by kernel_rfl)
 ·exact (show Tryz.prog.wantsStandIn 3=false by kernel_rfl)
 ·exact (show Tryz.prog.wantsStandIn 3=false by kernel_rfl)
theorem machStill_holds:Rows.MachStillUptoCardSaid:=
 Claim7.holds_tied_plain_at .later [] _ _ _ _ H5 (fun _ h=>by cases h) (by as_aux_lemma=>kernel_rfl) (fun _ h=>by cases h) machStillUpto_row_tie rfl ⟨rfl,rfl⟩ (by as_aux_lemma=>kernel_rfl) rfl plain (by as_aux_lemma=>kernel_rfl)
#print axioms machStill_holds
end Go.Proofs.YtlidjlacmpaefaaGreatDoor
