/- Part 0 of a proof: the sources, with their names and remarks, lie in wip/. -/
import Derived.Test.YtlidjlacmpaefaaGreatDoorChecked
import Derived.Test.YtlidjlacmpaefaaGreatDoorRows
import Derived.JoinedOf
import Derived.KernelRfl
import GoSem.Core.Code
import GoSem.Core.Region
import GoSem.Core.Sem
import GoSem.Op.Shift
import Derived.Laws.AppendOwn
import Derived.Below
import Derived.Orders
import Derived.Laws.Cells
import Derived.Laws.Slices
import Derived.Laws.Entries
import Derived.LaidEql
import Derived.Laws.StructEq
import Derived.Laws.CopyRow
import Derived.Laws.Tables
open Array renaming getD_eq_getD_getElem?→ct
open Bool renaming and_eq_true→aj
open ByteArray renaming empty→aY
open Go.Result renaming andThen_ok→bq
open Go.Sem renaming run_bind→bu,run_pure→b9
open List renaming all_eq_true→bW,getElem?_append_right→fJ,getElem?_eq_getElem→bP,getElem?_eq_some_iff→bS,length→dH,map_cons→ek,mem_append→cP,mem_of_getElem?→dk
open Nat renaming beq→ac,ble→a7,blt→cG,le_of_ble_eq_true→eI,le_refl→b7,le_trans→dI,lt_of_lt_of_le→eJ,mul_le_mul_right→fK,zero_add→b8
open Option renaming bind→aN
set_option linter.unusedVariables false
set_option linter.unusedSimpArgs false
namespace Go.Proofs.YtlidjlacmpaefaaGreatDoor
open Go
set_option maxRecDepth 100000
set_option maxHeartbeats 4000000
theorem Bb {a b:Bool} (ha:a=true) (hb:b=true):(a&&b)=true:=by rw [ha,hb];rfl
theorem DU:joinedFacts Tryz.pinned.checked.prog 3 Tryz.f3 (Rows.OpenSpec.upto Rows.machStillSpec).bare Rows.machStillUptoRow=true:=by
 unfold joinedFacts
 repeat' with_reducible refine Bb ?_ ?_
 all_goals as_aux_lemma=>kernel_rfl
end Go.Proofs.YtlidjlacmpaefaaGreatDoor
namespace Go.Proofs.YtlidjlacmpaefaaGreatDoor.PI
open Go
structure Uni where
 E:Type
 dec:DecidableEq E
 El:E->Type
instance (U:Uni):DecidableEq U.E:=U.dec
inductive Own where
 |none
 |full
 |nil
 |void
 |sure
inductive PV (U:Uni):Type where
 |undef
 |int (k:IntKind) (n:Int)
 |bool (b:Bool)
 |str (s:ByteArray)
 |sl (e:U.E) (l:List (U.El e)) (o:Own)
 |own (i v:Nat)
 |fresh (e:U.E) (l:List (U.El e))
 |agg (cs:List (PV U))
 |tuple (vs:List (PV U))
 |ptr (id off:Nat)
 |aptr (id:Nat) (n:Int)
 |eptr (e:U.E) (x:U.El e) (off:Nat)
 |any
 |pptr (cs:List (PV U)) (off:Nat)
 |psl (n w:Nat) (cs:List (PV U)) (o:Bool)
 |optr (i v:Nat) (j:Int) (off:Nat)
 |mp (id:Nat)
 |func (f:FuncId) (first caps:List (PV U))
 |iface (t:TypeId) (v:PV U)
 |nilIface
 |nilPtr
 |nilFunc
inductive Box (U:Uni):Type where
 |cells (cs:List (PV U))
 |map (e:U.E) (l:List (U.El e×Bool))
inductive Use where
 |read
 |app
 |wr
structure Ob (U:Uni) where
 ver:Nat
 e:U.E
 l:List (U.El e)
structure Ty (U:Uni) where
 size:Nat
 agg:Bool
 zero:List (PV U)
 fields:List (Nat×TypeId)
 elem:Option U.E
 keys:Option U.E
 ikind:Option IntKind
 eqk:Nat
 arr:Option Nat
structure Env (U:Uni) where
 cells:(e:U.E)->U.El e->List (PV U)
 toEl:(e:U.E)->List (PV U)->Option (U.El e)
 bound:U.E->Nat
 ty:TypeId->Option (Ty U)
 inpl:FuncId->List (PV U)->(e:U.E)->List (U.El e)->Option (List (U.El e))
 lim:FuncId->Nat
 kb:FuncId->List Bool
 esz:U.E->Nat
 inv:TypeId->String->Option FuncId
def Env.ety {U:Uni} (V:Env U) (t:TypeId):Option U.E:=match V.ty t with|some r=>r.elem| .none=> .none
def Env.mty {U:Uni} (V:Env U) (t:TypeId):Option U.E:=match V.ty t with|some r=>r.keys| .none=> .none
def Env.zero {U:Uni} (V:Env U) (t:TypeId):Option (List (PV U)):=match V.ty t with|some r=>some r.zero| .none=> .none
def Env.foff {U:Uni} (V:Env U) (t:TypeId) (i:Nat):Option (Nat×TypeId):=match V.ty t with|some r=>r.fields[i]? | .none=> .none
def Env.soff {U:Uni} (V:Env U) (t:TypeId) (i:Nat):Option (Nat×TypeId):=match V.ty t with|some r=>(match r.arr with| .none=>r.fields[i]? |some _=> .none)| .none=> .none
def Env.isEl {U:Uni} (V:Env U) (t:TypeId) (e:U.E):Bool:=match V.ety t with|some e'=>if e'=e then true else false| .none=>false
def Env.isMt {U:Uni} (V:Env U) (t:TypeId) (e:U.E):Bool:=match V.mty t with|some e'=>if e'=e then true else false| .none=>false
def Env.cellsT {U:Uni} (V:Env U) (t:TypeId):Nat:=match V.ty t with|some r=>r.size| .none=>0
def Env.arr {U:Uni} (V:Env U) (t:TypeId):Option Nat:=match V.ty t with|some r=>r.arr| .none=> .none
def Env.eqk {U:Uni} (V:Env U) (t:TypeId):Nat:=match V.ty t with|some r=>r.eqk| .none=>0
def Env.ikind {U:Uni} (V:Env U) (t:TypeId):Option IntKind:=match V.ty t with|some r=>r.ikind| .none=> .none
inductive Out (U:Uni) where
 |ret (v:PV U) (boxes:List (Box U))
 |panic (v:PV U) (boxes:List (Box U))
inductive MR (U:Uni) where
 |done
 |raise (v:PV U)
 |out (o:Out U)
inductive M (U:Uni):Type 1 where
 |done
 |fail
 |raise (v:PV U)
 |out (o:Out U)
 |getR (n:Nat) (k:PV U->M U)
 |setR (n:Nat) (v:PV U) (m:M U)
 |getB (id:Nat) (k:Option (Box U)->M U)
 |setB (id:Nat) (c:Box U) (m:M U)
 |getT (id n:Nat) (k:Option (List (PV U))->M U)
 |getH (id n:Nat) (k:Option (List (PV U))->M U)
 |setH (id n:Nat) (cs:List (PV U)) (m:M U)
 |getO (i:Nat) (k:Option (Ob U)->M U)
 |setO (i:Nat) (o:Ob U) (m:M U)
 |getU (i:Nat) (k:Use->M U)
 |setU (i:Nat) (u:Use) (m:M U)
 |frz (i:Nat) (m:M U)
 |ask {α:Type} (o:Option α) (k:α->M U)
 |case (j:Nat) (m1 m2 m3:M U)
 |call (f:FuncId) (args:List (PV U)) (boxes:List (Box U)) (k:Out U->M U)
structure St (U:Uni) where
 reg:List (Nat×PV U)
 box:List (Nat×Box U)
 obj:List (Nat×Ob U)
 use:List (Nat×Use)
inductive Loc where
 |rr (n:Nat)|wr (n:Nat)|rb (n:Nat)|wb (n:Nat)|rt (n m:Nat)|rh (n m:Nat)|wh (n m:Nat)|ro (n:Nat)|wo (n:Nat)|ru (n:Nat)|wu (n:Nat)|fu (n:Nat)
def bw {α:Type}:List (Nat×α)->Nat->Option α
 |[],_=> .none
 |(m,v)::r,n=>bif ac m n then some v else bw r n
section
variable {U:Uni}
def St.r (σ:St U) (n:Nat):PV U:=match bw σ.reg n with|some v=>v| .none=> .undef
def St.b (σ:St U) (n:Nat):Option (Box U):=bw σ.box n
def St.o (σ:St U) (n:Nat):Option (Ob U):=bw σ.obj n
def St.u (σ:St U) (n:Nat):Use:=match bw σ.use n with|some u=>u| .none=> .read
def St.setR (σ:St U) (n:Nat) (v:PV U):St U:=⟨(n,v)::σ.reg,σ.box,σ.obj,σ.use⟩
def St.setB (σ:St U) (n:Nat) (c:Box U):St U:=⟨σ.reg,(n,c)::σ.box,σ.obj,σ.use⟩
def St.setO (σ:St U) (n:Nat) (o:Ob U):St U:=⟨σ.reg,σ.box,(n,o)::σ.obj,σ.use⟩
def St.setU (σ:St U) (n:Nat) (u:Use):St U:=⟨σ.reg,σ.box,σ.obj,(n,u)::σ.use⟩
def gS (n:Nat):Option (Box U)->Option (List (PV U))
 |some (.cells cs)=>bif a7 n cs.length then some (cs.drop n) else .none
 |_=> .none
def gD (n:Nat):Option (Box U)->Option (List (PV U))
 |some (.cells cs)=>bif a7 n cs.length then some (cs.take n) else .none
 |_=> .none
def St.setH (σ:St U) (id n:Nat) (cs:List (PV U)):Option (St U):=match σ.b id with
 |some (.cells all)=>bif a7 n all.length&&ac cs.length n then some (σ.setB id (.cells (cs++all.drop n))) else .none
 |_=> .none
abbrev Oracle (U:Uni) (R:Type):=FuncId->List (PV U)->List (Box U)->(Out U->Option R)->Option R
def M.cps {R:Type} (C:Oracle U R):M U->St U->List Loc->(MR U->St U->List Loc->Option R)->Option R
 | .done,σ,fp,κ=>κ .done σ fp
 | .fail,_,_,_=> .none
 | .raise v,σ,fp,κ=>κ (.raise v) σ fp
 | .out o,σ,fp,κ=>κ (.out o) σ fp
 | .getR n k,σ,fp,κ=>(k (σ.r n)).cps C σ (.rr n::fp) κ
 | .setR n v m,σ,fp,κ=>m.cps C (σ.setR n v) (.wr n::fp) κ
 | .getB n k,σ,fp,κ=>(k (σ.b n)).cps C σ (.rb n::fp) κ
 | .setB n c m,σ,fp,κ=>m.cps C (σ.setB n c) (.wb n::fp) κ
 | .getT n i k,σ,fp,κ=>(k (gS i (σ.b n))).cps C σ (.rt n i::fp) κ
 | .getH n i k,σ,fp,κ=>(k (gD i (σ.b n))).cps C σ (.rh n i::fp) κ
 | .setH n i cs m,σ,fp,κ=>match σ.setH n i cs with
  |some σ'=>m.cps C σ' (.wh n i::fp) κ
  | .none=> .none
 | .getO n k,σ,fp,κ=>(k (σ.o n)).cps C σ (.ro n::fp) κ
 | .setO n o m,σ,fp,κ=>m.cps C (σ.setO n o) (.wo n::fp) κ
 | .getU n k,σ,fp,κ=>(k (σ.u n)).cps C σ (.ru n::fp) κ
 | .setU n u m,σ,fp,κ=>m.cps C (σ.setU n u) (.wu n::fp) κ
 | .frz n m,σ,fp,κ=>m.cps C (σ.setU n .read) (.fu n::fp) κ
 | .ask o k,σ,fp,κ=>o.bind fun x=>(k x).cps C σ fp κ
 | .case j m1 m2 m3,σ,fp,κ=>match σ.r j with
  | .bool b=>bif b then m1.cps C (σ.setR j (.bool true)) (.rr j::fp) κ else m2.cps C (σ.setR j (.bool false)) (.rr j::fp) κ
  | .tuple []=>m3.cps C σ (.rr j::fp) κ
  |_=> .none
 | .call f a bs k,σ,fp,κ=>C f a bs fun out=>(k out).cps C σ fp κ
def PV.cs:PV U->List (PV U)
 | .agg cs=>cs
 |v=>[v]
def aM {α:Type} (l:List α) (i:Int):Option α:=if 0<=i then l[i.toNat]? else .none
def cm (p:Prop) [Decidable p]:Option Unit:=if p then some () else .none
def cx (most n m:Nat):Option Unit:=if n+m<=most then some () else .none
mutual
def PV.ids:PV U->List Nat
 | .ptr id _=>[id]
 | .aptr id _=>[id]
 | .mp id=>[id]
 | .agg cs=>PV.idsL cs
 | .tuple cs=>PV.idsL cs
 | .func _ a b=>PV.idsL a++PV.idsL b
 | .iface _ v=>PV.ids v
 | .pptr cs _=>PV.idsL cs
 | .psl _ _ cs _=>PV.idsL cs
 |_=>[]
def PV.idsL:List (PV U)->List Nat
 |[]=>[]
 |v::r=>PV.ids v++PV.idsL r
end
mutual
def PV.ren (keep:Bool) (ρ:Nat->Nat):PV U->PV U
 | .ptr id off=> .ptr (ρ id) off
 | .aptr id n=> .aptr (ρ id) n
 | .mp id=> .mp (ρ id)
 | .agg cs=> .agg (PV.renL keep ρ cs)
 | .tuple cs=> .tuple (PV.renL keep ρ cs)
 | .func f a b=> .func f (PV.renL keep ρ a) (PV.renL keep ρ b)
 | .iface t v=> .iface t (PV.ren keep ρ v)
 | .pptr cs off=> .pptr (PV.renL keep ρ cs) off
 | .psl n w cs o=> .psl n w (PV.renL keep ρ cs) o
 | .sl e l .nil=> .sl e l (bif keep then .nil else .none)
 | .sl e l .full=> .sl e l (bif keep then .full else .none)
 |v=>v
def PV.renL (keep:Bool) (ρ:Nat->Nat):List (PV U)->List (PV U)
 |[]=>[]
 |v::r=>PV.ren keep ρ v::PV.renL keep ρ r
end
def Box.ids:Box U->List Nat
 | .cells cs=>PV.idsL cs
 | .map .. =>[]
def Box.ren (keep:Bool) (ρ:Nat->Nat):Box U->Box U
 | .cells cs=> .cells (PV.renL keep ρ cs)
 | .map e l=> .map e l
def PV.renK (ρ:Nat->Nat):List Bool->List (PV U)->List (PV U)
 |k::ks,v::r=>PV.ren k ρ v::PV.renK ρ ks r
 |_,r=>PV.renL false ρ r
def Box.renK (ks:List Bool) (ρ:Nat->Nat):Box U->Box U
 | .cells cs=> .cells (PV.renK ρ ks cs)
 | .map e l=> .map e l
mutual
def PV.stb:PV U->Bool
 | .own .. =>false
 | .optr .. =>false
 | .fresh .. =>false
 | .sl _ _ .nil=>false
 | .sl _ _ .full=>false
 | .agg cs=>PV.stbL cs
 | .tuple cs=>PV.stbL cs
 | .func _ a b=>PV.stbL a&&PV.stbL b
 | .iface _ v=>PV.stb v
 | .pptr cs _=>PV.stbL cs
 | .psl _ _ cs _=>PV.stbL cs
 |_=>true
def PV.stbL:List (PV U)->Bool
 |[]=>true
 |v::r=>PV.stb v&&PV.stbL r
end
def Box.stb:Box U->Bool
 | .cells cs=>PV.stbL cs
 | .map .. =>false
def iF (boxes:List (Box U)):List (Box U)->List (Box U)
 |[.cells (.int _ n::a)]=>match boxes[n.toNat]? with
  |some (.cells g)=>boxes.set n.toNat (.cells (a++g.drop a.length))
  |_=>boxes
 |_=>boxes
def Out.full (boxes:List (Box U)):Out U->Out U
 | .ret v cs=>bif a7 boxes.length cs.length then .ret v cs else .ret v (iF boxes cs)
 | .panic v cs=> .panic v cs
def aS:List Nat->Nat->Nat
 |[],_=>0
 |m::r,n=>bif ac m n then 0 else aS r n+1
def ld:Nat->List Nat->List (Nat×Box U)->(List (Nat×Box U)->M U)->M U
 |0,_,_,_=> .fail
 |_+1,[],acc,k=>k acc
 |n+1,id::todo,acc,k=>
  match bw acc id with
  |some _=>ld n todo acc k
  | .none=> .getB id fun
   |some c=>ld n (todo++c.ids) (acc++[(id,c)]) k
   | .none=> .fail
def uk (n:Nat):List (PV U)->Option Nat
 | .ptr id 0::_=>bif ac n 0 then .none else some id
 |_=> .none
def bH (q:Option Nat) (id:Nat):Bool:=match q with|some j=>ac j id| .none=>false
def ri (q:Option Nat) (ids:List Nat):Bool:=match q with|some j=>ids.any (ac j)| .none=>true
def Box.cutIf (t:Bool) (n:Nat) (b:Box U):Option (Box U):=bif t then (match b with| .cells cs=>bif a7 n cs.length then some (.cells (cs.take n)) else .none| .map .. => .none) else some b
def Box.rest (n:Nat):Box U->List (PV U)
 | .cells cs=>cs.drop n
 | .map .. =>[]
def Box.glue (r:List (PV U)):Box U->Box U
 | .cells cs=> .cells (cs++r)
 | .map e l=> .map e l
def jq (q:Option Nat) (l:Nat):Nat->List Nat->List (Nat×Box U)->(List (Nat×Box U)->M U)->M U
 |0,_,_,_=> .fail
 |_+1,[],acc,k=>k acc
 |n+1,id::todo,acc,k=>
  match bw acc id with
  |some _=>jq q l n todo acc k
  | .none=>bif bH q id then .getH id l fun
    |some cs=>jq q l n (todo++(Box.cells cs).ids) (acc++[(id,.cells cs)]) k
    | .none=> .fail
   else .getB id fun
    |some c=>jq q l n (todo++c.ids) (acc++[(id,c)]) k
    | .none=> .fail
def gP (q:Option Nat) (l:Nat):List (Nat×Box U)->M U->M U
 |[],m=>m
 |(id,c)::r,m=>bif bH q id then (match c with
   | .cells cs=> .setH id l cs (gP q l r m)
   | .map .. => .fail)
  else .setB id c (gP q l r m)
def bz (from_:Nat):Nat->List Nat
 |0=>[]
 |n+1=>from_::bz (from_+1) n
def fH (i v:Nat) (k:Ob U->M U):M U:= .getO i fun
 |some ob=>bif ac ob.ver v then k ob else .fail
 | .none=> .fail
def oH (v:PV U) (k:(e:U.E)->List (U.El e)->M U):M U:=
 match v with
 | .sl e l _=>k e l
 | .own i w=>fH i w fun ob=>k ob.e ob.l
 |_=> .fail
mutual
def frz:PV U->(PV U->M U)->M U
 | .own i w,k=>fH i w fun ob=> .frz i (k (.sl ob.e ob.l .none))
 | .agg cs,k=>d6 cs fun cs=>k (.agg cs)
 | .tuple cs,k=>d6 cs fun cs=>k (.tuple cs)
 | .func f a b,k=>d6 a fun a=>d6 b fun b=>k (.func f a b)
 | .iface t v,k=>frz v fun v=>k (.iface t v)
 |v,k=>k v
def d6:List (PV U)->(List (PV U)->M U)->M U
 |[],k=>k []
 |v::r,k=>frz v fun v=>d6 r fun r=>k (v::r)
end
def ew:List (Nat×Box U)->(List (Nat×Box U)->M U)->M U
 |[],k=>k []
 |(id,.cells cs)::r,k=>d6 cs fun cs=>ew r fun r=>k ((id,.cells cs)::r)
 |b::r,k=>ew r fun r=>k (b::r)
section
variable (V:Env U)
def pE (t:TypeId):Value->Option (PV U)
 | .int k n=>some (.int k n)
 | .bool b=>some (.bool b)
 | .string s=>some (.str s)
 | .slice .none 0 0=>match V.ety t with|some e=>some (.sl e [] .nil)| .none=> .none
 | .nilFunc=>some .nilFunc
 | .nilIface=>some .nilIface
 | .pointer .none=>some .nilPtr
 |_=> .none
def ev (x:Operand) (t:TypeId) (k:PV U->M U):M U:=
 match x with
 | .tmp n=> .getR n k
 | .const v=>match pE V t v with|some p=>k p| .none=> .fail
 | .func f=>k (.func f [] [])
 | .global _=> .fail
def fi:List Operand->List TypeId->(List (PV U)->M U)->M U
 |[],_,k=>k []
 |x::r,t::ts,k=>ev V x t fun v=>fi r ts fun vs=>k (v::vs)
 |x::r,[],k=>ev V x 0 fun v=>fi r [] fun vs=>k (v::vs)
def put (d:Option Tmp) (v:PV U):M U:=match d with|some n=> .setR n v .done| .none=> .done
def ec (cs:List (PV U)) (off:Nat) (vs:List (PV U)):List (PV U):=cs.take off++(vs++cs.drop (off+vs.length))
def kf:List (PV U)->Option (IntKind×List Int)
 |[]=> .none
 |[.int k n]=>some (k,[n])
 | .int k n::r=>match kf r with
  |some (k',l)=>if k=k' then some (k,n::l) else .none
  | .none=> .none
 |_=> .none
def g_ (t:TypeId) (cs:List (PV U)) (off:Nat):Option (PV U):=
 match V.ty t with
 |some r=>bif r.agg then (bif a7 (off+r.size) cs.length then some (.agg ((cs.drop off).take r.size)) else .none) else cs[off]?
 | .none=> .none
def fN (t:TypeId) (cs:List (PV U)) (off:Nat) (k:PV U->M U):M U:=
 match g_ V t cs off with|some v=>k v| .none=> .fail
def nT (t:TypeId) (a:PV U) (k:PV U->M U):M U:=
 match a with
 | .ptr id off=> .getT id off fun
  |some cs=>fN V t cs 0 k
  | .none=> .fail
 | .eptr e x off=>fN V t (V.cells e x) off k
 | .pptr cs off=>fN V t cs off k
 | .optr i w j off=>fH i w fun ob=> .ask (aM ob.l j) fun x=>fN V t (V.cells ob.e x) off k
 | .aptr id n=> .getB id fun
  |some (.cells cs)=>match kf cs,V.ty t with|some (kd,l),some r=>bif r.agg then .fail else .ask (aM l n) fun m=>k (.int kd m)|_,_=> .fail
  |_=> .fail
 |_=> .fail
mutual
def PV.noObj:PV U->Bool
 | .own .. =>false
 | .optr .. =>false
 | .agg cs=>PV.noObjL cs
 | .tuple cs=>PV.noObjL cs
 | .func _ a b=>PV.noObjL a&&PV.noObjL b
 | .iface _ v=>PV.noObj v
 | .pptr cs _=>PV.noObjL cs
 | .psl _ _ cs _=>PV.noObjL cs
 |_=>true
def PV.noObjL:List (PV U)->Bool
 |[]=>true
 |v::r=>PV.noObj v&&PV.noObjL r
end
def PV.isCell:PV U->Bool
 | .undef=>false
 | .agg _=>false
 | .tuple _=>false
 | .fresh .. =>false
 |_=>true
def fq (t:TypeId) (v:PV U):Bool:=match V.ty t with|some r=>ac v.cs.length r.size&&v.cs.all PV.isCell| .none=>false
def sa (t:TypeId) (a v:PV U) (m:M U):M U:=
 match a with
 | .ptr id off=> .getB id fun
  |some (.cells cs)=>bif fq V t v&&a7 (off+v.cs.length) cs.length then .setB id (.cells (ec cs off v.cs)) m else .fail
  |_=> .fail
 | .optr i w j off=>frz v fun v=>fH i w fun ob=> .getU i fun
  | .wr=> .ask (aM ob.l j) fun x=>
   bif fq V t v&&a7 (off+v.cs.length) (V.cells ob.e x).length then
    match V.toEl ob.e (ec (V.cells ob.e x) off v.cs) with
    |some y=> .setO i ⟨ob.ver,ob.e,ob.l.set j.toNat y⟩ m
    | .none=> .fail
   else .fail
  |_=> .fail
 |_=> .fail
def fill (t:TypeId):List (PV U)->List (Nat×PV U)->Option (List (PV U))
 |cs,[]=>some cs
 |cs,(i,v)::r=>match V.foff t i with
  |some (off,ft)=>bif fq V ft v&&a7 (off+v.cs.length) cs.length then fill t (ec cs off v.cs) r else .none
  | .none=> .none
def lb (ty:Nat->TypeId):List (Nat×Operand)->(List (Nat×PV U)->M U)->M U
 |[],k=>k []
 |(i,x)::r,k=>ev V x (ty i) fun v=>lb ty r fun vs=>k ((i,v)::vs)
def nx (e:U.E):Nat->List (Nat×PV U)->(List (U.El e)->M U)->M U
 |_,[],k=>k []
 |n,(i,v)::r,k=>bif ac i n then frz v fun v=>(match V.toEl e v.cs with|some x=>nx e (n+1) r fun l=>k (x::l)| .none=> .fail) else .fail
def oA (w:Nat):Nat->List (Nat×PV U)->(List (PV U)->M U)->M U
 |_,[],k=>k []
 |n,(i,v)::r,k=>bif ac i n then frz v fun v=>(bif ac v.cs.length w&&(v.cs.all PV.isCell&&PV.noObjL v.cs) then oA w (n+1) r fun l=>k (v.cs++l) else .fail) else .fail
def bJ (op:BinOp) (k:IntKind) (x y:Int):Int:=
 let a:=BitVec.ofInt k.bits x
 let b:=BitVec.ofInt k.bits y
 match op with
 | .and=>k.wrap (a&&&b).toNat
 | .or=>k.wrap (a|||b).toNat
 | .xor=>k.wrap (a^^^b).toNat
 |_=>k.wrap (a&&& ~~~b).toNat
def PV.eqv:PV U->PV U->Option Bool
 | .int k a,.int k' b=>if k=k' then some (a==b) else .none
 | .str a,.str b=>some (a==b)
 |_,_=> .none
def PV.eqvI:List (PV U)->List (PV U)->Option Bool
 |[],[]=>some true
 | .int k a::r,.int k' b::s=>if k=k' then (match PV.eqvI r s with|some y=>some ((a==b)&&y)| .none=> .none) else .none
 |_,_=> .none
def nz (t:TypeId) (cy:Bool) (x y:PV U) (k:Bool->M U):M U:=
 match x,y with
 | .int ka a,.int kb b=>if ka=kb then k (a==b) else .fail
 | .str a,.str b=>k (a==b)
 | .bool a,.bool b=>bif ac (V.eqk t) 3 then k (a==b) else .fail
 | .agg a,.agg b=>match V.ty t with
  |some r=>bif ac r.eqk 1&&ac a.length r.size then (match PV.eqvI a b with|some r=>k r| .none=> .fail) else .fail
  | .none=> .fail
 | .iface ..,.nilIface=>bif ac (V.eqk t) 2 then k false else .fail
 | .nilIface,.nilIface=>bif ac (V.eqk t) 2&&cy then k true else .fail
 | .pptr (_::_) _,.ptr j _=>bif ac (V.eqk t) 5 then .getB j fun
  |some (.cells _)=>k false
  |_=> .fail
  else .fail
 | .ptr i a,.ptr j b=>bif ac (V.eqk t) 5 then .getB i fun
  |some (.cells _)=> .getB j fun
   |some (.cells _)=>k (ac i j&&ac a b)
   |_=> .fail
  |_=> .fail
  else .fail
 | .sl _ _ o,.sl _ _ .nil=>match V.ety t,o with
  |some _,.nil=>k true
  |some _,.void=>k true
  |some _,.sure=>k false
  |_,_=> .fail
 |_,_=> .fail
def ints (x y:PV U) (k:IntKind->Int->Int->M U):M U:=
 match x,y with
 | .int ka a,.int kb b=>if ka=kb then k ka a b else .fail
 |_,_=> .fail
def kH (op:BinOp) (t:TypeId) (cy:Bool) (x y:PV U) (k:PV U->M U):M U:=
 match op with
 | .add=>ints x y fun ka a b=>k (.int ka (ka.wrap (a+b)))
 | .sub=>ints x y fun ka a b=>k (.int ka (ka.wrap (a-b)))
 | .mul=>ints x y fun ka a b=>k (.int ka (ka.wrap (a*b)))
 | .quo=>ints x y fun ka a b=> .ask (cm (b≠0)) fun _=>k (.int ka (ka.wrap (a.tdiv b)))
 | .rem=>ints x y fun ka a b=> .ask (cm (b≠0)) fun _=>k (.int ka (a.tmod b))
 | .and=>ints x y fun ka a b=>k (.int ka (bJ .and ka a b))
 | .or=>ints x y fun ka a b=>k (.int ka (bJ .or ka a b))
 | .xor=>ints x y fun ka a b=>k (.int ka (bJ .xor ka a b))
 | .andNot=>ints x y fun ka a b=>k (.int ka (bJ .andNot ka a b))
 | .shl=>match x,y with| .int ka a,.int _ b=> .ask (cm (0<=b)) fun _=>k (.int ka (ka.wrap (a*2^min b.toNat ka.bits)))|_,_=> .fail
 | .shr=>match x,y with| .int ka a,.int _ b=> .ask (cm (0<=b)) fun _=>k (.int ka (a.fdiv (2^min b.toNat ka.bits)))|_,_=> .fail
 | .lss=>ints x y fun _ a b=>k (.bool (decide (a<b)))
 | .leq=>ints x y fun _ a b=>k (.bool (decide (a<=b)))
 | .gtr=>ints x y fun _ a b=>k (.bool (decide (a>b)))
 | .geq=>ints x y fun _ a b=>k (.bool (decide (a>=b)))
 | .eql=>nz V t cy x y fun b=>k (.bool b)
 | .neq=>nz V t cy x y fun b=>k (.bool (!b))
def un (op:UnOp) (x:PV U) (k:PV U->M U):M U:=
 match op,x with
 | .not,.bool b=>k (.bool (!b))
 | .neg,.int ka n=>k (.int ka (ka.wrap (0-n)))
 | .xor,.int ka n=>k (.int ka (bJ .xor ka (if ka.signed then-1 else ka.max) n))
 |_,_=> .fail
def iA (d:Nat) (u:Use) (e:U.E) (l:List (U.El e)):M U:=
 .getO d fun
  |some ob=> .setO d ⟨ob.ver+1,e,l⟩ (.setU d u (.setR d (.own d (ob.ver+1)) .done))
  | .none=> .setO d ⟨0,e,l⟩ (.setU d u (.setR d (.own d 0) .done))
def pi (d:Option Tmp) (t u:TypeId) (x y:PV U):M U:=
 match d with
 |some n=>bif ac t u then oH y fun e' l'=>
  bif V.isEl t e' then match x with
  | .sl e l o=>
   if h:e'=e then
    match o with
    | .none=> .fail
    | .void=> .fail
    | .sure=> .fail
    | .full=> .ask (cx (V.bound e) l.length l'.length) fun _=>iA n .app e (l++(h▸l'))
    | .nil=> .ask (cx (V.bound e) 0 l'.length) fun _=>iA n .wr e (h▸l')
   else .fail
  | .own i w=>fH i w fun ob=>
   if h:e'=ob.e then
    .getU i fun
    | .read=> .fail
    |u=> .ask (cx (V.bound ob.e) ob.l.length l'.length) fun _=>
     .setO i ⟨ob.ver+1,ob.e,[]⟩ (.setU i .read (iA n u ob.e (ob.l++(h▸l'))))
   else .fail
  |_=> .fail
  else .fail
  else .fail
 | .none=> .fail
def mg (d:Option Tmp) (t u:TypeId) (x:PV U) (n' w':Nat) (cs':List (PV U)):M U:=
 match V.ety t with
 |some e=>bif ac t u&&(ac (V.esz e) w'&&cG 0 n') then match x with
  | .psl n w cs true=>bif ac w w' then .ask (cx (V.bound e) n n') fun _=>put d (.psl (n+n') w (cs++cs') false) else .fail
  | .sl _ [] .nil=> .ask (cx (V.bound e) 0 n') fun _=>put d (.psl n' w' cs' false)
  |_=> .fail
  else .fail
 | .none=> .fail
def yM (t:TypeId) (x:PV U) (lo hi mx:Option (PV U)) (k:PV U->M U):M U:=
 frz x fun x=>match x with
 | .sl e l _=>
  bif V.isEl t e then match lo,hi,mx with
  | .none,some (.int _ h),some (.int _ m)=> .ask (cm (h=m)) fun _=> .ask (cm (0<=h/\h<=l.length)) fun _=>k (.sl e (l.take h.toNat) .full)
  | .none,some (.int _ h),.none=> .ask (cm (0<=h/\h<=l.length)) fun _=>k (.sl e (l.take h.toNat) .none)
  |some (.int _ a),.none,.none=> .ask (cm (0<=a/\a<=l.length)) fun _=>k (.sl e (l.drop a.toNat) .none)
  |some (.int _ a),some (.int _ h),.none=> .ask (cm (0<=a/\a<=h/\h<=l.length)) fun _=>k (.sl e ((l.take h.toNat).drop a.toNat) .none)
  |_,_,_=> .fail
  else .fail
 | .psl n w cs _=>match V.ety t,lo,hi,mx with
  |some e,.none,some (.int _ h),some (.int _ m)=>bif ac (V.esz e) w then .ask (cm (h=m)) fun _=> .ask (cm (0<=h/\h<=n)) fun _=>k (.psl h.toNat w (cs.take (h.toNat*w)) true) else .fail
  |_,_,_,_=> .fail
 |_=> .fail
def nB (x:Option Operand) (t:TypeId) (k:Option (PV U)->M U):M U:=
 match x with
 | .none=>k .none
 |some x=>ev V x t fun v=>k (some v)
def dC (e:U.E) (a b:U.El e):Bool:=match PV.eqvI (V.cells e a) (V.cells e b) with|some t=>t| .none=>false
def cW (e:U.E):List (U.El e×Bool)->U.El e->Option Bool
 |[],_=> .none
 |(k,b)::r,x=>bif dC V e k x then some b else cW e r x
def dV (e:U.E):List (U.El e×Bool)->U.El e->Bool->List (U.El e×Bool)
 |[],x,b=>[(x,b)]
 |(k,c)::r,x,b=>bif dC V e k x then (k,b)::r else (k,c)::dV e r x b
def oG (t:TypeId) (m key:PV U) (k:(id:Nat)->(e:U.E)->List (U.El e×Bool)->U.El e->M U):M U:=
 match m,key with
 | .mp id,.agg cs=> .getB id fun
  |some (.map e l)=>bif V.isMt t e then (match V.toEl e cs with|some x=>k id e l x| .none=> .fail) else .fail
  |_=> .fail
 |_,_=> .fail
def Box.noObj:Box U->Bool
 | .cells cs=>PV.noObjL cs
 | .map .. =>true
def gw:List Nat->Bool
 |[]=>true
 |n::r=> !(r.any (ac n))&&gw r
def eQ (all:List (PV U)) (bs:List (Nat×Box U)):Bool:=
 PV.noObjL all&&((bs.all fun b=>b.2.noObj)&&(gw (bs.map (·.1))&&((PV.idsL all++bs.flatMap (·.2.ids)).all fun i=>(bs.map (·.1)).any (ac i))))
def nF:List Nat->M U->M U
 |[],m=>m
 |id::r,m=> .getB id fun
  | .none=>bif cG id 1000000 then nF r m else .fail
  |some _=> .fail
def gz:List Bool->List (PV U)->(List (PV U)->M U)->M U
 |true::g,v::r,k=>gz g r fun r=>k (v::r)
 |false::g,v::r,k=>frz v fun v=>gz g r fun r=>k (v::r)
 |_::_,[],k=>k []
 |[],r,k=>d6 r k
def fQ:List Bool->List (PV U)->(List (PV U)->M U)->M U
 |true::g,v::r,k=>match v with
  | .own i w=>fH i w fun ob=> .getU i fun
   | .wr=> .setO i ⟨ob.ver+1,ob.e,[]⟩ (.setU i .read (fQ g r fun r=>k (.fresh ob.e ob.l::r)))
   |_=> .fail
  | .sl e [] .nil=>fQ g r fun r=>k (.fresh e []::r)
  |_=> .fail
 |false::g,v::r,k=>fQ g r fun r=>k (v::r)
 |_,r,k=>k r
def PV.notFresh:PV U->Bool
 | .fresh .. =>false
 |_=>true
mutual
def oE (d:Nat):PV U->(PV U->M U)->M U
 | .fresh e l,k=> .getO d fun
  |some ob=> .setO d ⟨ob.ver+1,e,l⟩ (.setU d .wr (k (.own d (ob.ver+1))))
  | .none=> .setO d ⟨0,e,l⟩ (.setU d .wr (k (.own d 0)))
 | .tuple vs,k=>l8 d vs fun vs=>k (.tuple vs)
 |v,k=>k v
def l8 (d:Nat):List (PV U)->(List (PV U)->M U)->M U
 |[],k=>k []
 | .fresh e l::r,k=>bif r.all PV.notFresh then .getO d fun
  |some ob=> .setO d ⟨ob.ver+1,e,l⟩ (.setU d .wr (k (.own d (ob.ver+1)::r)))
  | .none=> .setO d ⟨0,e,l⟩ (.setU d .wr (k (.own d 0::r)))
  else .fail
 |v::r,k=>l8 d r fun r=>k (v::r)
end
def qj (d:Option Tmp) (g:FuncId) (x:PV U) (r:List (PV U)):M U:=
 match x with
 | .own i w=>fH i w fun ob=> .getU i fun
  | .wr=>bif PV.noObjL r&&(PV.idsL r).isEmpty&&r.all PV.notFresh then .ask (V.inpl g r ob.e ob.l) fun l=> .setO i ⟨ob.ver,ob.e,l⟩ (put d (.tuple [])) else .fail
  |_=> .fail
 |_=> .fail
def n5 (q:Option Nat) (bs:List (Nat×Box U)) (ρ:Nat->Nat):List (Box U)->M U->M U
 |[],m=>m
 |[.cells (.int _ n::a)],m=>match bs[n.toNat]? with
  |some (id,.cells g)=>bif a7 a.length g.length&& !bH q id then .setH id a.length (a.map (PV.ren true ρ)) m else .fail
  |_=> .fail
 |_,_=> .fail
def eM (lim:FuncId->Nat) (kb:FuncId->List Bool) (give:List Bool) (d:Option Tmp) (f:PV U) (args:List (PV U)):M U:=
 match f with
 | .func g first caps=>
  gz give (first++args++caps) fun all=>
  let q:=uk (lim g) all
  jq q (lim g) 100 (PV.idsL all) [] fun bs0=>ew bs0 fun bs=>
  fQ give all fun all=>
   let ids:=bs.map (·.1)
   bif eQ all bs&&ri q ids then .call g (PV.renL false (aS ids) all) (bs.map fun b=>b.2.renK (bif bH q b.1 then kb g else []) (aS ids)) fun
    | .ret v cs=>
     let new:=bz ((d.getD 0+1)*1000) (cs.length-ids.length)
     let ρ:=fun i=>(ids++new).getD i 0
     bif a7 ids.length cs.length then nF new (gP q (lim g) ((ids++new).zip (cs.map (Box.ren true ρ))) (oE (d.getD 0) (PV.ren true ρ v) fun v=>put d v)) else (match v with
      | .tuple _=> .fail
      | .fresh .. => .fail
      |v=>bif bs0.all (fun x=>x.2.stb) then n5 q bs0 ρ cs (put d (PV.ren true ρ v)) else .fail)
    | .panic v cs=>
     let ρ:=fun i=>ids.getD i 0
     bif ac ids.length cs.length then gP q (lim g) (ids.zip (cs.map (Box.ren true ρ))) (.raise (PV.ren true ρ v)) else .fail
   else .fail
 |_=> .fail
def tv (d:Option Tmp) (t u:TypeId) (x y:PV U):M U:=
 match x with
 | .psl n w cs o=>(match y with
  | .psl n' w' cs' _=>mg V d t u (.psl n w cs o) n' w' cs'
  | .sl _ l _=>(match o,l with
   |true,[]=>(match V.ety t with|some e=>bif ac t u&&ac (V.esz e) w then put d (.psl n w cs true) else .fail| .none=> .fail)
   |_,_=> .fail)
  |_=> .fail)
 |x=>(match y with
  | .psl n w cs _=>mg V d t u x n w cs
  |y=>pi V d t u x y)
def pz (d:Option Tmp) (b:Builtin) (ts:List TypeId) (vs:List (PV U)):M U:=
 match b,ts,vs with
 | .len,[t],[.str s]=>bif ac (V.eqk t) 4 then put d (.int .i64 s.size) else .fail
 | .len,[t],[.mp id]=> .getB id fun
  |some (.map _ l)=>(match V.mty t with|some _=>put d (.int .i64 l.length)| .none=> .fail)
  |_=> .fail
 | .len,[t],[.psl n _ _ _]=>(match V.ety t with|some _=>put d (.int .i64 n)| .none=> .fail)
 | .len,[t],[x]=>oH x fun e l=>bif V.isEl t e then put d (.int .i64 l.length) else .fail
 | .append,[t,u],[x,y]=>tv V d t u x y
 | .min,_,[.int k a,.int _ b]=>put d (.int k (if b<a then b else a))
 | .max,_,[.int k a,.int _ b]=>put d (.int k (if b>a then b else a))
 |_,_,_=> .fail
structure Side (U:Uni) where
 nt:Nat
 give:Nat->List Bool
 inpl:Nat->Bool
 rcv:Option (PV U)
 pin:Nat->Bool:=fun _=>false
 psl:Nat->Bool:=fun _=>false
def Side.boxId (S:Side U) (d:Nat):Nat:=bif S.pin d then 5000000+d else d
variable (S:Side U)
def bh (o:Oper):M U:=
 match o.op with
 | .move x=>ev V x o.type fun v=>put o.dst v
 | .assign x=>ev V x o.type fun v=>put o.dst v
 | .pick c a b=>match c with
  | .tmp j=> .case j (ev V a 0 fun v=>put o.dst v) (ev V b 0 fun v=>put o.dst v) .fail
  |_=> .fail
 | .alloc t=>match o.dst,V.zero t with
  |some d,some z=> .getB (S.boxId d) fun
   | .none=> .setB (S.boxId d) (.cells z) (.setR d (.ptr (S.boxId d) 0) .done)
   |some _=> .fail
  |_,_=> .fail
 | .box t x=>ev V x t fun v=>match o.dst with
  |some d=> .getB (S.boxId d) fun
   | .none=>bif fq V t v then .setB (S.boxId d) (.cells v.cs) (.setR d (.ptr (S.boxId d) 0) .done) else .fail
   |some _=> .fail
  | .none=> .fail
 | .build t parts=>match V.zero t,V.foff t 0 with
  |some z,some _=>lb V (fun i=>match V.foff t i with|some (_,ft)=>ft| .none=>0) parts.toList fun vs=>match fill V t z vs with
   |some cs=>put o.dst (.agg cs)
   | .none=> .fail
  |_,_=> .fail
 | .buildSlice t n parts=>match V.ety t with
  |some e=>bif S.psl (o.dst.getD 0) then lb V (fun _=>0) parts.toList fun vs=>oA (V.esz e) 0 vs fun cs=>(bif ac vs.length n&&a7 n 1000 then put o.dst (.psl n (V.esz e) cs true) else .fail) else
   lb V (fun _=>0) parts.toList fun vs=>nx V e 0 vs fun l=>
   bif ac l.length n&&a7 n 1000 then put o.dst (.sl e l .full) else .fail
  | .none=> .fail
 | .load t a=>ev V a 0 fun v=>nT V t v fun x=>put o.dst x
 | .store t a x=>match o.dst with|some _=> .fail| .none=>ev V a 0 fun p=>ev V x t fun v=>sa V t p v .done
 | .nilCheck x=>ev V x 0 fun v=>match v with
  | .ptr .. =>put o.dst v
  | .pptr .. =>put o.dst v
  | .eptr .. =>put o.dst v
  | .func .. =>put o.dst v
  |_=> .fail
 | .binOp op t x y u=>ev V x 0 fun a=>ev V y u fun b=>kH V op t (match y with| .const _=>true|_=>false) a b fun v=>put o.dst v
 | .unOp op _ x=>ev V x 0 fun a=>un op a fun v=>put o.dst v
 | .convert s t x=>ev V x 0 fun a=>match V.ty s,V.ikind t,a with
  |some _,some k,.int _ n=>put o.dst (.int k (k.wrap n))
  |_,_,_=> .fail
 | .makeFunc (.func f) a b=>fi V a.toList [] fun xs=>fi V b.toList [] fun ys=>put o.dst (.func f xs ys)
 | .makeInterface t x=>ev V x t fun v=>match V.ty t with
  |some r=>bif ac r.eqk 2 then .fail else put o.dst (.iface t v)
  | .none=> .fail
 | .typeAssert x _ t true=>ev V x 0 fun v=>match v,V.ty t with
  | .iface t' p,some r=>bif ac t' t&& !ac r.eqk 2 then put o.dst (.tuple [p,.bool true]) else .fail
  |_,_=> .fail
 | .makeMap t .none=>match o.dst,V.mty t with
  |some d,some e=> .getB d fun
   | .none=> .setB d (.map e []) (.setR d (.mp d) .done)
   |some _=> .fail
  |_,_=> .fail
 | .lookup t m x ok=>ev V m 0 fun m=>ev V x 0 fun key=>oG V t m key fun _ e l x=>
  put o.dst (bif ok then .tuple [.bool ((cW V e l x).getD false),.bool (cW V e l x).isSome] else .bool ((cW V e l x).getD false))
 | .mapUpdate t m x v=>match o.dst with|some _=> .fail| .none=>ev V m 0 fun m=>ev V x 0 fun key=>ev V v 0 fun v=>match v with
  | .bool b=>oG V t m key fun id e l x=> .setB id (.map e (dV V e l x b)) .done
  |_=> .fail
 | .slice t x lo hi mx=>ev V x t fun v=>nB V lo 0 fun a=>nB V hi 0 fun b=>nB V mx 0 fun c=>yM V t v a b c fun r=>put o.dst r
 | .fieldAddr s x f=>ev V x 0 fun v=>match V.soff s f,v with
  |some (off,_),.ptr id n=>put o.dst (.ptr id (n+off))
  |some (off,_),.eptr e y n=>put o.dst (.eptr e y (n+off))
  |some (off,_),.pptr cs n=>put o.dst (.pptr cs (n+off))
  |some (off,_),.optr i w j n=>put o.dst (.optr i w j (n+off))
  |_,_=> .fail
 | .field s x f=>ev V x s fun v=>match V.soff s f,v with
  |some (off,ft),.agg cs=>fN V ft cs off fun r=>put o.dst r
  |_,_=> .fail
 | .indexAddr t x i=>ev V x t fun v=>ev V i 0 fun j=>match v,j with
  | .sl e l _,.int _ n=>bif V.isEl t e then .ask (aM l n) fun y=>put o.dst (.eptr e y 0) else .fail
  | .psl m w cs _,.int _ n=>(match V.ety t with|some e=>bif ac (V.esz e) w then .ask (cm (0<=n/\n<m)) fun _=>put o.dst (.pptr ((cs.drop (n.toNat*w)).take w) 0) else .fail| .none=> .fail)
  | .own i w,.int _ n=>fH i w fun ob=>bif V.isEl t ob.e then .ask (aM ob.l n) fun _=>put o.dst (.optr i w n 0) else .fail
  | .ptr id 0,.int _ n=> .getB id fun
   |some (.cells cs)=>match V.arr t with
    |some m=>bif ac m cs.length&&ac (V.cellsT t) m then .ask (cm (0<=n/\n<cs.length)) fun _=>put o.dst (.aptr id n)
     else bif cG 0 m then .ask (cm (0<=n/\n<m)) fun _=>put o.dst (.ptr id (n.toNat*(V.cellsT t/m))) else .fail
    | .none=> .fail
   |_=> .fail
  |_,_=> .fail
 | .index t x i=>ev V x 0 fun v=>ev V i 0 fun j=>match v,j with
  | .str s,.int _ n=>bif ac (V.eqk t) 4 then .ask (aM s.data.toList n) fun b=>put o.dst (.int .u8 b.toNat) else .fail
  |_,_=> .fail
 | .extract x i=>ev V x 0 fun
  | .tuple vs=>match vs[i]? with|some v=>put o.dst v| .none=> .fail
  |_=> .fail
 | .panic x=>ev V x 0 fun v=>match v with
  | .iface .. => .raise v
  |_=> .fail
 | .call c=>match c.callee with
  | .builtin .recover=>match S.rcv with
   |some v=>put o.dst v
   | .none=> .fail
  | .builtin b=>fi V c.args.toList c.argTypes.toList fun vs=>pz V o.dst b c.argTypes.toList vs
  | .value f=>ev V f 0 fun g=>fi V c.args.toList c.argTypes.toList fun vs=>match S.inpl (o.dst.getD 0),g,vs with
   |true,.func h [] [],x::r=>qj V o.dst h x r
   |_,_,_=>eM V.lim V.kb (S.give (o.dst.getD 0)) o.dst g vs
  | .invoke r nm=>ev V r 0 fun g=>fi V c.args.toList c.argTypes.toList fun vs=>match g with
   | .iface t v=>(match V.inv t nm with|some f=>eM V.lim V.kb (S.give (o.dst.getD 0)) o.dst (.func f [] []) (v::vs)| .none=> .fail)
   |_=> .fail
 |_=> .fail
def eW (o:Oper) (dstOf:Nat->Option Tmp):M U:=
 match o.guard with
 | .none=>bh V S o
 |some (j,want)=>match dstOf j with
  | .none=> .fail
  |some d=> .case d (bif want then bh V S o else put o.dst (.tuple [])) (bif want then put o.dst (.tuple []) else bh V S o) (put o.dst (.tuple []))
end
structure Ann where
 regs:List (Nat×Option (Nat×Bool))
 boxes:List (Nat×List (Option (Nat×Bool)))
structure Kept (U:Uni) where
 objs:List (Nat×Ob U)
 uses:List (Nat×Use)
 used:List Nat
 read:List Nat
def Use.to (w:Bool):Use->Option Use
 | .read=> .none
 | .app=>bif w then .none else some .app
 | .wr=>bif w then some .wr else some .app
def qy (t:Option (Nat×Bool)) (v:PV U) (K:Kept U):Option (PV U×Kept U):=match t with| .none=>bif PV.noObj v then some (v,K) else .none|some _=> .none
def gM (σ:St U) (t:Option (Nat×Bool)) (v:PV U) (K:Kept U):Option (PV U×Kept U):=
 match v with
 | .own i w=>match σ.o i with
  |some ob=>bif ac ob.ver w then
    match t with
    | .none=>some (.sl ob.e ob.l .none,{K with read:=i::K.read})
    |some (j,wr)=>match (σ.u i).to wr with
     | .none=> .none
     |some u=>bif K.used.any (ac i) then .none else some (.own j 0,⟨(j,⟨0,ob.e,ob.l⟩)::K.objs,(j,u)::K.uses,i::K.used,K.read⟩)
   else .none
  | .none=> .none
 | .sl e l o=>match t,o with
  | .none,_=>some (.sl e l .none,K)
  |some _,.none=> .none
  |some _,.void=> .none
  |some _,.sure=> .none
  |some (j,wr),.full=>bif wr then .none else some (.own j 0,⟨(j,⟨0,e,l⟩)::K.objs,(j,.app)::K.uses,K.used,K.read⟩)
  |some (j,wr),.nil=>some (.own j 0,⟨(j,⟨0,e,[]⟩)::K.objs,(j,bif wr then .wr else .app)::K.uses,K.used,K.read⟩)
 | .agg _=> .none
 | .tuple _=> .none
 | .optr .. => .none
 | .fresh .. => .none
 |v=>qy t v K
def jc (σ:St U):List (Nat×Option (Nat×Bool))->Kept U->Option (List (Nat×PV U)×Kept U)
 |[],K=>some ([],K)
 |(n,t)::r,K=>match gM σ t (σ.r n) K with
  |some (v,K)=>match jc σ r K with
   |some (l,K)=>some ((n,v)::l,K)
   | .none=> .none
  | .none=> .none
def fM (σ:St U):List (Option (Nat×Bool))->List (PV U)->Kept U->Option (List (PV U)×Kept U)
 |[],[],K=>some ([],K)
 |t::ts,v::vs,K=>match gM σ t v K with
  |some (v,K)=>match fM σ ts vs K with
   |some (l,K)=>some (v::l,K)
   | .none=> .none
  | .none=> .none
 |_,_,_=> .none
def dX (σ:St U):List (Nat×List (Option (Nat×Bool)))->Kept U->Option (List (Nat×Box U)×Kept U)
 |[],K=>some ([],K)
 |(n,ts)::r,K=>match σ.b n with
  |some (.cells cs)=>match fM σ ts cs K with
   |some (c,K)=>match dX σ r K with
    |some (l,K)=>some ((n,.cells c)::l,K)
    | .none=> .none
   | .none=> .none
  |some (.map e l)=>match dX σ r K with
   |some (r,K)=>some ((n,.map e l)::r,K)
   | .none=> .none
  | .none=> .none
def cR (A:Ann) (σ:St U):Option (St U):=
 match jc σ A.regs ⟨[],[],[],[]⟩ with
 |some (rs,K)=>match dX σ A.boxes K with
  |some (bs,K)=>
   bif !(K.used.any fun i=>K.read.any (ac i))&&gw (K.objs.map (·.1))&&(gw (bs.map (·.1))&&((PV.idsL (rs.map (·.2))++bs.flatMap (·.2.ids)).all fun i=>(bs.map (·.1)).any (ac i)))
   then some ⟨rs,bs,K.objs,K.uses⟩ else .none
  | .none=> .none
 | .none=> .none
def aW (nt:Nat) (o:Oper):Bool:=match o.dst with|some d=>cG d nt| .none=>true
inductive Ex (U:Uni) where
 |normal
 |exit (id:Nat)
 |ret
 |panic (v:PV U)
def back {R:Type} (cn:St U->Option (St U)) (r:St U->Option R) (κ:Ex U->St U->Option R):Ex U->St U->Option R
 | .normal,σ'=>match cn σ' with
  |some τ=>r τ
  | .none=> .none
 |e,σ'=>κ e σ'
def lw {R:Type} (cn:St U->Option (St U)) (body:St U->(Ex U->St U->Option R)->Option R):Nat->St U->(Ex U->St U->Option R)->Option R
 |0,_,_=> .none
 |n+1,σ,κ=>body σ (back cn (fun τ=>lw cn body n τ κ) κ)
def qn {R:Type} (body:St U->(Ex U->St U->Option R)->Option R):Nat->St U->(Ex U->St U->Option R)->Option R
 |0,_,_=> .none
 |_+1,σ,κ=>body σ κ
def ab {R S:Type}:Nat->((R->Option S)->Option S)->(R->Option S)->Option S
 |0,_,_=> .none
 |_+1,f,g=>f g
theorem b_ {R S:Type} {k:Nat} {f:(R->Option S)->Option S} {g:R->Option S} {x:S} (h:ab k f g=some x):f g=some x:=by
 cases k with
 |zero=>cases h
 |succ k=>exact h
theorem tM {R S:Type} {k:Nat} (h:0<k) (f:(R->Option S)->Option S) (g:R->Option S):ab k f g=f g:=by
 cases k with
 |zero=>exact absurd h (Nat.lt_irrefl 0)
 |succ k=>rfl
def fj:Code->Nat
 | .region id _ _=>id
 | .seq a _=>fj a
 | .block _ a=>fj a
 | .loop a=>fj a
 | .scope a=>fj a
 |_=>0
def dO (ops:List Oper) (j:Nat):Option Tmp:=match ops[j]? with|some o=>o.dst| .none=> .none
def Loc.meets:Loc->Loc->Bool
 | .rr n,.wr m=>ac n m
 | .wr n,.rr m=>ac n m
 | .wr n,.wr m=>ac n m
 | .rb n,.wb m=>ac n m
 | .wb n,.rb m=>ac n m
 | .wb n,.wb m=>ac n m
 | .rb n,.wh m _=>ac n m
 | .wh n _,.rb m=>ac n m
 | .rt n _,.wb m=>ac n m
 | .wb n,.rt m _=>ac n m
 | .rh n _,.wb m=>ac n m
 | .wb n,.rh m _=>ac n m
 | .rt n i,.wh m j=>ac n m&&cG i j
 | .wh n i,.rt m j=>ac n m&&cG j i
 | .rh n _,.wh m _=>ac n m
 | .wh n _,.rh m _=>ac n m
 | .wh n _,.wh m _=>ac n m
 | .wh n _,.wb m=>ac n m
 | .wb n,.wh m _=>ac n m
 | .ro n,.wo m=>ac n m
 | .wo n,.ro m=>ac n m
 | .wo n,.wo m=>ac n m
 | .ru n,.wu m=>ac n m
 | .wu n,.ru m=>ac n m
 | .wu n,.wu m=>ac n m
 | .ru n,.fu m=>ac n m
 | .fu n,.ru m=>ac n m
 | .wu n,.fu m=>ac n m
 | .fu n,.wu m=>ac n m
 |_,_=>false
def cQ (a b:List Loc):Bool:= !(a.any fun x=>b.any fun y=>x.meets y)
def lJ (acc:List Nat) (o:Oper):Nat:=o.after.toList.foldl (fun s e=>bif Region.binds .any e then s|||2^e.on|||acc.getD e.on 0 else s) 0
def ce:List Oper->List Nat->List Nat
 |[],acc=>acc
 |o::r,acc=>ce r (acc++[lJ acc o])
def eP:Nat->List Oper->Bool
 |_,[]=>true
 |n,o::r=>(o.after.toList.all fun e=> !Region.binds .any e||cG e.on n)&&eP (n+1) r
def gy (before:List Nat):Nat->List (List Loc)->List (List Loc)->Bool
 |_,_,[]=>true
 |j,done,f::r=>((done.zip (bz 0 done.length)).all fun (g,i)=>((before.getD j 0).testBit i||cQ g f))&&gy before (j+1) (done++[f]) r
def harmless (σ0:St U) (f:List Loc):Bool:=f.all fun
 | .wb id=>(σ0.b id).isNone
 | .wh .. =>false
 | .wo _=>false
 | .wu _=>false
 | .fu _=>false
 |_=>true
def nS (bf:List Nat):List (Nat×List Loc)->List (Nat×List Loc)->Bool
 |_,[]=>true
 |done,x::r=>(done.all fun y=>(bf.getD x.1 0).testBit y.1||cQ y.2 x.2)&&nS bf (done++[x]) r
def vn (j:Nat) (ops:List Oper) (ll:List (Nat×List Loc)):Bool:=ll.all fun x=>match ops[x.1]? with
 |some o=>o.after.toList.all fun e=> !Region.binds .any e||(a7 e.on j||ll.any fun y=>ac y.1 e.on)
 | .none=>false
def lW (ops:List Oper) (σ0:St U) (fps:List (List Loc)) (ll:List (Nat×List Loc)):Bool:=
 let j:=fps.length-1
 let bf:=ce ops []
 eP 0 ops&&(gy bf 0 [] fps&&(((bz 0 j).all fun i=>(bf.getD j 0).testBit i||harmless σ0 (fps.getD i []))&&(ll.all (fun x=>harmless σ0 x.2)&&(nS bf ((bz 0 fps.length).zip fps) ll&&vn j ops ll))))
def jl:List Nat->List Nat
 |[]=>[]
 |n::r=>bif r.any (ac n) then jl r else n::jl r
def eY (σ0 σ1:St U):Ann:=⟨[],(jl (σ0.box.map (·.1))).map fun id=>(id,match σ1.b id with|some (.cells cs)=>cs.map fun _=> .none|_=>[])⟩
def PV.isErr:PV U->Bool
 | .iface _ (.int _ _)=>true
 |_=>false
section
variable {R:Type} (V:Env U) (S:Side U) (C:Oracle U R) (ann:Nat->Option Ann) (fuel:Nat)
def jX (all:List Oper):List Oper->List (List Loc)->St U->(Ex U->St U->List (List Loc)->Option R)->Option R
 |[],fps,σ,κ=>κ .normal σ fps
 |o::r,fps,σ,κ=>(eW V S o (dO all)).cps C σ [] fun
  | .done,σ',fp=>jX all r (fps++[fp]) σ' κ
  | .raise v,σ',fp=>κ (.panic v) σ' (fps++[fp])
  | .out _,_,_=> .none
def lq (all:List Oper) (bf:List Nat) (j:Nat):Nat->List Oper->St U->(List (Nat×List Loc)->Option R)->Option R
 |_,[],_,κ=>κ []
 |i,o::r,σ,κ=>bif (bf.getD i 0).testBit j then lq all bf j (i+1) r σ κ else (eW V S o (dO all)).cps C σ [] fun
  | .done,σ',fp=>lq all bf j (i+1) r σ' fun l=>κ ((i,fp)::l)
  |_,_,_=> .none
def run:Code->St U->(Ex U->St U->Option R)->Option R
 | .skip,σ,κ=>κ .normal σ
 | .label _,σ,κ=>κ .normal σ
 | .region _ ops draw,σ,κ=>bif ops.toList.all (aW S.nt) then jX V S C ops.toList ops.toList [] σ fun
  | .normal,σ',fps=>bif !draw||(eP 0 ops.toList&&gy (ce ops.toList []) 0 [] fps) then κ .normal σ' else .none
  | .panic v,σ',fps=>bif draw then lq V S C ops.toList (ce ops.toList []) (fps.length-1) fps.length (ops.toList.drop fps.length) σ' (fun ll=>bif v.isErr&&lW ops.toList σ fps ll then (match cR (eY σ σ') σ' with|some τ=>κ (.panic v) τ| .none=> .none) else .none) else κ (.panic v) σ'
  |e,σ',_=>bif draw then .none else κ e σ'
  else .none
 | .seq a b,σ,κ=>run a σ fun
  | .normal,σ'=>match ann (1000000+fj b) with
   |some A=>match cR A σ' with
    |some τ=>qn (fun σ κ=>run b σ κ) fuel τ κ
    | .none=> .none
   | .none=>run b σ' κ
  |e,σ'=>κ e σ'
 | .cond c a b,σ,κ=>match c with
  | .tmp j=>match σ.r j with
   | .bool t=>bif t then run a (σ.setR j (.bool true)) κ else run b (σ.setR j (.bool false)) κ
   |_=> .none
  |_=> .none
 | .block id a,σ,κ=>run a σ fun
  | .exit j,σ'=>bif ac j id then κ .normal σ' else κ (.exit j) σ'
  |e,σ'=>κ e σ'
 | .loop a,σ,κ=>match ann (fj a) with
  |some A=>match cR A σ with
   |some τ=>lw (cR A) (fun σ κ=>run a σ κ) fuel τ κ
   | .none=> .none
  | .none=> .none
 | .scope a,σ,κ=>run a σ κ
 | .exit id,σ,κ=>κ (.exit id) σ
 | .ret,σ,κ=>κ .ret σ
 |_,_,_=> .none
def iL (res:List ResultVar) (k:List (PV U)->M U):M U:=
 match res with
 |[]=>k []
 | .tmp t::r=> .getR t fun v=>iL r fun vs=>k (v::vs)
 | .cell a t::r=> .getR a fun p=>nT V t p fun v=>iL r fun vs=>k (v::vs)
def gI (vs:List (PV U)):PV U:=match vs with|[v]=>v|vs=> .tuple vs
def ci (k:Nat):Nat:=1000000+k
def yT (n:Nat):PV U->PV U
 | .fresh _ _=> .own (2000000+n) 0
 |v=>PV.ren true ci v
def l7:Nat->List (PV U)->List (Nat×PV U)
 |_,[]=>[]
 |n,v::r=>(n,yT n v)::l7 (n+1) r
def eE:Nat->List (PV U)->List (Nat×Ob U)
 |_,[]=>[]
 |n,.fresh e l::r=>(2000000+n,⟨0,e,l⟩)::eE (n+1) r
 |n,_::r=>eE (n+1) r
def eD (args:List (PV U)) (boxes:List (Box U)):St U:=
 ⟨l7 0 args,(bz (ci 0) boxes.length).zip (boxes.map (Box.ren true ci)),eE 0 args,(eE 0 args).map fun x=>(x.1,.wr)⟩
def ez:List Nat->(List (Nat×Box U)->M U)->M U
 |[],k=>k []
 |id::r,k=> .getB id fun
  |some c=>ez r fun l=>k ((id,c)::l)
  | .none=> .fail
def PV.asFull:PV U->Option (PV U)
 | .sl e l .nil=>some (.sl e l .full)
 | .sl e l .full=>some (.sl e l .full)
 |_=> .none
def s8 (hand:List Bool) (vs:List (PV U)) (k:List (PV U)->M U):M U:=
 bif ac hand.length (vs.length+1) then (match vs with
  |[v]=>(match v.asFull with|some v=>k [v]| .none=> .fail)
  |_=> .fail) else k vs
def rH (keep:Bool) (res:List ResultVar) (nb:Nat):M U:=
 iL V res fun vs=>match vs with
  |[.ptr id 0]=> .getB id fun
   |some (.cells cs)=>d6 cs fun cs=>ez (bz (ci 0) nb) fun bs=>ew bs fun bs=>
    let ids:=bs.map (·.1)
    bif eQ cs bs&&cG id 1000000 then .out (.ret (.pptr (PV.renL true (aS ids) cs) 0) (bs.map fun b=>b.2.ren keep (aS ids))) else .fail
   |_=> .fail
  |_=> .fail
def fG (keep:Bool) (hand:List Bool) (res:List ResultVar) (nb:Nat):M U:=
 bif ac hand.length 9 then rH V keep res nb else
 iL V res fun vs=>s8 hand vs fun vs=>gz hand vs fun vs=>ez (bz (ci 0) nb) fun bs=>
  ld 100 (PV.idsL vs++bs.flatMap (·.2.ids)) bs fun all=>ew all fun all=>fQ hand vs fun vs=>
   let ids:=all.map (·.1)
   bif eQ vs all then .out (.ret (gI (PV.renL keep (aS ids) vs)) (all.map fun b=>b.2.ren keep (aS ids))) else .fail
def q_ (v:PV U) (nb:Nat):M U:=
 ez (bz (ci 0) nb) fun bs=>ew bs fun bs=>frz v fun v=>
  let ids:=bs.map (·.1)
  bif eQ [v] bs then .out (.panic (PV.ren false (aS ids) v) (bs.map fun b=>b.2.ren false (aS ids))) else .fail
def fin (κ:Out U->Option R):MR U->St U->List Loc->Option R
 | .out o,_,_=>κ o
 |_,_,_=> .none
def kF (keep:Bool) (hand:List Bool) (fn:Func) (nb:Nat) (κ:Out U->Option R):Ex U->St U->Option R
 | .normal,σ=>(fG V keep hand fn.results.toList nb).cps C σ [] (fin κ)
 | .ret,σ=>(fG V keep hand fn.results.toList nb).cps C σ [] (fin κ)
 | .panic v,σ=>(q_ v nb).cps C σ [] (fin κ)
 | .exit _,_=> .none
def er (fn:Func):Code:=match fn.body with|some c=>c| .none=> .skip
def jW (keep:Bool) (hand:List Bool) (fn:Func) (args:List (PV U)) (boxes:List (Box U)) (κ:Out U->Option R):Option R:=
 run V S C ann fuel (er fn) (eD args boxes) (kF V C keep hand fn boxes.length κ)
def eN:Code->List Bool->Code
 | .seq a _,false::p=>eN a p
 | .seq _ b,true::p=>eN b p
 | .cond _ a _,false::p=>eN a p
 | .cond _ _ b,true::p=>eN b p
 | .block _ a,_::p=>eN a p
 | .loop a,_::p=>eN a p
 | .scope a,_::p=>eN a p
 |c,_=>c
def fS:Code->List Bool->List (St U->Option R)->(Nat->Option Ann)->(Ex U->St U->Option R)->Ex U->St U->Option R
 | .seq a b,false::p,rs,an,κ=>fS a p rs an fun
  | .normal,σ'=>match ann (1000000+fj b) with
   |some A=>match cR A σ' with
    |some τ=>qn (fun σ κ=>run V S C ann fuel b σ κ) fuel τ κ
    | .none=> .none
   | .none=>run V S C ann fuel b σ' κ
  |e,σ'=>κ e σ'
 | .seq _ b,true::p,rs,an,κ=>fS b p rs an κ
 | .cond _ a _,false::p,rs,an,κ=>fS a p rs an κ
 | .cond _ _ b,true::p,rs,an,κ=>fS b p rs an κ
 | .block id a,_::p,rs,an,κ=>fS a p rs an fun
  | .exit j,σ'=>bif ac j id then κ .normal σ' else κ (.exit j) σ'
  |e,σ'=>κ e σ'
 | .loop a,_::p,r::rs,an,κ=>fS a p rs an (match an (fj a) with
  |some A=>back (cR A) r κ
  | .none=>κ)
 | .scope a,_::p,rs,an,κ=>fS a p rs an κ
 |_,_,_,_,κ=>κ
end
end
end Go.Proofs.YtlidjlacmpaefaaGreatDoor.PI
namespace Go.Proofs.YtlidjlacmpaefaaGreatDoor
open Go PI
structure Cl where
 pos:Int
 neg:Int
structure Br (T:Type) where
 face:List Cl
 kids:List T
inductive Tm where
 |mk (kind n:Int) (name:ByteArray) (r:List Cl) (kids:List Tm) (sys:List (Br Tm))
def Tm.kind:Tm->Int| .mk k _ _ _ _ _=>k
def Tm.n:Tm->Int| .mk _ n _ _ _ _=>n
def Tm.name:Tm->ByteArray| .mk _ _ s _ _ _=>s
def Tm.r:Tm->List Cl| .mk _ _ _ r _ _=>r
def Tm.kids:Tm->List Tm| .mk _ _ _ _ l _=>l
def Tm.sys:Tm->List (Br Tm)| .mk _ _ _ _ _ l=>l
structure Df where
 name:ByteArray
 body:Tm
inductive ET where|C|T|B|I|F|D|G|K|R
 deriving DecidableEq
def EL:ET->Type
 | .C=>Cl| .T=>Tm| .B=>Br Tm| .I=>Int| .F=>List Cl| .D=>Df| .G=>Df| .K=>Tm| .R=>Unit
def UU:Uni:=⟨ET,inferInstance,EL⟩
abbrev PU:=PV UU
abbrev bm (l:List Cl) (o:Own):PU:= .sl (U:=UU) ET.C l o
abbrev bQ (l:List Tm) (o:Own):PU:= .sl (U:=UU) ET.T l o
abbrev bZ (l:List (Br Tm)) (o:Own):PU:= .sl (U:=UU) ET.B l o
abbrev Ic (l:List Int) (o:Own):PU:= .sl (U:=UU) ET.I l o
abbrev cL (l:List (List Cl)) (o:Own):PU:= .sl (U:=UU) ET.F l o
abbrev cr (l:List Df) (o:Own):PU:= .sl (U:=UU) ET.D l o
abbrev f_ (l:List Df) (o:Own):PU:= .sl (U:=UU) ET.G l o
def pC (d:Df):List PU:=[.str (Df.name d),.int .i64 (Tm.kind (Df.body d)),.int .i64 (Tm.n (Df.body d)),.str (Tm.name (Df.body d)),bm (Tm.r (Df.body d)) .none,bQ (Tm.kids (Df.body d)) .none,bZ (Tm.sys (Df.body d)) .none]
abbrev de (l:List Tm) (o:Own):PU:= .sl (U:=UU) ET.K l o
def dh:(e:ET)->EL e->List PU
 | .C,c=>[.int .u32 (Cl.pos c),.int .u32 (Cl.neg c)]
 | .T,t=>[.int .i64 (Tm.kind t),.int .i64 (Tm.n t),.str (Tm.name t),bm (Tm.r t) .none,bQ (Tm.kids t) .none,bZ (Tm.sys t) .none]
 | .B,b=>[bm (Br.face b) .none,bQ (Br.kids b) .none]
 | .I,(n:Int)=>[.int .i64 n]
 | .F,l=>[bm l .none]
 | .D,(d:Df)=>pC d
 | .G,(d:Df)=>pC d
 | .K,(t:Tm)=>[.int .i64 (Tm.kind t),.int .i64 (Tm.n t),.str (Tm.name t),bm (Tm.r t) .none,bQ (Tm.kids t) .none,bZ (Tm.sys t) .none,.any]
 | .R,(_:Unit)=>[.any]
def g8:PU->Option (List Cl)
 | .sl .C l _=>some l
 |_=> .none
def i9:PU->Option (List Tm)
 | .sl .T l _=>some l
 |_=> .none
def ke:PU->Option (List (Br Tm))
 | .sl .B l _=>some l
 |_=> .none
def sR:List PU->Option Cl
 |[.int .u32 a,.int .u32 b]=>some ⟨a,b⟩
 |_=> .none
def sW:List PU->Option Tm
 |[.int .i64 k,.int .i64 n,.str s,r,l,b]=>match g8 r,i9 l,ke b with
  |some r,some l,some b=>some (Tm.mk k n s r l b)
  |_,_,_=> .none
 |_=> .none
def sQ:List PU->Option (Br Tm)
 |[r,l]=>match g8 r,i9 l with
  |some r,some l=>some ⟨r,l⟩
  |_,_=> .none
 |_=> .none
def sU:List PU->Option Int
 |[.int .i64 n]=>some n
 |_=> .none
def sS:List PU->Option (List Cl)
 |[r]=>g8 r
 |_=> .none
def j1:List PU->Option Df
 |[.str s,.int .i64 k,.int .i64 n,.str s',r,l,b]=>match g8 r,i9 l,ke b with
  |some r,some l,some b=>some ⟨s,Tm.mk k n s' r l b⟩
  |_,_,_=> .none
 |_=> .none
def sV:List PU->Option Tm
 |[.int .i64 k,.int .i64 n,.str s,r,l,b,q]=>bif q.isCell then (match g8 r,i9 l,ke b with
  |some r,some l,some b=>some (Tm.mk k n s r l b)
  |_,_,_=> .none) else .none
 |_=> .none
def yZ:(e:ET)->List PU->Option (EL e)
 | .C,l=>sR l
 | .T,l=>sW l
 | .B,l=>sQ l
 | .I,l=>sU l
 | .F,l=>sS l
 | .D,l=>j1 l
 | .G,l=>j1 l
 | .K,l=>sV l
 | .R,_=> .none
def aF (t:Tm):Tm:=Tm.mk t.kind t.n t.name t.r t.kids t.sys
theorem bt (t:Tm):aF t=t:=by cases t;rfl
def k_ (d:Df):Df:=⟨d.name,aF d.body⟩
theorem p7 (d:Df):k_ d=d:=by cases d;rw [k_,bt]
abbrev Ds (l:List Cl):PU:= .fresh (U:=UU) ET.C l
abbrev Dt (l:List Tm):PU:= .fresh (U:=UU) ET.T l
abbrev Dr (l:List (Br Tm)):PU:= .fresh (U:=UU) ET.B l
def gm (a b:Cl):Bool:=decide (a.pos<b.pos)||(a.pos==b.pos&&decide (a.neg<=b.neg))
def sortCl (l:List Cl):List Cl:=l.mergeSort gm
inductive Pan (E A:Type) where
 |ok (a:A)
 |pan (e:E)
def Pan.elim {E A B:Type} (p:Pan E A) (f:A->B) (g:E->B):B:=match p with| .ok a=>f a| .pan e=>g e
end Go.Proofs.YtlidjlacmpaefaaGreatDoor
namespace Go.Proofs.YtlidjlacmpaefaaGreatDoor
open Go PI
set_option linter.unusedVariables false
set_option maxRecDepth 100000
noncomputable section
noncomputable def aa {α:Type} (c:Bool) (a b:α):α:=Bool.casesOn c b a
theorem aH {α:Type} (x y:α):aa true x y=x:=rfl
theorem ax {α:Type} (x y:α):aa false x y=y:=rfl
def l9 (t:Nat):Option (Ty UU):=match t with
 |1=>some ⟨1,false,[.nilFunc],[],.none,.none,.none,0,.none⟩
 |3=>some ⟨1,false,[(.int .i64 0)],[],.none,.none,some .i64,0,.none⟩
 |4=>some ⟨1,false,[(.bool false)],[],.none,.none,.none,3,.none⟩
 |5=>some ⟨1,false,[(.int .u8 0)],[],.none,.none,some .u8,0,.none⟩
 |9=>some ⟨1,false,[(.str aY)],[],.none,.none,.none,4,.none⟩
 |20=>some ⟨1,false,[.nilIface],[],.none,.none,.none,2,.none⟩
 |22=>some ⟨1,false,[(f_ [] .nil)],[],some .G,.none,.none,0,.none⟩
 |23=>some ⟨1,false,[(bm [] .nil)],[],some .C,.none,.none,0,.none⟩
 |24=>some ⟨1,false,[(bQ [] .nil)],[],some .T,.none,.none,0,.none⟩
 |25=>some ⟨1,false,[(bZ [] .nil)],[],some .B,.none,.none,0,.none⟩
 |27=>some ⟨6,true,[(.int .i64 0),(.int .i64 0),(.str aY),(bm [] .nil),(bQ [] .nil),(bZ [] .nil)],[(0,3),(1,3),(2,9),(3,23),(4,24),(5,25)],.none,.none,.none,0,.none⟩
 |29=>some ⟨1,false,[.nilFunc],[],.none,.none,.none,0,.none⟩
 |32=>some ⟨9,true,[(.int .i64 0),(.int .i64 0),(.str aY),(bm [] .nil),(bQ [] .nil),(bZ [] .nil),(.int .i64 0),(.int .i64 0),(.int .i64 0)],[(0,27),(6,3),(7,3),(8,3)],.none,.none,.none,0,.none⟩
 |33=>some ⟨1,false,[(.int .i64 0)],[],.none,.none,some .i64,0,.none⟩
 |36=>some ⟨1,false,[(cr [] .nil)],[],some .D,.none,.none,0,.none⟩
 |38=>some ⟨1,false,[.nilFunc],[],.none,.none,.none,0,.none⟩
 |43=>some ⟨7,true,[(.str aY),(.int .i64 0),(.int .i64 0),(.str aY),(bm [] .nil),(bQ [] .nil),(bZ [] .nil)],[(0,9),(1,27)],.none,.none,.none,0,.none⟩
 |46=>some ⟨7,true,[(.str aY),(.int .i64 0),(.int .i64 0),(.str aY),(bm [] .nil),(bQ [] .nil),(bZ [] .nil)],[(0,9),(1,27)],.none,.none,.none,0,.none⟩
 |47=>some ⟨1,false,[.nilFunc],[],.none,.none,.none,0,.none⟩
 |48=>some ⟨1,false,[.nilPtr],[],.none,.none,.none,5,.none⟩
 |53=>some ⟨1,false,[.nilPtr],[],.none,.none,.none,5,.none⟩
 |54=>some ⟨1,false,[(.psl 0 1 [] true)],[],some .R,.none,.none,0,.none⟩
 |56=>some ⟨15,true,[(.int .i64 0),(.int .i64 0),(.str aY),(bm [] .nil),(bQ [] .nil),(bZ [] .nil),(.int .i64 0),(.int .i64 0),(.int .i64 0),(cr [] .nil),(.int .i64 0),(.int .i64 0),.nilPtr,(.psl 0 1 [] true),(.bool false)],[(0,32),(9,36),(10,3),(11,3),(12,53),(13,54),(14,4)],.none,.none,.none,0,.none⟩
 |57=>some ⟨1,false,[.nilFunc],[],.none,.none,.none,0,.none⟩
 |61=>some ⟨2,true,[(bm [] .nil),(bQ [] .nil)],[(0,23),(1,24)],.none,.none,.none,0,.none⟩
 |68=>some ⟨1,false,[.nilFunc],[],.none,.none,.none,0,.none⟩
 |69=>some ⟨1,false,[(de [] .nil)],[],some .K,.none,.none,0,.none⟩
 |70=>some ⟨1,false,[(cL [] .nil)],[],some .F,.none,.none,0,.none⟩
 |72=>some ⟨2,true,[(de [] .nil),(cL [] .nil)],[(0,69),(1,70)],.none,.none,.none,0,.none⟩
 |74=>some ⟨7,true,[(.int .i64 0),(.int .i64 0),(.str aY),(bm [] .nil),(bQ [] .nil),(bZ [] .nil),.nilPtr],[(0,27),(6,53)],.none,.none,.none,0,.none⟩
 |80=>some ⟨1,false,[.nilPtr],[],.none,.none,.none,5,.none⟩
 |82=>some ⟨2,true,[(cr [] .nil),(.int .i64 0)],[(0,36),(1,3)],.none,.none,.none,0,.none⟩
 |84=>some ⟨1,false,[(.int .u32 0)],[],.none,.none,some .u32,0,.none⟩
 |86=>some ⟨2,true,[(.int .u32 0),(.int .u32 0)],[(0,84),(1,84)],.none,.none,.none,1,.none⟩
 |89=>some ⟨1,false,[.nilFunc],[],.none,.none,.none,0,.none⟩
 |96=>some ⟨1,false,[.nilFunc],[],.none,.none,.none,0,.none⟩
 |105=>some ⟨1,false,[.nilFunc],[],.none,.none,.none,0,.none⟩
 |107=>some ⟨1,false,[.nilFunc],[],.none,.none,.none,0,.none⟩
 |113=>some ⟨1,false,[.nilFunc],[],.none,.none,.none,0,.none⟩
 |114=>some ⟨1,false,[(.int .u64 0)],[],.none,.none,some .u64,0,.none⟩
 |116=>some ⟨1,false,[.nilIface],[],.none,.none,.none,2,.none⟩
 |121=>some ⟨7,true,[(.int .i64 0),(.int .i64 0),(.str aY),(bm [] .nil),(bQ [] .nil),(bZ [] .nil),.nilPtr],[(0,74)],.none,.none,.none,0,.none⟩
 |123=>some ⟨1,true,[(.int .i64 0)],[(0,3)],.none,.none,.none,1,.none⟩
 |126=>some ⟨7,true,[(.int .i64 0),(.int .i64 0),(.str aY),(bm [] .nil),(bQ [] .nil),(bZ [] .nil),.nilPtr],[(0,74)],.none,.none,.none,0,.none⟩
 |127=>some ⟨7,true,[(.int .i64 0),(.int .i64 0),(.str aY),(bm [] .nil),(bQ [] .nil),(bZ [] .nil),.nilPtr],[(0,74)],.none,.none,.none,0,.none⟩
 |131=>some ⟨1,false,[.nilFunc],[],.none,.none,.none,0,.none⟩
 |136=>some ⟨15,true,[(.int .i64 0),(.int .i64 0),(.str aY),(bm [] .nil),(bQ [] .nil),(bZ [] .nil),.nilPtr,(.int .i64 0),(.int .i64 0),(.str aY),(bm [] .nil),(bQ [] .nil),(bZ [] .nil),.nilPtr,(bm [] .nil)],[(0,74),(7,74),(14,23)],.none,.none,.none,0,.none⟩
 |140=>some ⟨2,true,[(bQ [] .nil),(cL [] .nil)],[(0,24),(1,70)],.none,.none,.none,0,.none⟩
 |152=>some ⟨1,false,[.nilFunc],[],.none,.none,.none,0,.none⟩
 |153=>some ⟨1,false,[.undef],[],.none,some .C,.none,0,.none⟩
 |155=>some ⟨1,false,[.nilFunc],[],.none,.none,.none,0,.none⟩
 |157=>some ⟨1,false,[.nilFunc],[],.none,.none,.none,0,.none⟩
 |159=>some ⟨4,true,[.nilFunc,.nilFunc,.nilFunc,.nilFunc],[(0,131),(1,131),(2,157),(3,157)],.none,.none,.none,0,.none⟩
 |164=>some ⟨1,false,[.nilPtr],[],.none,.none,.none,5,.none⟩
 |166=>some ⟨1,true,[(.int .i64 0)],[(0,33)],.none,.none,.none,1,.none⟩
 |171=>some ⟨1,false,[.nilFunc],[],.none,.none,.none,0,.none⟩
 |173=>some ⟨1,false,[.nilPtr],[],.none,.none,.none,5,.none⟩
 |175=>some ⟨8,true,[(.int .i64 0),(bm [] .nil),(.int .i64 0),(.int .i64 0),(.str aY),(bm [] .nil),(bQ [] .nil),(bZ [] .nil)],[(0,166),(1,23),(2,27)],.none,.none,.none,0,.none⟩
 |176=>some ⟨1,false,[.nilPtr],[],.none,.none,.none,5,.none⟩
 |178=>some ⟨8,true,[(.int .i64 0),(.int .i64 0),(.int .i64 0),(.str aY),(bm [] .nil),(bQ [] .nil),(bZ [] .nil),(bZ [] .nil)],[(0,166),(1,27),(7,25)],.none,.none,.none,0,.none⟩
 |179=>some ⟨1,false,[.nilFunc],[],.none,.none,.none,0,.none⟩
 |186=>some ⟨1,false,[.nilFunc],[],.none,.none,.none,0,.none⟩
 |187=>some ⟨1,false,[.nilFunc],[],.none,.none,.none,0,.none⟩
 |189=>some ⟨1,false,[(Ic [] .nil)],[],some .I,.none,.none,0,.none⟩
 |191=>some ⟨1,false,[.nilFunc],[],.none,.none,.none,0,.none⟩
 |200=>some ⟨1,false,[.nilFunc],[],.none,.none,.none,0,.none⟩
 |204=>some ⟨1,false,[.nilPtr],[],.none,.none,.none,5,.none⟩
 |206=>some ⟨21,true,[(.int .i64 0),(bm [] .nil),(.int .i64 0),(.int .i64 0),(.str aY),(bm [] .nil),(bQ [] .nil),(bZ [] .nil),(bZ [] .nil),(.int .i64 0),(.int .i64 0),(.str aY),(bm [] .nil),(bQ [] .nil),(bZ [] .nil),(.int .i64 0),(.int .i64 0),(.str aY),(bm [] .nil),(bQ [] .nil),(bZ [] .nil)],[(0,166),(1,23),(2,27),(8,25),(9,27),(15,27)],.none,.none,.none,0,.none⟩
 |209=>some ⟨1,false,[.nilFunc],[],.none,.none,.none,0,.none⟩
 |212=>some ⟨1,false,[.nilFunc],[],.none,.none,.none,0,.none⟩
 |213=>some ⟨1,false,[.nilFunc],[],.none,.none,.none,0,.none⟩
 |218=>some ⟨1,false,[.nilFunc],[],.none,.none,.none,0,.none⟩
 |220=>some ⟨1,false,[(.int .i64 0)],[],.none,.none,some .i64,0,.none⟩
 |228=>some ⟨1,false,[(.int .u64 0)],[],.none,.none,some .u64,0,.none⟩
 |230=>some ⟨1,false,[.nilFunc],[],.none,.none,.none,0,.none⟩
 |231=>some ⟨1,false,[.nilFunc],[],.none,.none,.none,0,.none⟩
 |236=>some ⟨1,false,[.nilPtr],[],.none,.none,.none,5,.none⟩
 |240=>some ⟨1,true,[(.int .i64 0)],[(0,33)],.none,.none,.none,1,.none⟩
 |242=>some ⟨1,true,[(.int .i64 0)],[(0,240)],.none,.none,.none,0,.none⟩
 |246=>some ⟨2,true,[(.int .i64 0),(.int .i64 0)],[(0,3),(1,3)],.none,.none,.none,1,.none⟩
 |252=>some ⟨1,false,[.nilFunc],[],.none,.none,.none,0,.none⟩
 |253=>some ⟨1,false,[(.int .u64 0)],[],.none,.none,some .u64,0,.none⟩
 |257=>some ⟨1,false,[.nilPtr],[],.none,.none,.none,5,.none⟩
 |261=>some ⟨1,false,[.nilFunc],[],.none,.none,.none,0,.none⟩
 |264=>some ⟨1,false,[.nilPtr],[],.none,.none,.none,5,.none⟩
 |267=>some ⟨1,false,[.nilFunc],[],.none,.none,.none,0,.none⟩
 |269=>some ⟨2,true,[.nilFunc,.nilFunc],[(0,267),(1,267)],.none,.none,.none,0,.none⟩
 |276=>some ⟨1,false,[.nilPtr],[],.none,.none,.none,5,.none⟩
 |278=>some ⟨32,true,[(.int .u8 0),(.int .u8 0),(.int .u8 0),(.int .u8 0),(.int .u8 0),(.int .u8 0),(.int .u8 0),(.int .u8 0),(.int .u8 0),(.int .u8 0),(.int .u8 0),(.int .u8 0),(.int .u8 0),(.int .u8 0),(.int .u8 0),(.int .u8 0),(.int .u8 0),(.int .u8 0),(.int .u8 0),(.int .u8 0),(.int .u8 0),(.int .u8 0),(.int .u8 0),(.int .u8 0),(.int .u8 0),(.int .u8 0),(.int .u8 0),(.int .u8 0),(.int .u8 0),(.int .u8 0),(.int .u8 0),(.int .u8 0)],[(0,5),(1,5),(2,5),(3,5),(4,5),(5,5),(6,5),(7,5),(8,5),(9,5),(10,5),(11,5),(12,5),(13,5),(14,5),(15,5),(16,5),(17,5),(18,5),(19,5),(20,5),(21,5),(22,5),(23,5),(24,5),(25,5),(26,5),(27,5),(28,5),(29,5),(30,5),(31,5)],.none,.none,.none,0,some 32⟩
 |282=>some ⟨1,false,[.nilFunc],[],.none,.none,.none,0,.none⟩
 |285=>some ⟨1,false,[.nilFunc],[],.none,.none,.none,0,.none⟩
 |287=>some ⟨1,false,[.nilFunc],[],.none,.none,.none,0,.none⟩
 |289=>some ⟨1,false,[.nilFunc],[],.none,.none,.none,0,.none⟩
 |_=> .none
def qi:Nat->List PU->List Cl->Option (List Cl)
 |113,[.func 114 [] []],l=>some (sortCl l)
 |_,_,_=> .none
def u5 (f:Nat) (ps:List PU):(e:ET)->List (EL e)->Option (List (EL e))
 | .C,l=>qi f ps l
 |_,_=> .none
def Fo:List (Nat×Nat):=[]
def Fp (f:Nat):Nat:=match bw Fo f with|some n=>n| .none=>0
def Ei:List (Nat×List Bool):=[]
def Ej (f:Nat):List Bool:=match bw Ei f with|some l=>l| .none=>[]
def Da:ET->Nat
 | .C=>2
 | .T=>6
 | .B=>2
 | .I=>1
 | .F=>1
 | .D=>7
 | .G=>7
 | .K=>7
 | .R=>1
def qk (t:Nat):Option FuncId:=match t with
 |121=>some 344
 |123=>some 347
 |126=>some 349
 |127=>some 351
 |136=>some 353
 |_=> .none
def ql (t:TypeId) (n:String):Option FuncId:=bif n== "hypercube/mach.apply" then qk t else .none
def VV:Env UU:={cells:=dh,toEl:=yZ,bound:=fun _=>1099511627776,ty:=l9,inpl:=u5,lim:=Fp,kb:=Ej,esz:=Da,inv:=ql}
noncomputable def rf {S:Type} (ret:Bool->Option S):Option S:=ret true
noncomputable def jP {S:Type} (s:List Cl) (ret:List Cl->Option S):Option S:=aN (cx 1099511627776 0 s.length) fun _=>ret s
end
abbrev LB:=List (Br Tm)
abbrev LC:=List Cl
abbrev LT:=List Tm
abbrev OS (S:Type):=Option S
abbrev BA:=ByteArray
end Go.Proofs.YtlidjlacmpaefaaGreatDoor
namespace Go.Proofs.YtlidjlacmpaefaaGreatDoor.PI
open Go
inductive Key where
 |r (n:Nat)|b (n:Nat)|c (n i:Nat)|o (n:Nat)|u (n:Nat)
def Loc.R:Loc->Key->Prop
 | .rr n,k=>k= .r n
 | .rb n,k=>k= .b n\/ ∃i,k= .c n i
 | .rt n m,k=>k= .b n\/ ∃i,m<=i/\k= .c n i
 | .rh n m,k=>k= .b n\/ ∃i,i<m/\k= .c n i
 | .wh n _,k=>k= .b n
 | .ro n,k=>k= .o n
 | .ru n,k=>k= .u n
 |_,_=>False
def Loc.W:Loc->Key->Prop
 | .wr n,k=>k= .r n
 | .wb n,k=>k= .b n\/ ∃i,k= .c n i
 | .wh n m,k=> ∃i,i<m/\k= .c n i
 | .wo n,k=>k= .o n
 | .wu n,k=>k= .u n
 | .fu n,k=>k= .u n
 |_,_=>False
section
variable {U:Uni}
inductive Cell (U:Uni) where
 |pv (v:PV U)|bx (b:Option (Box U))|ob (o:Option (Ob U))|us (u:Use)
def shape:Option (Box U)->Option (Box U)
 |some (.cells cs)=>some (.cells (List.replicate cs.length .undef))
 |b=>b
def dY:Option (Box U)->Nat->PV U
 |some (.cells cs),i=>cs.getD i .undef
 |_,_=> .undef
theorem Bu {a b:Option (Box U)} (h:shape a=shape b) (hc: ∀i,dY a i=dY b i):a=b:=by
 have inj: ∀ {n m:Nat},List.replicate n (PV.undef:PV U)=List.replicate m .undef->n=m:=fun h=>by simp_all
 match a,b,h,hc with
 |none,none,_,_=>rfl
 |none,some (.cells _),h,_=>cases h
 |none,some (.map ..),h,_=>cases h
 |some (.cells _),none,h,_=>cases h
 |some (.map ..),none,h,_=>cases h
 |some (.map ..),some (.cells _),h,_=>cases h
 |some (.cells _),some (.map ..),h,_=>cases h
 |some (.map ..),some (.map ..),h,_=>exact h
 |some (.cells x),some (.cells y),h,hc=>
  simp only [shape,Option.some.injEq,Box.cells.injEq] at h
  have hl:=inj h
  have:x=y:=List.ext_getElem hl fun i h1 h2=>by
   have:=hc i
   grind [dY]
  rw [this]
def St.at_ (σ:St U):Key->Cell U
 | .r n=> .pv (σ.r n)| .b n=> .bx (shape (σ.b n))| .c n i=> .pv (dY (σ.b n) i)| .o n=> .ob (σ.o n)| .u n=> .us (σ.u n)
def St.eqv (σ τ:St U):Prop:= ∀k,σ.at_ k=τ.at_ k
theorem St.eqv.refl (σ:St U):σ.eqv σ:=fun _=>rfl
theorem St.eqv.symm {σ τ:St U} (h:σ.eqv τ):τ.eqv σ:=fun k=>(h k).symm
theorem St.eqv.trans {σ τ ρ:St U} (h:σ.eqv τ) (h':τ.eqv ρ):σ.eqv ρ:=fun k=>(h k).trans (h' k)
theorem St.eqv.r {σ τ:St U} (h:σ.eqv τ) (n:Nat):σ.r n=τ.r n:=by have:=h (.r n);grind [St.at_]
theorem py {σ τ:St U} {n:Nat} (h1:σ.at_ (.b n)=τ.at_ (.b n)) (h2: ∀i,σ.at_ (.c n i)=τ.at_ (.c n i)):σ.b n=τ.b n:=
 Bu (by grind [St.at_]) fun i=>by simp_all [St.at_]
theorem St.eqv.b {σ τ:St U} (h:σ.eqv τ) (n:Nat):σ.b n=τ.b n:=py (h _) fun i=>h _
theorem St.eqv.o {σ τ:St U} (h:σ.eqv τ) (n:Nat):σ.o n=τ.o n:=by have:=h (.o n);grind [St.at_]
theorem St.eqv.u {σ τ:St U} (h:σ.eqv τ) (n:Nat):σ.u n=τ.u n:=by have:=h (.u n);grind [St.at_]
theorem eV {α:Type} (m:Nat) (v:α) (l:List (Nat×α)) (n:Nat):bw ((m,v)::l) n=if m=n then some v else bw l n:=by
 simp_all [bw]
@[simp] theorem St.setR_r (σ:St U) (m:Nat) (v:PV U) (n:Nat):(σ.setR m v).r n=if m=n then v else σ.r n:=by
 simp only [St.r,St.setR,eV];by_cases h:m=n<;>simp [h]
@[simp] theorem St.setR_b (σ:St U) (m:Nat) (v:PV U) (n:Nat):(σ.setR m v).b n=σ.b n:=rfl
@[simp] theorem St.setR_o (σ:St U) (m:Nat) (v:PV U) (n:Nat):(σ.setR m v).o n=σ.o n:=rfl
@[simp] theorem St.setR_u (σ:St U) (m:Nat) (v:PV U) (n:Nat):(σ.setR m v).u n=σ.u n:=rfl
@[simp] theorem St.setB_b (σ:St U) (m:Nat) (v:Box U) (n:Nat):(σ.setB m v).b n=if m=n then some v else σ.b n:=by
 simp only [St.b,St.setB,eV]
@[simp] theorem St.setB_r (σ:St U) (m:Nat) (v:Box U) (n:Nat):(σ.setB m v).r n=σ.r n:=rfl
@[simp] theorem St.setB_o (σ:St U) (m:Nat) (v:Box U) (n:Nat):(σ.setB m v).o n=σ.o n:=rfl
@[simp] theorem St.setB_u (σ:St U) (m:Nat) (v:Box U) (n:Nat):(σ.setB m v).u n=σ.u n:=rfl
@[simp] theorem St.setO_o (σ:St U) (m:Nat) (v:Ob U) (n:Nat):(σ.setO m v).o n=if m=n then some v else σ.o n:=by
 simp only [St.o,St.setO,eV]
@[simp] theorem St.setO_r (σ:St U) (m:Nat) (v:Ob U) (n:Nat):(σ.setO m v).r n=σ.r n:=rfl
@[simp] theorem St.setO_b (σ:St U) (m:Nat) (v:Ob U) (n:Nat):(σ.setO m v).b n=σ.b n:=rfl
@[simp] theorem St.setO_u (σ:St U) (m:Nat) (v:Ob U) (n:Nat):(σ.setO m v).u n=σ.u n:=rfl
@[simp] theorem St.setU_u (σ:St U) (m:Nat) (v:Use) (n:Nat):(σ.setU m v).u n=if m=n then v else σ.u n:=by
 simp only [St.u,St.setU,eV];by_cases h:m=n<;>simp [h]
@[simp] theorem St.setU_r (σ:St U) (m:Nat) (v:Use) (n:Nat):(σ.setU m v).r n=σ.r n:=rfl
@[simp] theorem St.setU_b (σ:St U) (m:Nat) (v:Use) (n:Nat):(σ.setU m v).b n=σ.b n:=rfl
@[simp] theorem St.setU_o (σ:St U) (m:Nat) (v:Use) (n:Nat):(σ.setU m v).o n=σ.o n:=rfl
theorem St.setR_at (σ:St U) (m:Nat) (v:PV U):(∀k,(Loc.wr m).W k->(σ.setR m v).at_ k= .pv v)/\ ∀k,¬ (Loc.wr m).W k->(σ.setR m v).at_ k=σ.at_ k:=by
 refine ⟨fun k hk=> ?_,fun k hk=> ?_⟩
 ·have hk:k= .r m:=hk
  simp_all [St.at_]
 ·cases k with
  |r n=>simp only [St.at_,St.setR_r];rw [if_neg (fun e=>hk (by rw [e];rfl))]
  |b n=>rfl
  |c n i=>rfl
  |o n=>rfl
  |u n=>rfl
def mJ (b:Option (Box U)):Key->Cell U
 | .c _ i=> .pv (dY b i)
 |_=> .bx (shape b)
theorem St.setB_at (σ:St U) (m:Nat) (v:Box U):(∀k,(Loc.wb m).W k->(σ.setB m v).at_ k=mJ (some v) k)/\ ∀k,¬ (Loc.wb m).W k->(σ.setB m v).at_ k=σ.at_ k:=by
 refine ⟨fun k hk=> ?_,fun k hk=> ?_⟩
 ·rcases hk with rfl|⟨i,rfl⟩<;>simp [St.at_,mJ]
 ·cases k with
  |r n=>rfl
  |b n=>simp only [St.at_,St.setB_b];rw [if_neg (fun e=>hk (.inl (by rw [e])))]
  |c n i=>simp only [St.at_,St.setB_b];rw [if_neg (fun e=>hk (.inr ⟨i,by rw [e]⟩))]
  |o n=>rfl
  |u n=>rfl
theorem St.setO_at (σ:St U) (m:Nat) (v:Ob U):(∀k,(Loc.wo m).W k->(σ.setO m v).at_ k= .ob (some v))/\ ∀k,¬ (Loc.wo m).W k->(σ.setO m v).at_ k=σ.at_ k:=by
 refine ⟨fun k hk=> ?_,fun k hk=> ?_⟩
 ·have hk:k= .o m:=hk
  simp_all [St.at_]
 ·cases k with
  |o n=>simp only [St.at_,St.setO_o];rw [if_neg (fun e=>hk (by rw [e];rfl))]
  |_=>rfl
theorem St.setU_at (σ:St U) (m:Nat) (v:Use):(∀k,(Loc.wu m).W k->(σ.setU m v).at_ k= .us v)/\ ∀k,¬ (Loc.wu m).W k->(σ.setU m v).at_ k=σ.at_ k:=by
 refine ⟨fun k hk=> ?_,fun k hk=> ?_⟩
 ·have hk:k= .u m:=hk
  simp_all [St.at_]
 ·cases k with
  |u n=>simp only [St.at_,St.setU_u];rw [if_neg (fun e=>hk (by rw [e];rfl))]
  |_=>rfl
theorem St.setH_inv {σ σ1:St U} {n m:Nat} {cs:List (PV U)} (h:σ.setH n m cs=some σ1): ∃all,σ.b n=some (.cells all)/\m<=all.length/\cs.length=m/\σ1=σ.setB n (.cells (cs++all.drop m)):=by
 unfold St.setH at h
 split at h
 ·rename_i all hb
  cases hc:a7 m all.length&&ac cs.length m<;>simp_all
 simp_all
theorem St.setH_of {σ:St U} {n m:Nat} {cs all:List (PV U)} (hb:σ.b n=some (.cells all)) (h1:m<=all.length) (h2:cs.length=m):σ.setH n m cs=some (σ.setB n (.cells (cs++all.drop m))):=by
 grind [St.setH,Nat.ble_eq_true_of_le,Nat.beq_refl]
theorem St.setH_at {σ σ1:St U} {n m:Nat} {cs:List (PV U)} (h:σ.setH n m cs=some σ1):(∀k,(Loc.wh n m).W k->σ1.at_ k=mJ (some (.cells cs)) k)/\ ∀k,¬ (Loc.wh n m).W k->σ1.at_ k=σ.at_ k:=by
 obtain ⟨all,hb,h1,h2,rfl⟩:=St.setH_inv h
 refine ⟨fun k hk=> ?_,fun k hk=> ?_⟩
 ·obtain ⟨i,hi,rfl⟩:=hk
  grind [St.at_,St.setB_b,mJ,dY]
 ·cases k with
  |r j=>rfl
  |o j=>rfl
  |u j=>rfl
  |b j=>
   grind [St.at_,St.setB_b,shape]
  |c j i=>
   simp only [St.at_,St.setB_b]
   split
   ·rename_i e;subst e
    rw [hb]
    have hi:m<=i:=by
     rcases Nat.lt_or_ge i m with h|h
     ·exact (hk ⟨i,h,rfl⟩).elim
     simp_all
    grind [dY]
   ·rfl
theorem St.eqv.setH {σ τ σ1:St U} (h:σ.eqv τ) {n m:Nat} {cs:List (PV U)} (h1:τ.setH n m cs=some σ1): ∃σ2,σ.setH n m cs=some σ2/\σ2.eqv σ1:=by
 obtain ⟨all,hb,q1,q2,_⟩:=St.setH_inv h1
 have h2:=St.setH_of (σ:=σ) (n:=n) (cs:=cs) (by rw [h.b n];exact hb) q1 q2
 refine ⟨_,h2,fun k=> ?_⟩
 obtain ⟨a1,a2⟩:=St.setH_at h1
 obtain ⟨b1,b2⟩:=St.setH_at h2
 by_cases hk:(Loc.wh n m).W k
 ·grind
 ·rw [a2 k hk,b2 k hk];exact h k
theorem nA {σ τ σ1 τ1:St U} {W:Key->Prop} {c:Key->Cell U} (h:σ.eqv τ) (a:(∀k,W k->σ1.at_ k=c k)/\ ∀k,¬W k->σ1.at_ k=σ.at_ k) (b:(∀k,W k->τ1.at_ k=c k)/\ ∀k,¬W k->τ1.at_ k=τ.at_ k):σ1.eqv τ1:=fun k=>by
 by_cases hk:W k
 ·grind
 ·rw [a.2 k hk,b.2 k hk];exact h k
theorem St.eqv.setR {σ τ:St U} (h:σ.eqv τ) (n:Nat) (v:PV U):(σ.setR n v).eqv (τ.setR n v):=nA (c:=fun _=> .pv v) h (σ.setR_at n v) (τ.setR_at n v)
theorem St.eqv.setB {σ τ:St U} (h:σ.eqv τ) (n:Nat) (v:Box U):(σ.setB n v).eqv (τ.setB n v):=nA h (σ.setB_at n v) (τ.setB_at n v)
theorem St.eqv.setO {σ τ:St U} (h:σ.eqv τ) (n:Nat) (v:Ob U):(σ.setO n v).eqv (τ.setO n v):=nA (c:=fun _=> .ob (some v)) h (σ.setO_at n v) (τ.setO_at n v)
theorem St.eqv.setU {σ τ:St U} (h:σ.eqv τ) (n:Nat) (v:Use):(σ.setU n v).eqv (τ.setU n v):=nA (c:=fun _=> .us v) h (σ.setU_at n v) (τ.setU_at n v)
abbrev bA (U:Uni):=FuncId->List (PV U)->List (Box U)->Out U->Prop
variable (K:bA U)
def M.Rel:M U->St U->List Loc->MR U->St U->List Loc->Prop
 | .done,σ,fp,r,τ,gp=>r= .done/\τ=σ/\gp=fp
 | .fail,_,_,_,_,_=>False
 | .raise v,σ,fp,r,τ,gp=>r= .raise v/\τ=σ/\gp=fp
 | .out o,σ,fp,r,τ,gp=>r= .out o/\τ=σ/\gp=fp
 | .getR n k,σ,fp,r,τ,gp=>(k (σ.r n)).Rel σ (.rr n::fp) r τ gp
 | .setR n v m,σ,fp,r,τ,gp=>m.Rel (σ.setR n v) (.wr n::fp) r τ gp
 | .getB n k,σ,fp,r,τ,gp=>(k (σ.b n)).Rel σ (.rb n::fp) r τ gp
 | .setB n c m,σ,fp,r,τ,gp=>m.Rel (σ.setB n c) (.wb n::fp) r τ gp
 | .getT n i k,σ,fp,r,τ,gp=>(k (gS i (σ.b n))).Rel σ (.rt n i::fp) r τ gp
 | .getH n i k,σ,fp,r,τ,gp=>(k (gD i (σ.b n))).Rel σ (.rh n i::fp) r τ gp
 | .setH n i cs m,σ,fp,r,τ,gp=> ∃σ1,σ.setH n i cs=some σ1/\m.Rel σ1 (.wh n i::fp) r τ gp
 | .getO n k,σ,fp,r,τ,gp=>(k (σ.o n)).Rel σ (.ro n::fp) r τ gp
 | .setO n o m,σ,fp,r,τ,gp=>m.Rel (σ.setO n o) (.wo n::fp) r τ gp
 | .getU n k,σ,fp,r,τ,gp=>(k (σ.u n)).Rel σ (.ru n::fp) r τ gp
 | .setU n u m,σ,fp,r,τ,gp=>m.Rel (σ.setU n u) (.wu n::fp) r τ gp
 | .frz n m,σ,fp,r,τ,gp=>m.Rel (σ.setU n .read) (.fu n::fp) r τ gp
 | .ask o k,σ,fp,r,τ,gp=> ∃x,o=some x/\(k x).Rel σ fp r τ gp
 | .case j m1 m2 m3,σ,fp,r,τ,gp=>
  (σ.r j= .bool true/\m1.Rel σ (.rr j::fp) r τ gp)\/(σ.r j= .bool false/\m2.Rel σ (.rr j::fp) r τ gp)\/
  (σ.r j= .tuple []/\m3.Rel σ (.rr j::fp) r τ gp)
 | .call f a bs k,σ,fp,r,τ,gp=> ∃out,K f a bs out/\(k out).Rel σ fp r τ gp
def Oracle.Tells {R:Type} (C:Oracle U R):Prop:= ∀f a bs κ x,C f a bs κ=some x-> ∃out,K f a bs out/\κ out=some x
theorem M.Rel.fp {m:M U}: ∀ {σ:St U} {fp:List Loc} {r:MR U} {τ:St U} {gp:List Loc},m.Rel K σ fp r τ gp-> ∃new,gp=new++fp:=by
 induction m with
 |done=>rintro σ fp r τ gp ⟨_,_,rfl⟩;simp
 |fail=>intro _ _ _ _ _ h;exact h.elim
 |raise v=>rintro σ fp r τ gp ⟨_,_,rfl⟩;simp
 |out v=>rintro σ fp r τ gp ⟨_,_,rfl⟩;simp
 |getR n k ih=>intro σ fp r τ gp h;obtain ⟨new,rfl⟩:=ih _ h;exact ⟨new++[.rr n],by simp⟩
 |setR n v m ih=>intro σ fp r τ gp h;obtain ⟨new,rfl⟩:=ih h;exact ⟨new++[.wr n],by simp⟩
 |getB n k ih=>intro σ fp r τ gp h;obtain ⟨new,rfl⟩:=ih _ h;exact ⟨new++[.rb n],by simp⟩
 |setB n v m ih=>intro σ fp r τ gp h;obtain ⟨new,rfl⟩:=ih h;exact ⟨new++[.wb n],by simp⟩
 |getT n i k ih=>intro σ fp r τ gp h;obtain ⟨new,rfl⟩:=ih _ h;exact ⟨new++[.rt n i],by simp⟩
 |getH n i k ih=>intro σ fp r τ gp h;obtain ⟨new,rfl⟩:=ih _ h;exact ⟨new++[.rh n i],by simp⟩
 |setH n i cs m ih=>rintro σ fp r τ gp ⟨σ1,_,h⟩;obtain ⟨new,rfl⟩:=ih h;exact ⟨new++[.wh n i],by simp⟩
 |getO n k ih=>intro σ fp r τ gp h;obtain ⟨new,rfl⟩:=ih _ h;exact ⟨new++[.ro n],by simp⟩
 |setO n v m ih=>intro σ fp r τ gp h;obtain ⟨new,rfl⟩:=ih h;exact ⟨new++[.wo n],by simp⟩
 |getU n k ih=>intro σ fp r τ gp h;obtain ⟨new,rfl⟩:=ih _ h;exact ⟨new++[.ru n],by simp⟩
 |setU n v m ih=>intro σ fp r τ gp h;obtain ⟨new,rfl⟩:=ih h;exact ⟨new++[.wu n],by simp⟩
 |frz n m ih=>intro σ fp r τ gp h;obtain ⟨new,rfl⟩:=ih h;exact ⟨new++[.fu n],by simp⟩
 |ask o k ih=>rintro σ fp r τ gp ⟨x,_,h⟩;exact ih _ h
 |case j m1 m2 m3 i1 i2 i3=>
  rintro σ fp r τ gp (⟨_,h⟩|⟨_,h⟩|⟨_,h⟩)
  ·obtain ⟨new,rfl⟩:=i1 h;exact ⟨new++[.rr j],by simp⟩
  ·obtain ⟨new,rfl⟩:=i2 h;exact ⟨new++[.rr j],by simp⟩
  ·obtain ⟨new,rfl⟩:=i3 h;exact ⟨new++[.rr j],by simp⟩
 |call f a bs k ih=>rintro σ fp r τ gp ⟨x,_,h⟩;exact ih _ h
structure Local (m:M U) (σ:St U) (r:MR U) (τ:St U) (new:List Loc):Prop where
 stay: ∀k,(∀l∈new,¬l.W k)->τ.at_ k=σ.at_ k
 frz: ∀n,Loc.fu n∈new->Loc.wu n∉new->τ.u n= .read
 other: ∀σ' fp',(∀l∈new,∀k,l.R k->σ'.at_ k=σ.at_ k)-> ∃τ',m.Rel K σ' fp' r τ' (new++fp')/\
  (∀k,(∃l∈new,l.W k)->τ'.at_ k=τ.at_ k)/\(∀k,(∀l∈new,¬l.W k)->τ'.at_ k=σ'.at_ k)
theorem Dw {x:Loc} {n:Nat} (h:x.W (.u n)):x= .wu n\/x= .fu n:=by
 cases x<;>simp [Loc.W] at h<;>simp [h]
theorem Local.read {m:M U} {l:Loc} (hl: ∀k,¬l.W k) (kk:St U->M U) (hk: ∀σ σ':St U,(∀k,l.R k->σ'.at_ k=σ.at_ k)->kk σ'=kk σ) (hm: ∀σ fp r τ gp,m.Rel K σ fp r τ gp↔(kk σ).Rel K σ (l::fp) r τ gp)
  {σ:St U} {r:MR U} {τ:St U} {new:List Loc} (h:Local K (kk σ) σ r τ new):Local K m σ r τ (new++[l]) where
 stay k hk:=h.stay k fun x hx=>hk x (by simp [hx])
 frz n hn hw:=h.frz n (by
  rcases cP.1 hn with hx|hx
  ·exact hx
  ·simp at hx;subst hx;exact (hl (.u n) rfl).elim) fun hx=>hw (by simp [hx])
 other σ' fp' ha:=by
  obtain ⟨τ',h1,h2,h3⟩:=h.other σ' (l::fp') fun x hx=>ha x (by simp [hx])
  refine ⟨τ', ?_,fun k hk=>h2 k ?_,fun k hk=>h3 k fun x hx=>hk x (by simp [hx])⟩
  all_goals grind
theorem Local.write {m n:M U} {l:Loc} (ef:St U->St U->Prop) (c:Key->Cell U) (hu: ∀σ σ1,ef σ σ1->(∀k,l.W k->σ1.at_ k=c k)/\ ∀k,¬l.W k->σ1.at_ k=σ.at_ k)
  (hx: ∀σ σ1 σ',ef σ σ1->(∀k,l.R k->σ'.at_ k=σ.at_ k)-> ∃σ2,ef σ' σ2) (hf: ∀i,l= .fu i->c (.u i)= .us .read)
  (hm: ∀σ fp r τ gp,m.Rel K σ fp r τ gp↔ ∃σ1,ef σ σ1/\n.Rel K σ1 (l::fp) r τ gp)
  {σ σ1:St U} {r:MR U} {τ:St U} {new:List Loc} (hs:ef σ σ1) (h:Local K n σ1 r τ new):Local K m σ r τ (new++[l]) where
 stay k hk:=by
  rw [h.stay k fun x hx=>hk x (by simp [hx]),(hu σ σ1 hs).2 k (hk l (by simp))]
 frz i hn hw:=by
  by_cases hi:Loc.fu i∈new
  ·exact h.frz i hi fun hx=>hw (by simp [hx])
  ·have hl:l= .fu i:=by
    grind
   have h1:=h.stay (.u i) fun y hy hyw=>by
    grind [Dw]
   rw [(hu σ σ1 hs).1 (.u i) (by rw [hl];rfl),hf i hl] at h1
   grind [St.at_]
 other σ' fp' ha:=by
  obtain ⟨σ2,h2⟩:=hx σ σ1 σ' hs (ha l (by simp))
  obtain ⟨u1,u2⟩:=hu σ σ1 hs
  obtain ⟨v1,v2⟩:=hu σ' σ2 h2
  obtain ⟨τ',q1,q2,q3⟩:=h.other σ2 (l::fp') fun x hx k hk=>by
   by_cases hw:l.W k<;>grind
  refine ⟨τ', ?_,fun k hk=> ?_,fun k hk=> ?_⟩
  ·grind
  ·by_cases hk': ∃x∈new,x.W k
   ·grind
   ·obtain ⟨x,hx,hw⟩:=hk
    have hxl:x=l:=by
     grind
    subst hxl
    have hn: ∀y∈new,¬y.W k:=fun y hy hyw=>hk' ⟨y,hy,hyw⟩
    rw [q3 k hn,h.stay k hn,u1 k hw,v1 k hw]
  grind
theorem Local.nothing {m:M U} {σ:St U} {r:MR U} (hm: ∀σ fp,m.Rel K σ fp r σ fp):Local K m σ r σ [] where
 stay k hk:=rfl
 frz n hn hw:=by simp at hn
 other σ' fp' ha:=⟨σ',hm σ' fp',fun k hk=>by simp at hk,fun k hk=>rfl⟩
theorem Local.write' {m n:M U} {l:Loc} (ef:St U->St U) (c:Key->Cell U) (hu: ∀σ,(∀k,l.W k->(ef σ).at_ k=c k)/\ ∀k,¬l.W k->(ef σ).at_ k=σ.at_ k) (hf: ∀i,l= .fu i->c (.u i)= .us .read)
  (hm: ∀σ fp r τ gp,m.Rel K σ fp r τ gp↔n.Rel K (ef σ) (l::fp) r τ gp) {σ:St U} {r:MR U} {τ:St U} {new:List Loc} (h:Local K n (ef σ) r τ new):Local K m σ r τ (new++[l]):=
 .write K (fun σ σ1=>σ1=ef σ) c (fun σ σ1 e=>e▸hu σ) (fun _ _ σ' _ _=>⟨ef σ',rfl⟩) hf (fun σ fp r τ gp=>(hm σ fp r τ gp).trans ⟨fun h=>⟨_,rfl,h⟩,fun ⟨_,e,h⟩=>e▸h⟩) rfl h
theorem IR {σ σ':St U} {n m:Nat} (h: ∀k,(Loc.rt n m).R k->σ'.at_ k=σ.at_ k):gS m (σ'.b n)=gS m (σ.b n):=by
 have h1:shape (σ'.b n)=shape (σ.b n):=by have:=h (.b n) (.inl rfl);grind [St.at_]
 have h2: ∀i,m<=i->dY (σ'.b n) i=dY (σ.b n) i:=fun i hi=>by have:=h (.c n i) (.inr ⟨i,hi,rfl⟩);grind [St.at_]
 generalize σ'.b n=a at h1 h2
 generalize σ.b n=b at h1 h2
 have inj: ∀ {n m:Nat},List.replicate n (PV.undef:PV U)=List.replicate m .undef->n=m:=fun h=>by simp_all
 match a,b,h1,h2 with
 |none,none,_,_=>rfl
 |none,some (.cells _),h,_=>cases h
 |none,some (.map ..),h,_=>cases h
 |some (.cells _),none,h,_=>cases h
 |some (.map ..),none,h,_=>cases h
 |some (.map ..),some (.cells _),h,_=>cases h
 |some (.cells _),some (.map ..),h,_=>cases h
 |some (.map ..),some (.map ..),h,_=>rfl
 |some (.cells x),some (.cells y),h,hc=>
  simp only [shape,Option.some.injEq,Box.cells.injEq] at h
  have hl:=inj h
  have:x.drop m=y.drop m:=List.ext_getElem (by simp [hl]) fun i h1 h2=>by
   have:=hc (m+i) (by omega)
   grind [dY]
  grind [gS]
theorem DF {σ σ':St U} {n m:Nat} (h: ∀k,(Loc.rh n m).R k->σ'.at_ k=σ.at_ k):gD m (σ'.b n)=gD m (σ.b n):=by
 have h1:shape (σ'.b n)=shape (σ.b n):=by have:=h (.b n) (.inl rfl);grind [St.at_]
 have h2: ∀i,i<m->dY (σ'.b n) i=dY (σ.b n) i:=fun i hi=>by have:=h (.c n i) (.inr ⟨i,hi,rfl⟩);grind [St.at_]
 generalize σ'.b n=a at h1 h2
 generalize σ.b n=b at h1 h2
 have inj: ∀ {n m:Nat},List.replicate n (PV.undef:PV U)=List.replicate m .undef->n=m:=fun h=>by simp_all
 match a,b,h1,h2 with
 |none,none,_,_=>rfl
 |none,some (.cells _),h,_=>cases h
 |none,some (.map ..),h,_=>cases h
 |some (.cells _),none,h,_=>cases h
 |some (.map ..),none,h,_=>cases h
 |some (.map ..),some (.cells _),h,_=>cases h
 |some (.cells _),some (.map ..),h,_=>cases h
 |some (.map ..),some (.map ..),h,_=>rfl
 |some (.cells x),some (.cells y),h,hc=>
  simp only [shape,Option.some.injEq,Box.cells.injEq] at h
  have hl:=inj h
  have:x.take m=y.take m:=List.ext_getElem (by simp [hl]) fun i h1 h2=>by
   simp only [List.length_take] at h1 h2
   have:=hc i (by omega)
   grind [dY]
  grind [gD]
theorem M.Rel.loc {m:M U}: ∀ {σ:St U} {fp:List Loc} {r:MR U} {τ:St U} {gp:List Loc},m.Rel K σ fp r τ gp-> ∃new,gp=new++fp/\Local K m σ r τ new:=by
 induction m with
 |done=>rintro σ fp r τ gp ⟨rfl,rfl,rfl⟩;exact ⟨[],rfl,.nothing K fun _ _=>⟨rfl,rfl,rfl⟩⟩
 |fail=>intro _ _ _ _ _ h;exact h.elim
 |raise v=>rintro σ fp r τ gp ⟨rfl,rfl,rfl⟩;exact ⟨[],rfl,.nothing K fun _ _=>⟨rfl,rfl,rfl⟩⟩
 |out v=>rintro σ fp r τ gp ⟨rfl,rfl,rfl⟩;exact ⟨[],rfl,.nothing K fun _ _=>⟨rfl,rfl,rfl⟩⟩
 |getR n k ih=>
  intro σ fp r τ gp h;obtain ⟨new,rfl,hl⟩:=ih _ h
  exact ⟨new++[.rr n],by simp,.read K (l:= .rr n) (fun _ h=>h) (fun σ=>k (σ.r n)) (fun σ σ' h=>by have:=h (.r n) rfl;grind [St.at_]) (fun _ _ _ _ _=>Iff.rfl) hl⟩
 |setR n v m ih=>
  intro σ fp r τ gp h;obtain ⟨new,rfl,hl⟩:=ih h
  exact ⟨new++[.wr n],by simp,.write' K (l:= .wr n) (·.setR n v) (fun _=> .pv v) (fun σ=>σ.setR_at n v) (fun _ h=>by cases h) (fun _ _ _ _ _=>Iff.rfl) hl⟩
 |getB n k ih=>
  intro σ fp r τ gp h;obtain ⟨new,rfl,hl⟩:=ih _ h
  exact ⟨new++[.rb n],by simp,.read K (l:= .rb n) (fun _ h=>h) (fun σ=>k (σ.b n)) (fun σ σ' h=>by rw [py (h (.b n) (.inl rfl)) fun i=>h (.c n i) (.inr ⟨i,rfl⟩)]) (fun _ _ _ _ _=>Iff.rfl) hl⟩
 |setB n v m ih=>
  intro σ fp r τ gp h;obtain ⟨new,rfl,hl⟩:=ih h
  exact ⟨new++[.wb n],by simp,.write' K (l:= .wb n) (·.setB n v) _ (fun σ=>σ.setB_at n v) (fun _ h=>by cases h) (fun _ _ _ _ _=>Iff.rfl) hl⟩
 |getT n i k ih=>
  intro σ fp r τ gp h;obtain ⟨new,rfl,hl⟩:=ih _ h
  exact ⟨new++[.rt n i],by simp,.read K (l:= .rt n i) (fun _ h=>h) (fun σ=>k (gS i (σ.b n))) (fun σ σ' h=>by rw [IR h]) (fun _ _ _ _ _=>Iff.rfl) hl⟩
 |getH n i k ih=>
  intro σ fp r τ gp h;obtain ⟨new,rfl,hl⟩:=ih _ h
  exact ⟨new++[.rh n i],by simp,.read K (l:= .rh n i) (fun _ h=>h) (fun σ=>k (gD i (σ.b n))) (fun σ σ' h=>by rw [DF h]) (fun _ _ _ _ _=>Iff.rfl) hl⟩
 |setH n i cs m ih=>
  rintro σ fp r τ gp ⟨σ1,hs,h⟩;obtain ⟨new,rfl,hl⟩:=ih h
  refine ⟨new++[.wh n i],by simp,.write K (l:= .wh n i) (fun σ σ1=>σ.setH n i cs=some σ1) _ (fun σ σ1 h=>St.setH_at h) (fun σ σ1 σ' h hr=> ?_) (fun _ h=>by cases h) (fun _ _ _ _ _=>Iff.rfl) hs hl⟩
  obtain ⟨all,hb,q1,q2,_⟩:=St.setH_inv h
  have h1:shape (σ'.b n)=shape (σ.b n):=by have:=hr (.b n) rfl;grind [St.at_]
  rw [hb] at h1
  cases hb':σ'.b n with
  |none=>rw [hb'] at h1;cases h1
  |some b=>
   cases b<;>simp_all [shape,St.setH_of]
 |getO n k ih=>
  intro σ fp r τ gp h;obtain ⟨new,rfl,hl⟩:=ih _ h
  exact ⟨new++[.ro n],by simp,.read K (l:= .ro n) (fun _ h=>h) (fun σ=>k (σ.o n)) (fun σ σ' h=>by have:=h (.o n) rfl;grind [St.at_]) (fun _ _ _ _ _=>Iff.rfl) hl⟩
 |setO n v m ih=>
  intro σ fp r τ gp h;obtain ⟨new,rfl,hl⟩:=ih h
  exact ⟨new++[.wo n],by simp,.write' K (l:= .wo n) (·.setO n v) (fun _=> .ob (some v)) (fun σ=>σ.setO_at n v) (fun _ h=>by cases h) (fun _ _ _ _ _=>Iff.rfl) hl⟩
 |getU n k ih=>
  intro σ fp r τ gp h;obtain ⟨new,rfl,hl⟩:=ih _ h
  exact ⟨new++[.ru n],by simp,.read K (l:= .ru n) (fun _ h=>h) (fun σ=>k (σ.u n)) (fun σ σ' h=>by have:=h (.u n) rfl;grind [St.at_]) (fun _ _ _ _ _=>Iff.rfl) hl⟩
 |setU n v m ih=>
  intro σ fp r τ gp h;obtain ⟨new,rfl,hl⟩:=ih h
  exact ⟨new++[.wu n],by simp,.write' K (l:= .wu n) (·.setU n v) (fun _=> .us v) (fun σ=>σ.setU_at n v) (fun _ h=>by cases h) (fun _ _ _ _ _=>Iff.rfl) hl⟩
 |frz n m ih=>
  intro σ fp r τ gp h;obtain ⟨new,rfl,hl⟩:=ih h
  exact ⟨new++[.fu n],by simp,.write' K (l:= .fu n) (·.setU n .read) (fun _=> .us .read) (fun σ=>σ.setU_at n .read) (fun _ _=>rfl) (fun _ _ _ _ _=>Iff.rfl) hl⟩
 |ask o k ih=>
  rintro σ fp r τ gp ⟨x,rfl,h⟩;obtain ⟨new,rfl,hl⟩:=ih _ h
  exact ⟨new,rfl,hl.stay,hl.frz,fun σ' fp' ha=>let ⟨τ',h1,h2⟩:=hl.other σ' fp' ha;⟨τ',⟨x,rfl,h1⟩,h2⟩⟩
 |call f a bs k ih=>
  rintro σ fp r τ gp ⟨x,hx,h⟩;obtain ⟨new,rfl,hl⟩:=ih _ h
  exact ⟨new,rfl,hl.stay,hl.frz,fun σ' fp' ha=>let ⟨τ',h1,h2⟩:=hl.other σ' fp' ha;⟨τ',⟨x,hx,h1⟩,h2⟩⟩
 |case j m1 m2 m3 i1 i2 i3=>
  have key: ∀ (m:M U) (v:PV U),(∀σ fp r τ gp,σ.r j=v->m.Rel K σ (.rr j::fp) r τ gp->(M.case j m1 m2 m3).Rel K σ fp r τ gp)->
    ∀σ r τ new,σ.r j=v->Local K m σ r τ new->Local K (M.case j m1 m2 m3) σ r τ (new++[.rr j]):=by
   intro m v hm σ r τ new hv hl
   refine ⟨fun k hk=>hl.stay k fun x hx=>hk x (by simp [hx]),fun n hn hw=>hl.frz n ?_ fun hx=>hw (by simp [hx]),fun σ' fp' ha=> ?_⟩
   ·grind
   ·obtain ⟨τ',h1,h2,h3⟩:=hl.other σ' (.rr j::fp') fun x hx=>ha x (by simp [hx])
    have hj:σ'.r j=v:=by
     have:=ha (.rr j) (by simp) (.r j) rfl
     grind [St.at_]
    refine ⟨τ',by grind,fun k hk=>h2 k ?_,fun k hk=>h3 k fun x hx=>hk x (by simp [hx])⟩
    obtain ⟨x,hx,hw⟩:=hk
    rcases cP.1 hx with hx|hx
    ·grind
    ·simp at hx;subst hx;exact hw.elim
  rintro σ fp r τ gp (⟨hj,h⟩|⟨hj,h⟩|⟨hj,h⟩)
  ·obtain ⟨new,rfl,hl⟩:=i1 h
   exact ⟨new++[.rr j],by simp,key m1 _ (fun _ _ _ _ _ a b=> .inl ⟨a,b⟩) σ r τ new hj hl⟩
  ·obtain ⟨new,rfl,hl⟩:=i2 h
   exact ⟨new++[.rr j],by simp,key m2 _ (fun _ _ _ _ _ a b=> .inr (.inl ⟨a,b⟩)) σ r τ new hj hl⟩
  ·obtain ⟨new,rfl,hl⟩:=i3 h
   exact ⟨new++[.rr j],by simp,key m3 _ (fun _ _ _ _ _ a b=> .inr (.inr ⟨a,b⟩)) σ r τ new hj hl⟩
theorem M.Rel.eqv {m:M U} {σ:St U} {fp:List Loc} {r:MR U} {τ:St U} {gp:List Loc} (h:m.Rel K σ fp r τ gp) {σ':St U} (he:σ.eqv σ'):
  ∃τ',m.Rel K σ' fp r τ' gp/\τ.eqv τ':=by
 obtain ⟨new,rfl,hl⟩:=h.loc K
 obtain ⟨τ',h1,h2,h3⟩:=hl.other σ' fp fun x _ k _=>(he k).symm
 refine ⟨τ',h1,fun k=> ?_⟩
 by_cases hk: ∃l∈new,l.W k
 ·grind
 ·have hn: ∀y∈new,¬y.W k:=fun y hy hyw=>hk ⟨y,hy,hyw⟩
  rw [h3 k hn,hl.stay k hn,he k]
theorem FC (x y:Loc):x.meets y=y.meets x:=by
 have hb: ∀a b:Nat,ac a b=ac b a:=fun a b=>by
  cases h:ac a b<;>cases h2:ac b a<;>simp_all
 cases x<;>cases y<;>simp only [Loc.meets]<;>first|exact hb _ _|(rw [hb])
theorem tD {n m:Nat} (h:ac n m=false):n≠m:=fun e=>by simp_all
theorem Bq {n m a b:Nat} (h:(ac n m&&cG a b)=false):n≠m\/b<=a:=by
 grind [tD,cG,Nat.ble_eq_true_of_le]
theorem lL {x y:Loc} (h:x.meets y=false) {k:Key} (hx:x.W k) (hy:y.R k\/y.W k): ∃n,x= .fu n/\y= .fu n/\k= .u n:=by
 cases x<;>cases y<;>simp only [Loc.W,Loc.R,or_false,false_or] at hx hy<;>simp only [Loc.meets] at h<;>grind [tD,->Bq]
theorem Bd {f g:List Loc} (ha:cQ f g=true): ∀x∈f,∀y∈g,x.meets y=false:=by
 grind [cQ]
theorem Rel.swap {m n:M U} {σ σ1 σ2:St U} {f g:List Loc} {r r':MR U} (h1:m.Rel K σ [] r σ1 f) (h2:n.Rel K σ1 [] r' σ2 g) (ha:cQ f g=true):
  ∃τ1 τ2,n.Rel K σ [] r' τ1 g/\m.Rel K τ1 [] r τ2 f/\σ2.eqv τ2:=by
 obtain ⟨f',hf,l1⟩:=h1.loc K
 obtain ⟨g',hg,l2⟩:=h2.loc K
 simp at hf hg
 subst hf hg
 have hmeet:=Bd ha
 have noR: ∀ {n k},(Loc.fu n).R k->False:=fun h=>h
 obtain ⟨τ1,r1,a1,b1⟩:=l2.other σ [] fun y hy k hk=>(l1.stay k fun x hx hxw=>by
  grind [lL]).symm
 obtain ⟨τ2,r2,a2,b2⟩:=l1.other τ1 [] fun x hx k hk=>b1 k fun y hy hyw=>by
  grind [lL,FC]
 refine ⟨τ1,τ2,by grind,by grind,fun k=> ?_⟩
 by_cases hf: ∃x∈f,x.W k
 ·by_cases hg: ∃y∈g,y.W k
  ·obtain ⟨x,hx,hxw⟩:=hf
   obtain ⟨y,hy,hyw⟩:=hg
   obtain ⟨n,rfl,rfl,rfl⟩:=lL (hmeet x hx y hy) hxw (.inr hyw)
   have hnx:Loc.wu n∉f:=fun hl=>by
    obtain ⟨_,h,_⟩:=lL (hmeet _ hl _ hy) (k:= .u n) rfl (.inr rfl)
    cases h
   have hny:Loc.wu n∉g:=fun hl=>by
    obtain ⟨_,_,h,_⟩:=lL (hmeet _ hx _ hl) (k:= .u n) rfl (.inr rfl)
    cases h
   rw [a2 _ ⟨_,hx,hxw⟩]
   simp [St.at_,l1.frz n hx hnx,l2.frz n hy hny]
  ·have hn: ∀y∈g,¬y.W k:=fun y hy hyw=>hg ⟨y,hy,hyw⟩
   rw [a2 k hf,l2.stay k hn]
 ·have hn: ∀y∈f,¬y.W k:=fun y hy hyw=>hf ⟨y,hy,hyw⟩
  rw [b2 k hn]
  by_cases hg: ∃y∈g,y.W k
  ·rw [a1 k hg]
  ·have hn': ∀y∈g,¬y.W k:=fun y hy hyw=>hg ⟨y,hy,hyw⟩
   rw [b1 k hn',l2.stay k hn',l1.stay k hn]
end
theorem Addr.add_add (a:Addr) (i j:Nat):(a.add i).add j=a.add (i+j):=by
 grind [Addr.add]
theorem Addr.add_zero (a:Addr):a.add 0=a:=by rfl
theorem Addr.add_block (a:Addr) (i:Nat):(a.add i).block=a.block:=by grind [Addr.add]
theorem Addr.add_off (a:Addr) (i:Nat):(a.add i).off=a.off+i:=by grind [Addr.add]
theorem Addr.add_lit' (b o i:Nat):(⟨b,o,none⟩:Addr).add i=⟨b,o+i,none⟩:=by grind [Addr.add]
theorem pB {w:World} {a:Addr} {v:Value} (h:w.cell? a=some v):a=⟨a.block,a.off,none⟩:=by
 cases a with
 |mk b o s=>
  cases s<;>grind [World.cell?]
abbrev az:=Nat->Nat->Prop
structure Gh (U:Uni) where
 μ:Nat->Option Nat
 κ:Nat->Option (Nat×U.E×Value)
section
variable {U:Uni} (V:Env U)
def tr:TypeDesc->Bool
 | .struct _=>true
 | .array _ _=>true
 |_=>false
def td:Value->PV U->Bool
 | .int k n,.int k' n'=>decide (k=k')&&decide (n=n')
 | .bool a,.bool b=>decide (a=b)
 | .string s,.str s'=>decide (s=s')
 | .slice none 0 0,.sl _ [] .nil=>true
 | .slice none 0 0,.psl 0 _ [] true=>true
 | .nilFunc,.nilFunc=>true
 | .nilIface,.nilIface=>true
 | .pointer none,.nilPtr=>true
 |_,.undef=>true
 |_,_=>false
def j5:List Value->List (PV U)->Bool
 |[],[]=>true
 |v::r,p::s=>td v p&&j5 r s
 |_,_=>false
structure TyOK (P:Program) (etid ktid:U.E->TypeId) (t:TypeId) (r:Ty U):Prop where
 info: ∃i z,P.info? t=some i/\i.size=r.size/\i.zero=some z/\j5 z.cells.toList r.zero=true
 agg: ∃d,P.underlying t=some d/\tr d=r.agg
 fields:r.arr=none-> ∀ (i off:Nat) (ft:TypeId),r.fields[i]? =some (off,ft)-> ∃ (fs:Array Field) (f:Field) (q:TypeInfo),P.underlying t=some (.struct fs)/\fs[i]? =some f/\f.offset=off/\f.type=ft/\P.info? ft=some q/\0<q.size
 arr: ∀n,r.arr=some n-> ∃ (e:TypeId) (q:TypeInfo),P.underlying t=some (.array n e)/\P.info? e=some q/\0<q.size/\n*q.size=r.size/\ ∀ (i off:Nat) (ft:TypeId),r.fields[i]? =some (off,ft)->i<n/\ft=e/\off=i*q.size
 elem: ∀e,r.elem=some e->P.underlying t=some (.slice (etid e))
 keys: ∀e,r.keys=some e-> ∃b i,P.underlying t=some (.map (ktid e) b)/\P.info? b=some i/\i.zero=some (.bool false)
 ikind: ∀k,r.ikind=some k->P.underlying t=some (.int k)
 places: ∀fs,P.underlying t=some (.struct fs)-> ∃ps,fs.toList.mapM (fun f=>(P.info? f.type).map fun i=>(f.offset,i.size))=some ps
 notIf:r.eqk≠2-> ∀d,P.underlying t=some d-> ∀ms,d≠ .interface ms
 isIf:r.eqk=2-> ∃ms,P.underlying t=some (.interface ms)
 isStr:r.eqk=4->P.underlying t=some .string
 isPtr:r.eqk=5-> ∃e i,P.underlying t=some (.pointer e)/\P.info? e=some i/\i.size≠0
 isBool:r.eqk=3->P.underlying t=some .bool
 isInts:r.eqk=1-> ∃fs,P.underlying t=some (.struct fs)/\P.stoodInHeld t=false/\P.eqGuardType P.depth t=false/\fs.size=r.size/\
  ∀ (i:Nat) f,fs[i]? =some f->f.name≠ "_" /\f.offset=i/\ ∃k,P.underlying f.type=some (.int k)
def PV.less (p q:PV U):Prop:=p=q\/((q= .any/\p.isCell=true)\/ ∃e l o,p= .sl e l o/\q= .sl e l .none)
structure Link (P:Program) where
 gblk:List (Nat×Obj)
 etid:U.E->TypeId
 esize:U.E->Nat
 ebytes:U.E->Nat
 ezero:U.E->Value
 einfo: ∀e,∃i,P.info? (etid e)=some i/\i.zero=some (ezero e)/\i.size=esize e/\i.bytes=ebytes e
 zsize: ∀e,(ezero e).cells.size=esize e
 epos: ∀e,0<esize e
 esz: ∀e,V.esz e=esize e
 inv: ∀t nm f,V.inv t nm=some f-> ∀v w,(method (P.types.size+Made.depth) t v nm).run P w= .ok (f,v) w
 broom: ∀e n,n<=V.bound e->n*ebytes e<=140737488355328/\n<=maxLen
 len: ∀e x,(V.cells e x).length=esize e
 small: ∀e,esize e<=1000
 ecell': ∀e x,(V.cells e x).all (fun p=>p.isCell&&(p.noObj&&p.ids.isEmpty))=true
 toEl: ∀e cs y,V.toEl e cs=some y->cs.length=esize e/\cs.all PV.isCell=true/\ ∀ (k:Nat) p,cs[k]? =some p-> ∃q,(V.cells e y)[k]? =some q/\p.less q
 ty: ∀t r,V.ty t=some r->TyOK P etid etid t r
 keyT: ∀t r e,V.ty t=some r->r.keys=some e->(∃fs,P.underlying (etid e)=some (.struct fs)/\P.stoodInHeld (etid e)=false/\fs.size=esize e/\
  ∀ (i:Nat) (f:Field),fs[i]? =some f->f.name≠ "_" /\f.offset=i/\ ∃k,P.underlying f.type=some (.int k))/\ ∀x y,∃b,PV.eqvI (V.cells e x) (V.cells e y)=some b
theorem Link.ecell {V:Env U} {P:Program} (X:Link V P) (e:U.E) (x:U.El e):(V.cells e x).all PV.isCell=true:=by
 refine bW.2 fun p hp=> ?_
 have:=bW.1 (X.ecell' e x) p hp
 grind
theorem Link.eplain {V:Env U} {P:Program} (X:Link V P) {e:U.E} {x:U.El e} {k:Nat} {p:PV U} (h:(V.cells e x)[k]? =some p):p.noObj=true/\p.ids=[]:=by
 have:=bW.1 (X.ecell' e x) p (dk h)
 grind
variable {V} {P:Program} (X:Link V P)
inductive Rep (w:World) (N:az) (g:Gh U):Value->PV U->Prop
 |undef (v:Value):Rep w N g v .undef
 |int (k:IntKind) (n:Int):Rep w N g (.int k n) (.int k n)
 |bool (b:Bool):Rep w N g (.bool b) (.bool b)
 |str (s:ByteArray):Rep w N g (.string s) (.str s)
 |sl (A:Option Addr) (n c:Nat) (e:U.E) (l:List (U.El e)) (o:Own) (val:Nat->Nat->Value) (hl:l.length=n) (hc:n<=c)
   (ho:match o with| .none=>True| .full=>n=c| .nil=>A=none/\n=0/\c=0| .void=>A=none| .sure=>A≠none)
   (h1: ∀j x,l[j]? =some x-> ∀k p,(V.cells e x)[k]? =some p-> ∃a,A=some a/\w.cell? (a.add (j*X.esize e+k))=some (val j k)/\ ¬N a.block (a.off+(j*X.esize e+k)))
   (h2: ∀j x,l[j]? =some x-> ∀k p,(V.cells e x)[k]? =some p->Rep w N g (val j k) p):Rep w N g (.slice A n c) (.sl e l o)
 |own (i v:Nat) (val:Value) (ver:Nat) (e:U.E) (val':Value) (hk:g.κ i=some (ver,e,val')) (hv:v<=ver) (he:v=ver->val=val') (hs: ∃A n c,val= .slice A n c):Rep w N g val (.own i v)
 |agg (vs:Array Value) (cs:List (PV U)) (hl:vs.size=cs.length) (h: ∀j p,cs[j]? =some p->Rep w N g (vs.getD j undef) p):Rep w N g (.agg vs) (.agg cs)
 |tuple (vs:Array Value) (cs:List (PV U)) (hl:vs.size=cs.length) (h: ∀j p,cs[j]? =some p->Rep w N g (vs.getD j undef) p):Rep w N g (.tuple vs) (.tuple cs)
 |ptr (id off b:Nat) (hb:g.μ id=some b):Rep w N g (.pointer (some ⟨b,off,none⟩)) (.ptr id off)
 |aptr (id:Nat) (n:Int) (b:Nat) (hb:g.μ id=some b) (hn:0<=n):Rep w N g (.pointer (some ⟨b,n.toNat,none⟩)) (.aptr id n)
 |mp (id b:Nat) (hb:g.μ id=some b):Rep w N g (.map (some b)) (.mp id)
 |eptr (e:U.E) (x:U.El e) (off:Nat) (a:Addr) (val:Nat->Value)
   (h1: ∀k p,(V.cells e x)[k]? =some p->w.cell? (a.add k)=some (val k)/\ ¬N a.block (a.off+k))
   (h2: ∀k p,(V.cells e x)[k]? =some p->Rep w N g (val k) p):Rep w N g (.pointer (some (a.add off))) (.eptr e x off)
 |any (v:Value) (h:v.oneCell'=true):Rep w N g v .any
 |pptr (cs:List (PV U)) (off:Nat) (a:Addr) (val:Nat->Value)
   (h1: ∀k p,cs[k]? =some p->w.cell? (a.add k)=some (val k)/\ ¬N a.block (a.off+k))
   (h2: ∀k p,cs[k]? =some p->Rep w N g (val k) p):Rep w N g (.pointer (some (a.add off))) (.pptr cs off)
 |psl (A:Option Addr) (n c m:Nat) (cs:List (PV U)) (o:Bool) (val:Nat->Value) (hl:cs.length=n*m) (hc:n<=c) (ho:o=true->n=c)
   (h1: ∀k p,cs[k]? =some p-> ∃a,A=some a/\w.cell? (a.add k)=some (val k)/\ ¬N a.block (a.off+k))
   (h2: ∀k p,cs[k]? =some p->Rep w N g (val k) p):Rep w N g (.slice A n c) (.psl n m cs o)
 |optr (i v:Nat) (j:Int) (off:Nat) (val:Value) (ver:Nat) (e:U.E) (val':Value) (hk:g.κ i=some (ver,e,val')) (hv:v<=ver)
   (he:v=ver-> ∃a n c,val'= .slice (some a) n c/\val= .pointer (some (a.add (j.toNat*X.esize e+off)))) (hs: ∃a,val= .pointer (some a)):Rep w N g val (.optr i v j off)
 |func (f:FuncId) (a0s bs:List (PV U)) (vs us:Array Value) (ha:vs.size=a0s.length) (hb:us.size=bs.length)
   (h1: ∀j p,a0s[j]? =some p->Rep w N g (vs.getD j undef) p) (h2: ∀j p,bs[j]? =some p->Rep w N g (us.getD j undef) p):Rep w N g (.func (.func f) vs us) (.func f a0s bs)
 |iface (t:TypeId) (v:Value) (p:PV U) (h:Rep w N g v p):Rep w N g (.iface t v) (.iface t p)
 |nilIface:Rep w N g .nilIface .nilIface
 |nilPtr:Rep w N g (.pointer none) .nilPtr
 |nilFunc:Rep w N g .nilFunc .nilFunc
structure Gh.le (g g':Gh U):Prop where
 μ: ∀id b,g.μ id=some b->g'.μ id=some b
 κ: ∀i ver e val,g.κ i=some (ver,e,val)-> ∃ver' e' val',g'.κ i=some (ver',e',val')/\ver<=ver'/\(ver=ver'->e'=e/\val'=val)
theorem Gh.le.refl (g:Gh U):g.le g:=⟨fun _ _ h=>h,fun i ver e val h=>⟨ver,e,val,h,b7 _,fun _=>⟨rfl,rfl⟩⟩⟩
theorem Rep.mono {w w':World} {N N':az} {g g':Gh U} {v:Value} {p:PV U} (h:Rep X w N g v p)
  (hw: ∀b o,b<w.heap.size-> ¬N b o->w'.cell? ⟨b,o,none⟩=w.cell? ⟨b,o,none⟩)
  (hN: ∀b o,b<w.heap.size->N' b o->N b o) (hg:g.le g'):Rep X w' N' g' v p:=by
 have hcell: ∀a v,w.cell? a=some v-> ¬N a.block a.off->w'.cell? a=some v/\ ¬N' a.block a.off:=by
  grind [World.block_lt_of_cell?,pB]
 induction h with
 |undef v=>exact .undef v
 |int k n=>exact .int k n
 |bool b=>exact .bool b
 |str s=>exact .str s
 |sl A n c e l o val hl hc ho h1 h2 ih=>
  refine .sl A n c e l o val hl hc ho (fun j x hx k p hp=> ?_) fun j x hx k p hp=>ih j x hx k p hp
  grind [Addr.add_block,Addr.add_off]
 |own i v val ver e val' hk hv he hs=>
  obtain ⟨ver',e',val'',hk',hle,heq⟩:=hg.κ _ _ _ _ hk
  exact .own i v val ver' e' val'' hk' (dI hv hle) (fun hh=>by
   grind) hs
 |agg vs cs hl h ih=>exact .agg vs cs hl ih
 |tuple vs cs hl h ih=>exact .tuple vs cs hl ih
 |ptr id off b hb=>exact .ptr id off b (hg.μ _ _ hb)
 |aptr id n b hb hn=>exact .aptr id n b (hg.μ _ _ hb) hn
 |mp id b hb=>exact .mp id b (hg.μ _ _ hb)
 |eptr e x off a val h1 h2 ih=>
  refine .eptr e x off a val (fun k p hp=> ?_) ih
  grind [Addr.add_block,Addr.add_off]
 |any v h=>exact .any v h
 |pptr cs off a val h1 h2 ih=>
  refine .pptr cs off a val (fun k p hp=> ?_) ih
  grind [Addr.add_block,Addr.add_off]
 |psl A n c m cs o val hl hc ho h1 h2 ih=>
  refine .psl A n c m cs o val hl hc ho (fun k p hp=> ?_) ih
  grind [Addr.add_block,Addr.add_off]
 |optr i v j off val ver e val' hk hv he hs=>
  obtain ⟨ver',e',val'',hk',hle,heq⟩:=hg.κ _ _ _ _ hk
  refine .optr i v j off val ver' e' val'' hk' (dI hv hle) (fun hh=> ?_) hs
  grind
 |func f a0s bs vs us ha hb h1 h2 i1 i2=>exact .func f a0s bs vs us ha hb i1 i2
 |iface t v p h ih=>exact .iface t v p ih
 |nilIface=>exact .nilIface
 |nilPtr=>exact .nilPtr
 |nilFunc=>exact .nilFunc
theorem Jl {w:World} {N:az} {g:Gh U} {v:Value} {p:PV U} (h:td v p=true):Rep X w N g v p:=by
 unfold td at h
 split at h
 ·simp only [aj,decide_eq_true_eq] at h;obtain ⟨rfl,rfl⟩:=h;exact .int _ _
 ·simp only [decide_eq_true_eq] at h;subst h;exact .bool _
 ·simp only [decide_eq_true_eq] at h;subst h;exact .str _
 ·exact .sl none 0 0 _ [] .nil (fun _ _=>undef) rfl (b7 _) ⟨rfl,rfl,rfl⟩ (by simp) (by simp)
 ·exact .psl none 0 0 _ [] true (fun _=>undef) (by simp) (b7 _) (fun _=>rfl) (by simp) (by simp)
 ·exact .nilFunc
 ·exact .nilIface
 ·exact .nilPtr
 ·exact .undef _
 simp_all
theorem zq {w:World} {N:az} {g:Gh U}: ∀ {vs:List Value} {ps:List (PV U)},j5 vs ps=true->vs.length=ps.length/\ ∀ (j:Nat) p,ps[j]? =some p->Rep X w N g (vs.getD j undef) p:=by
 intro vs
 induction vs with
 |nil=>grind [j5]
 |cons v vs ih=>intro ps h;cases ps<;>grind [j5,Jl]
def TailOK (cur:Array Value) (n:Nat) (t:Array Value):Prop:=cur.size=n+t.size/\ ∀j,j<t.size->cur.getD (n+j) undef=t.getD j undef
theorem TailOK.nil {cur:Array Value} {n:Nat} (h:cur.size=n):TailOK cur n #[]:=⟨by simp [h],fun j hj=>by simp at hj⟩
def BoxOK (w:World) (N:az) (g:Gh U) (t:Array Value) (b:Nat):Box U->Prop
 | .cells cs=> ∃cur e,w.heap[b]? =some (.cells cur e (0,0))/\TailOK cur cs.length t/\ ∀ (j:Nat) p,cs[j]? =some p->Rep X w N g (cur.getD j undef) p
 | .map e l=> ∃en clock,w.heap[b]? =some (.map en clock)/\en.size=l.length/\ ∀ (j:Nat) (x:U.El e) (t:Bool),l[j]? =some (x,t)-> ∃ (m:MapEntry) (vs:Array Value),en[j]? =some m/\m.val= .bool t/\m.key= .agg vs/\
   vs.size=X.esize e/\ ∀ (k:Nat) p,(V.cells e x)[k]? =some p->Rep X w N g (vs.getD k undef) p
structure ObOK (w:World) (N:az) (g:Gh U) (e:U.E) (l:List (U.El e)) (val:Value) (u:Use) (D:Option Nat):Prop where
 val: ∃A n c,val= .slice A n c/\l.length=n/\n<=c/\
  (∀ (j:Nat) x,l[j]? =some x-> ∀ (k:Nat) p,(V.cells e x)[k]? =some p-> ∃a v,A=some a/\w.cell? (a.add (j*X.esize e+k))=some v/\Rep X w N g v p/\(D=none-> ¬N a.block (a.off+(j*X.esize e+k))))/\
  (match D with
   |some b=>u≠ .read/\ ∃cur,A=some ⟨b,0,none⟩/\w.heap[b]? =some (.cells cur (X.etid e) (0,0))/\cur.size=c*X.esize e/\c<=maxLen/\n<=V.bound e
   |none=>(u= .wr->A=none/\n=0/\c=0)/\(u= .app->n=c))
end
section
variable {U:Uni} {P:Program}
def nD (P:Program) (fs:Array Field):Nat->List (Nat×TypeId)->Bool
 |_,[]=>true
 |i,(off,ft)::r=>(match fs[i]? with
  |some f=>ac f.offset off&&ac f.type ft&&(match P.info? ft with|some q=>cG 0 q.size|none=>false)
  |none=>false)&&nD P fs (i+1) r
def nw (n e z:Nat):Nat->List (Nat×TypeId)->Bool
 |_,[]=>true
 |i,(off,ft)::r=>cG i n&&ac ft e&&ac off (i*z)&&nw n e z (i+1) r
def nJ (P:Program):Nat->List Field->Bool
 |_,[]=>true
 |i,f::r=> !(f.name== "_")&&ac f.offset i&&(match P.underlying f.type with|some (.int _)=>true|_=>false)&&nJ P (i+1) r
def u4 (P:Program) (t:TypeId) (r:Ty U):Bool:=match P.info? t with
 |some i=>ac i.size r.size&&(match i.zero with|some z=>j5 z.cells.toList r.zero|none=>false)
 |none=>false
def n9 (P:Program):List Field->Bool
 |[]=>true
 |f::r=>(P.info? f.type).isSome&&n9 P r
def lk:TypeDesc->Bool
 | .interface _=>true
 |_=>false
def ux (P:Program) (etid:U.E->TypeId) (t:TypeId) (r:Ty U) (d:TypeDesc):Bool:=
 (tr d==r.agg)&&
 ((r.arr.isSome||r.fields.isEmpty||(match d with| .struct fs=>nD P fs 0 r.fields|_=>false))&&
 ((match r.arr,d with|none,_=>true|some n,.array m e=>ac m n&&(match P.info? e with|some q=>cG 0 q.size&&(ac (n*q.size) r.size&&nw n e q.size 0 r.fields)|none=>false)|some _,_=>false)&&
 ((match r.elem,d with|none,_=>true|some e,.slice x=>ac x (etid e)|some _,_=>false)&&
 ((match r.keys,d with|none,_=>true|some e,.map k b=>ac k (etid e)&&(match P.info? b with|some i=>(match i.zero with|some (.bool false)=>true|_=>false)|none=>false)|some _,_=>false)&&
 ((match r.ikind,d with|none,_=>true|some k,.int k'=>decide (k'=k)|some _,_=>false)&&
 ((match d with| .struct fs=>n9 P fs.toList|_=>true)&&
 ((ac r.eqk 2==lk d)&&
 ((!ac r.eqk 4||(match d with| .string=>true|_=>false))&&
 ((!ac r.eqk 3||(match d with| .bool=>true|_=>false))&&
 ((!ac r.eqk 5||(match d with| .pointer e=>(match P.info? e with|some i=> !ac i.size 0|none=>false)|_=>false))&&
 (!ac r.eqk 1||(match d with| .struct fs=> !P.stoodInHeld t&& !P.eqGuardType P.depth t&&ac fs.size r.size&&nJ P 0 fs.toList|_=>false))))))))))))
def sX (P:Program) (etid:U.E->TypeId) (t:TypeId) (r:Ty U):Bool:=
 u4 P t r&&(match P.underlying t with|some d=>ux P etid t r d|none=>false)
def qS (P:Program) (t:TypeId) (nm:String) (f:FuncId):Bool:=match P.info? t with
 |some i=>(match i.methods.find? (·.name==nm) with
  |some m=>m.path.isEmpty&&(match m.func with|some (g,false)=>ac g f|_=>false)
  |none=>false)&&(match P.underlying t with|some (.pointer _)=>false|some _=>true|none=>false)
 |none=>false
theorem FG {t:TypeId} {nm:String} {f:FuncId} (h:qS P t nm f=true) (v:Value) (w:World):(method (P.types.size+Made.depth) t v nm).run P w= .ok (f,v) w:=by
 obtain ⟨n,hn⟩: ∃n,P.types.size+Made.depth=n+1:=⟨P.types.size+99,rfl⟩
 unfold qS at h
 split at h
 case h_2=>cases h
 rename_i i hi
 simp only [aj] at h
 obtain ⟨h1,h2⟩:=h
 split at h1
 case h_2=>cases h1
 rename_i m hm
 simp only [aj] at h1
 obtain ⟨hp,h3⟩:=h1
 split at h3
 case h_2=>cases h3
 rename_i g hg
 have hgf:g=f:=Nat.eq_of_beq_eq_true h3
 subst hgf
 have hpath:m.path.toList=[]:=by
  have:m.path= #[]:=by simpa using hp
  rw [this]
 split at h2
 case h_1=>cases h2
 case h_3=>cases h2
 rename_i d hne hd
 rw [hn,method]
 simp only [typeInfo,bu,hi,run_program,bq,b9,hm,hpath,follow,hg,receiverAt,run_underlying hd,Place.get]
theorem Dg {fs:Array Field}: ∀ {l:List (Nat×TypeId)} {s:Nat},nD P fs s l=true-> ∀ (i off:Nat) (ft:TypeId),l[i]? =some (off,ft)-> ∃ (f:Field) (q:TypeInfo),fs[s+i]? =some f/\f.offset=off/\f.type=ft/\P.info? ft=some q/\0<q.size:=by
 intro l
 induction l with
 |nil=>simp
 |cons x l ih=>
  obtain ⟨o,t⟩:=x
  intro s h i off ft hi
  simp only [nD,aj] at h
  obtain ⟨h1,h2⟩:=h
  cases i with
  |zero=>
   simp at hi
   obtain ⟨rfl,rfl⟩:=hi
   split at h1
   ·rename_i f hf
    simp only [aj] at h1
    obtain ⟨⟨a,b⟩,c⟩:=h1
    split at c<;>simp_all
   grind
  |succ i=>
   grind
theorem C8 {n e z:Nat}: ∀ {l:List (Nat×TypeId)} {s:Nat},nw n e z s l=true-> ∀ (i off:Nat) (ft:TypeId),l[i]? =some (off,ft)->s+i<n/\ft=e/\off=(s+i)*z:=by
 intro l
 induction l with
 |nil=>simp
 |cons x l ih=>
  obtain ⟨o,t⟩:=x
  intro s h i off ft hi
  simp only [nw,aj] at h
  obtain ⟨⟨⟨a,b⟩,c⟩,d⟩:=h
  cases i with
  |zero=>
   simp_all
  |succ i=>
   grind
theorem DQ: ∀ {l:List Field} {s:Nat},nJ P s l=true-> ∀ (i:Nat) f,l[i]? =some f->f.name≠ "_" /\f.offset=s+i/\ ∃k,P.underlying f.type=some (.int k):=by
 intro l
 induction l with
 |nil=>simp
 |cons x l ih=>
  intro s h i f hi
  simp only [nJ,aj,Bool.not_eq_true'] at h
  obtain ⟨⟨⟨a,b⟩,c⟩,d⟩:=h
  cases i with
  |zero=>
   simp at hi
   subst hi
   refine ⟨by grind,by simp_all, ?_⟩
   grind
  |succ i=>
   grind
theorem GD: ∀ {l:List Field},n9 P l=true-> ∃ps,l.mapM (fun f=>(P.info? f.type).map fun i=>(f.offset,i.size))=some ps:=by
 intro l
 induction l with
 |nil=>simp
 |cons f l ih=>
  intro h
  simp only [n9,aj] at h
  obtain ⟨h1,h2⟩:=h
  obtain ⟨ps,hps⟩:=ih h2
  obtain ⟨i,hi⟩:=Option.isSome_iff_exists.1 h1
  grind
theorem y6 {etid:U.E->TypeId} {t:TypeId} {r:Ty U} (h:sX P etid t r=true):TyOK P etid etid t r:=by
 simp only [sX,aj] at h
 obtain ⟨h1,h2⟩:=h
 split at h2
 case h_2=>cases h2
 rename_i d hd
 simp only [ux,aj] at h2
 obtain ⟨q1,q2,q3,q4,q5,q6,q7,q8,q9,q10,q12,q11⟩:=h2
 have hif:ac r.eqk 2=lk d:=by grind
 refine ⟨?_,⟨d,hd,by grind⟩,fun ha i off ft hi=> ?_,fun n hn=> ?_,fun e he=> ?_,fun e he=> ?_,fun k hk=> ?_,fun fs hfs=> ?_,fun hk d' hd' ms e=> ?_,fun hk=> ?_,fun hk=> ?_,fun hk=> ?_,fun hk=> ?_,fun hk=> ?_⟩
 ·unfold u4 at h1
  split at h1
  ·rename_i i hi
   simp only [aj] at h1
   obtain ⟨a,b⟩:=h1
   split at b<;>simp_all
  grind
 ·grind [Dg]
 ·rw [hn] at q3
  split at q3
  ·grind
  ·rename_i m e heq
   injection heq with heq
   subst heq
   simp only [aj] at q3
   obtain ⟨a,c⟩:=q3
   have hm:m=n:=by simp_all
   subst hm
   split at c
   ·rename_i q hq
    simp only [aj,Nat.blt_eq,Nat.beq_eq_true_eq] at c
    obtain ⟨c1,c2,dd⟩:=c
    refine ⟨e,q,hd,hq,by simpa using c1,Nat.eq_of_beq_eq_true c2,fun i off ft hi=> ?_⟩
    have:=C8 dd i off ft hi
    rw [b8] at this
    exact this
   simp_all
  grind
 ·rw [he] at q4
  split at q4<;>simp_all
 ·rw [he] at q5
  split at q5
  ·grind
  ·rename_i e' k b heq
   injection heq with heq
   subst heq
   simp only [aj] at q5
   obtain ⟨a,c⟩:=q5
   have:k=etid e:=by simp_all
   grind
  grind
 ·grind
 ·grind [GD]
 ·rw [hd] at hd'
  simp_all [lk]
 ·rw [hk] at hif
  have:lk d=true:=by simp_all
  cases d<;>simp [lk] at this<;>grind
 ·rw [hk] at q9
  simp at q9
  grind
 ·rw [hk] at q12
  have h55:ac 5 5=true:=rfl
  rw [h55] at q12
  simp only [Bool.not_true,Bool.false_or] at q12
  split at q12
  ·rename_i e
   split at q12
   ·rename_i i hi
    refine ⟨e,i,hd,hi,fun h0=> ?_⟩
    rw [h0] at q12
    cases q12
   ·cases q12
  ·cases q12
 ·rw [hk] at q10
  simp at q10
  grind
 ·rw [hk] at q11
  have h11:ac 1 1=true:=rfl
  rw [h11] at q11
  simp only [Bool.not_true,Bool.false_or] at q11
  split at q11
  ·rename_i fs
   simp only [aj,Bool.not_eq_true'] at q11
   obtain ⟨⟨⟨a,b⟩,c⟩,dd⟩:=q11
   refine ⟨fs,hd,a,b,by simp_all,fun i f hi=> ?_⟩
   have:=DQ dd i f (by grind)
   grind
  grind
end
structure Ext (bl:List Nat) (w w':World):Prop where
 os:w'.os=w.os
 tape:w'.tape=w.tape
 output:w'.output=w.output
 size:w.heap.size<=w'.heap.size
 block: ∀b,b<w.heap.size->b∉bl->w'.heap[b]? =w.heap[b]?
theorem Ext.refl (bl:List Nat) (w:World):Ext bl w w:=⟨rfl,rfl,rfl,b7 _,fun _ _ _=>rfl⟩
section
variable {U:Uni} {V:Env U} {P:Program} (X:Link V P)
structure Ctx where
 w0:World
 N0:az
 bl:List Nat
 nt:Nat
 n0: ∀b o,N0 b o->b<w0.heap.size/\b∉bl
 fix:Nat->Option Nat
 low: ∀id k,fix id=some k->1000000<=id/\nt<=id
 gl:List (Nat×Obj)
 glob: ∀b o,(b,o)∈gl->w0.heap[b]? =some o/\b∉bl
 ο:Nat->Array Value
 oz: ∀b,w0.heap.size<=b->ο b= #[]
def Ctx.N (c:Ctx) (g:Gh U) (D:Nat->Option Nat):az:=fun b o=>c.N0 b o\/(∃id,g.μ id=some b)\/(∃i,D i=some b)
structure Sim (c:Ctx) (tm:Array Value) (w:World) (σ:St U) (g:Gh U) (D:Nat->Option Nat):Prop where
 nt:tm.size=c.nt
 regs: ∀n,Rep X w (c.N g D) g (tm.getD n undef) (σ.r n)
 boxes: ∀id b,σ.b id=some b-> ∃k,g.μ id=some k/\BoxOK X w (c.N g D) g (c.ο k) k b
 dom: ∀id k,g.μ id=some k-> ∃b,σ.b id=some b
 inj: ∀id id' k,g.μ id=some k->g.μ id'=some k->id=id'
 new: ∀id k,g.μ id=some k->k<w.heap.size/\(k∈c.bl\/c.w0.heap.size<=k)
 objs: ∀i ob,σ.o i=some ob-> ∃val,g.κ i=some (ob.ver,ob.e,val)/\ObOK X w (c.N g D) g ob.e ob.l val (σ.u i) (D i)
 nobj: ∀i,σ.o i=none->g.κ i=none/\D i=none
 dinj: ∀i i' k,D i=some k->D i'=some k->i=i'
 dnew: ∀i k,D i=some k->k<w.heap.size/\(k∈c.bl\/c.w0.heap.size<=k)
 dbox: ∀i id k,D i=some k->g.μ id≠some k
 ext:Ext c.bl c.w0 w
 fix: ∀id k,g.μ id=some k->c.fix id=some k\/(c.fix id=none/\c.w0.heap.size<=k)
 gl:c.gl=X.gblk
variable {X} {c:Ctx} {tm:Array Value} {w:World} {σ:St U} {g:Gh U} {D:Nat->Option Nat}
theorem Ctx.free (c:Ctx) {d:Nat} (hd:d<c.nt):c.fix d=none:=by
 cases hf:c.fix d with
 |none=>rfl
 |some k=>have:=(c.low d k hf).2;omega
theorem BoxOK.mono {w w':World} {N N':az} {g g':Gh U} {t:Array Value} {k:Nat} {b:Box U} (h:BoxOK X w N g t k b) (hk:w'.heap[k]? =w.heap[k]?)
  (hw: ∀b o,b<w.heap.size-> ¬N b o->w'.cell? ⟨b,o,none⟩=w.cell? ⟨b,o,none⟩) (hN: ∀b o,b<w.heap.size->N' b o->N b o) (hg:g.le g'):BoxOK X w' N' g' t k b:=by
 cases b with
 |cells cs=>
  obtain ⟨cur,e,h1,h2,h3⟩:=h
  exact ⟨cur,e,hk▸h1,h2,fun j p hp=>(h3 j p hp).mono X hw hN hg⟩
 |map e l=>
  obtain ⟨en,cl,h1,h2,h3⟩:=h
  refine ⟨en,cl,hk▸h1,h2,fun j x t hx=> ?_⟩
  obtain ⟨m,vs,a,b,d,e,f⟩:=h3 j x t hx
  exact ⟨m,vs,a,b,d,e,fun k p hp=>(f k p hp).mono X hw hN hg⟩
theorem ObOK.mono {w w':World} {N N':az} {g g':Gh U} {e:U.E} {l:List (U.El e)} {val:Value} {u:Use} {D:Option Nat} (h:ObOK X w N g e l val u D)
  (hk: ∀k,D=some k->w'.heap[k]? =w.heap[k]?)
  (hw: ∀b o,b<w.heap.size-> ¬N b o->w'.cell? ⟨b,o,none⟩=w.cell? ⟨b,o,none⟩) (hN: ∀b o,b<w.heap.size->N' b o->N b o) (hg:g.le g'):ObOK X w' N' g' e l val u D:=by
 obtain ⟨A,n,cp,hv,hl,hc,h1,h2⟩:=h.val
 refine ⟨A,n,cp,hv,hl,hc,fun j x hx k p hp=> ?_, ?_⟩
 ·obtain ⟨a,v,ha,hcell,hr,hn⟩:=h1 j x hx k p hp
  refine ⟨a,v,ha, ?_,hr.mono X hw hN hg,fun hD h'=> ?_⟩
  all_goals grind [World.cell?,Addr.add_block,Addr.add_off]
 grind
theorem Sim.eqv (h:Sim X c tm w σ g D) {σ':St U} (he:σ.eqv σ'):Sim X c tm w σ' g D where
 nt:=h.nt
 regs n:=he.r n▸h.regs n
 boxes id b hb:=h.boxes id b ((he.b id).trans hb)
 dom id k hk:=by obtain ⟨b,hb⟩:=h.dom id k hk;exact ⟨b,(he.b id).symm.trans hb⟩
 inj:=h.inj
 new:=h.new
 objs i ob ho:=by have:=h.objs i ob ((he.o i).trans ho);rwa [he.u i] at this
 nobj i ho:=h.nobj i ((he.o i).trans ho)
 dinj:=h.dinj
 dnew:=h.dnew
 dbox:=h.dbox
 ext:=h.ext
 fix:=h.fix
 gl:=h.gl
theorem Sim.put (h:Sim X c tm w σ g D) {d:Nat} (hd:d<c.nt) {v:Value} {p:PV U} (hr:Rep X w (c.N g D) g v p):
  Sim X c (tm.setIfInBounds d v) w (σ.setR d p) g D:=
 {h with
  nt:=by simpa using h.nt
  regs:=fun n=>by
   rw [St.setR_r]
   by_cases hn:d=n
   ·subst hn
    have:(tm.setIfInBounds d v).getD d undef=v:=by simp [ct,h.nt,hd]
    grind
   ·have:(tm.setIfInBounds d v).getD n undef=tm.getD n undef:=by
     simp_all
    rw [if_neg hn,this];exact h.regs n}
theorem Sim.world (h:Sim X c tm w σ g D) {w':World} (hos:w'.os=w.os) (htape:w'.tape=w.tape) (hout:w'.output=w.output) (hsize:w.heap.size<=w'.heap.size)
  (hb: ∀b,b<w.heap.size->w'.heap[b]? =w.heap[b]?):Sim X c tm w' σ g D:=by
 have hw: ∀b o,b<w.heap.size-> ¬ (c.N g D) b o->w'.cell? ⟨b,o,none⟩=w.cell? ⟨b,o,none⟩:=fun b o hlt _=>by
  grind [World.cell?]
 have hN: ∀b o,b<w.heap.size->(c.N g D) b o->(c.N g D) b o:=fun _ _ _ h=>h
 exact {h with
  regs:=fun n=>(h.regs n).mono X hw hN (Gh.le.refl g)
  boxes:=fun id b hb'=>by
   obtain ⟨k,hk,hbox⟩:=h.boxes id b hb'
   exact ⟨k,hk,hbox.mono (hb k (h.new id k hk).1) hw hN (Gh.le.refl g)⟩
  new:=fun id k hk=>⟨eJ (h.new id k hk).1 hsize,(h.new id k hk).2⟩
  objs:=fun i ob ho=>by
   obtain ⟨val,hk,hob⟩:=h.objs i ob ho
   exact ⟨val,hk,hob.mono (fun k hk=>hb k (h.dnew i k hk).1) hw hN (Gh.le.refl g)⟩
  dnew:=fun i k hk=>⟨eJ (h.dnew i k hk).1 hsize,(h.dnew i k hk).2⟩
  ext:=⟨hos.trans h.ext.os,htape.trans h.ext.tape,hout.trans h.ext.output,dI h.ext.size hsize,fun b hlt hn=>
   (hb b (eJ hlt h.ext.size)).trans (h.ext.block b hlt hn)⟩}
theorem Sim.drew (h:Sim X c tm w σ g D):Sim X c tm w.drew σ g D:=h.world rfl rfl rfl (b7 _) fun _ _=>rfl
theorem Sim.alloc (h:Sim X c tm w σ g D) (o:Obj):Sim X c tm (w.alloc o) σ g D:=
 h.world rfl rfl rfl (by simp) fun b hb=>heap_alloc_old w o b hb
def Gh.put (g:Gh U) (d k:Nat):Gh U:={g with μ:=fun id=>if id=d then some k else g.μ id}
theorem Gh.put_le (g:Gh U) {d:Nat} (hd:g.μ d=none) (k:Nat):g.le (g.put d k):=
 ⟨fun id b hb=>by
  grind [Gh.put],(Gh.le.refl g).κ⟩
theorem Sim.free (h:Sim X c tm w σ g D) {d:Nat} (hd:σ.b d=none):g.μ d=none:=by
 cases hm:g.μ d with
 |none=>rfl
 |some k=>obtain ⟨b,hb⟩:=h.dom d k hm;grind
theorem tp (c:Ctx) (g:Gh U) (D:Nat->Option Nat) (w:World) (d:Nat): ∀b o,b<w.heap.size->(c.N (g.put d w.heap.size) D) b o->(c.N g D) b o:=by
 rintro b o hlt (hn|⟨id,hid⟩|hn)
 ·exact .inl hn
 ·simp only [Gh.put] at hid
  split at hid
  ·grind
  ·exact .inr (.inl ⟨id,hid⟩)
 ·exact .inr (.inr hn)
theorem kI (w:World) (o:Obj) (b i:Nat) (h:b<w.heap.size):(w.alloc o).cell? ⟨b,i,none⟩=w.cell? ⟨b,i,none⟩:=by
 grind [World.cell?,heap_alloc_old]
theorem Sim.newRep (h:Sim X c tm w σ g D) {d:Nat} (hd:σ.b d=none) (o:Obj) {v:Value} {p:PV U} (hr:Rep X w (c.N g D) g v p):
  Rep X (w.alloc o) (c.N (g.put d w.heap.size) D) (g.put d w.heap.size) v p:=
 hr.mono X (fun b i hlt _=>kI w o b i hlt) (tp c g D w d) (g.put_le (h.free hd) _)
theorem Sim.glob (h:Sim X c tm w σ g D) {b:Nat} {o:Obj} (hb:(b,o)∈X.gblk):w.heap[b]? =some o/\(∀id,g.μ id≠some b)/\ ∀i,D i≠some b:=by
 rw [<-h.gl] at hb
 obtain ⟨h1,h2⟩:=c.glob b o hb
 have hlt:b<c.w0.heap.size:=(Array.getElem?_eq_some_iff.1 h1).1
 refine ⟨(h.ext.block b hlt h2).trans h1,fun id hid=> ?_,fun i hi=> ?_⟩
 ·rcases (h.new id b hid).2 with h3|h3<;>grind
 ·rcases (h.dnew i b hi).2 with h3|h3<;>grind
theorem Sim.newBox (h:Sim X c tm w σ g D) {d:Nat} (hd:σ.b d=none) (hdn:c.fix d=none) {o:Obj} {b:Box U}
  (hb:BoxOK X (w.alloc o) (c.N (g.put d w.heap.size) D) (g.put d w.heap.size) #[] w.heap.size b):
  Sim X c tm (w.alloc o) (σ.setB d b) (g.put d w.heap.size) D:=by
 have hle:=g.put_le (h.free hd) w.heap.size
 have hNold:=tp c g D w d
 have hblk: ∀b,b<w.heap.size->(w.alloc o).heap[b]? =w.heap[b]? :=fun b hb=>heap_alloc_old w o b hb
 have hw: ∀b o',b<w.heap.size-> ¬ (c.N g D) b o'->(w.alloc o).cell? ⟨b,o',none⟩=w.cell? ⟨b,o',none⟩:=fun b i hlt _=>kI w o b i hlt
 refine
  {nt:=h.nt
   regs:=fun n=>h.newRep hd o (h.regs n)
   boxes:=fun id b' hb'=> ?_
   dom:=fun id k hk=> ?_
   inj:=fun id id' k hk hk'=> ?_
   new:=fun id k hk=> ?_
   objs:=fun i ob ho=> ?_
   nobj:=h.nobj
   dinj:=h.dinj
   dnew:=fun i k hk=>⟨by have:=(h.dnew i k hk).1;grind,(h.dnew i k hk).2⟩
   dbox:=fun i id k hk hm=> ?_
   ext:=(h.alloc o).ext
   gl:=h.gl
   fix:=fun id k hk=> ?_}
 ·rw [St.setB_b] at hb'
  by_cases hid:d=id
  ·subst hid
   rw [if_pos rfl] at hb';cases hb'
   exact ⟨w.heap.size,by simp [Gh.put],by rw [c.oz _ h.ext.size];exact hb⟩
  ·rw [if_neg hid] at hb'
   obtain ⟨k,hk,hbox⟩:=h.boxes id b' hb'
   exact ⟨k,hle.μ _ _ hk,hbox.mono (hblk k (h.new id k hk).1) hw hNold hle⟩
 ·simp only [Gh.put] at hk
  by_cases hid:id=d
  ·simp_all
  ·rw [if_neg hid] at hk
   obtain ⟨b',hb'⟩:=h.dom id k hk
   grind [St.setB_b]
 ·simp only [Gh.put] at hk hk'
  split at hk<;>split at hk'
  ·simp_all
  ·cases hk;have:=(h.new _ _ hk').1;omega
  ·cases hk';have:=(h.new _ _ hk).1;omega
  ·exact h.inj _ _ _ hk hk'
 ·simp only [Gh.put] at hk
  split at hk
  ·cases hk;exact ⟨by simp,.inr h.ext.size⟩
  ·have:=h.new id k hk;grind
 ·obtain ⟨val,hk,hob⟩:=h.objs i ob ho
  exact ⟨val,hk,hob.mono (fun k hk=>hblk k (h.dnew i k hk).1) hw hNold hle⟩
 ·simp only [Gh.put] at hm
  split at hm
  ·cases hm;have:=(h.dnew i _ hk).1;omega
  ·exact h.dbox i id k hk hm
 ·simp only [Gh.put] at hk
  split at hk
  ·rename_i he
   subst he
   cases hk
   exact .inr ⟨hdn,h.ext.size⟩
  ·exact h.fix id k hk
theorem Sim.setBox (h:Sim X c tm w σ g D) {id k:Nat} (hk:g.μ id=some k) {w':World} {b:Box U} (hos:w'.os=w.os) (htape:w'.tape=w.tape) (hout:w'.output=w.output)
  (hsize:w'.heap.size=w.heap.size) (hblk: ∀b,b≠k->w'.heap[b]? =w.heap[b]?) (hb:BoxOK X w' (c.N g D) g (c.ο k) k b):Sim X c tm w' (σ.setB id b) g D:=by
 have hw: ∀b o,b<w.heap.size-> ¬ (c.N g D) b o->w'.cell? ⟨b,o,none⟩=w.cell? ⟨b,o,none⟩:=fun b o hlt hn=>by
  have:b≠k:=fun e=>hn (.inr (.inl ⟨id,e▸hk⟩))
  grind [World.cell?]
 have hN: ∀b o,b<w.heap.size->(c.N g D) b o->(c.N g D) b o:=fun _ _ _ h=>h
 exact
  {nt:=h.nt
   regs:=fun n=>(h.regs n).mono X hw hN (Gh.le.refl g)
   boxes:=fun id' b' hb'=>by
    rw [St.setB_b] at hb'
    by_cases hid:id=id'
    ·grind
    ·rw [if_neg hid] at hb'
     obtain ⟨k',hk',hbox⟩:=h.boxes id' b' hb'
     exact ⟨k',hk',hbox.mono (hblk k' fun e=>hid (h.inj _ _ _ hk (e▸hk'))) hw hN (Gh.le.refl g)⟩
   dom:=fun id' k' hk'=>by
    by_cases hid:id=id'
    ·simp_all
    ·obtain ⟨b',hb'⟩:=h.dom id' k' hk'
     simp_all
   inj:=h.inj
   new:=fun id k hk=>by rw [hsize];exact h.new id k hk
   objs:=fun i ob ho=>by
    obtain ⟨val,hk',hob⟩:=h.objs i ob ho
    exact ⟨val,hk',hob.mono (fun k' hk'=>hblk k' fun e=>h.dbox i id k' hk' (e▸hk)) hw hN (Gh.le.refl g)⟩
   nobj:=h.nobj
   dinj:=h.dinj
   dnew:=fun i k hk=>by rw [hsize];exact h.dnew i k hk
   dbox:=h.dbox
   ext:=⟨hos.trans h.ext.os,htape.trans h.ext.tape,hout.trans h.ext.output,by rw [hsize];exact h.ext.size,fun b hlt hn=>by
    have:b≠k:=fun e=>by
     have:=(h.new id k hk).2
     grind
    exact (hblk b this).trans (h.ext.block b hlt hn)⟩
   gl:=h.gl
   fix:=h.fix}
theorem Sim.frz (h:Sim X c tm w σ g D) {i:Nat}:Sim X c tm w (σ.setU i .read) g (fun j=>if j=i then none else D j):=by
 have hw: ∀b o,b<w.heap.size-> ¬ (c.N g D) b o->w.cell? ⟨b,o,none⟩=w.cell? ⟨b,o,none⟩:=fun _ _ _ _=>rfl
 have hN: ∀b o,b<w.heap.size->(c.N g fun j=>if j=i then none else D j) b o->(c.N g D) b o:=by
  rintro b o _ (hn|hn|⟨j,hj⟩)
  ·exact .inl hn
  ·exact .inr (.inl hn)
  ·simp only at hj
   split at hj
   ·cases hj
   ·exact .inr (.inr ⟨j,hj⟩)
 exact
  {nt:=h.nt
   regs:=fun n=>(h.regs n).mono X hw hN (Gh.le.refl g)
   boxes:=fun id b hb=>by
    obtain ⟨k,hk,hbox⟩:=h.boxes id b hb
    exact ⟨k,hk,hbox.mono rfl hw hN (Gh.le.refl g)⟩
   dom:=h.dom
   inj:=h.inj
   new:=h.new
   objs:=fun j ob ho=>by
    obtain ⟨val,hk,hob⟩:=h.objs j ob ho
    refine ⟨val,hk, ?_⟩
    have hob':=hob.mono (fun _ _=>rfl) hw hN (Gh.le.refl g)
    by_cases hj:j=i
    ·subst hj
     simp only [St.setU_u,if_true]
     obtain ⟨A,n,cp,hv,hl,hc,h1,h2⟩:=hob'.val
     refine ⟨A,n,cp,hv,hl,hc,fun q x hx k p hp=> ?_,by simp⟩
     obtain ⟨a,v,ha,hcell,hr,hn⟩:=h1 q x hx k p hp
     refine ⟨a,v,ha,hcell,hr,fun _=> ?_⟩
     cases hD:D j with
     |none=>simp_all
     |some b=>
      rw [hD] at h2
      obtain ⟨_,cur,hA,hb,_⟩:=h2
      rw [hA] at ha;cases ha
      have hd:=h.dnew j b hD
      rintro (hn'|⟨id,hid⟩|⟨q,hq⟩)
      ·have:=c.n0 _ _ hn'
       grind
      ·exact h.dbox j id b hD hid
      ·simp only at hq
       split at hq
       ·cases hq
       ·rename_i hne;exact hne (h.dinj _ _ _ hq hD)
    grind [St.setU_u]
   nobj:=fun j ho=>⟨(h.nobj j ho).1,by split;rfl;exact (h.nobj j ho).2⟩
   dinj:=fun j j' k hk hk'=>by
    split at hk<;>split at hk'<;>first|cases hk|cases hk'|exact h.dinj _ _ _ hk hk'
   dnew:=fun j k hk=>by
    split at hk
    ·cases hk
    ·exact h.dnew j k hk
   dbox:=fun j id k hk=>by
    split at hk
    ·cases hk
    ·exact h.dbox j id k hk
   ext:=h.ext
   gl:=h.gl
   fix:=h.fix}
theorem Sim.objsTurn (h:Sim X c tm w σ g D) {w':World} {σ':St U} {g':Gh U} {D':Nat->Option Nat} (ch:Nat->Prop)
  (hos:w'.os=w.os) (htape:w'.tape=w.tape) (hout:w'.output=w.output) (hsize:w.heap.size<=w'.heap.size)
  (hblk: ∀b,b<w.heap.size->(∀j,ch j->D j≠some b)->w'.heap[b]? =w.heap[b]?)
  (hr: ∀n,σ'.r n=σ.r n) (hbx: ∀n,σ'.b n=σ.b n) (hμ:g'.μ=g.μ) (hle:g.le g')
  (hD: ∀j b,D' j=some b->(¬ch j/\D j=some b)\/((∃i,ch i/\D i=some b)\/(w.heap.size<=b/\b<w'.heap.size)))
  (hdinj: ∀j j' b,ch j->D' j=some b->D' j'=some b->j=j')
  (hold: ∀j,¬ch j->σ'.o j=σ.o j/\σ'.u j=σ.u j/\D' j=D j/\g'.κ j=g.κ j)
  (hobj: ∀j ob,ch j->σ'.o j=some ob-> ∃val,g'.κ j=some (ob.ver,ob.e,val)/\ObOK X w' (c.N g' D') g' ob.e ob.l val (σ'.u j) (D' j))
  (hnobj: ∀j,ch j->σ'.o j=none->g'.κ j=none/\D' j=none):Sim X c tm w' σ' g' D':=by
 have hNold: ∀b o,b<w.heap.size->(c.N g' D') b o->(c.N g D) b o:=by
  rintro b o hlt (hn|⟨id,hid⟩|⟨j,hj⟩)
  ·exact .inl hn
  ·exact .inr (.inl ⟨id,hμ▸hid⟩)
  ·rcases hD j b hj with ⟨_,hj'⟩|⟨i,_,hi⟩|hk
   ·exact .inr (.inr ⟨j,hj'⟩)
   ·exact .inr (.inr ⟨i,hi⟩)
   ·omega
 have hw: ∀b o,b<w.heap.size-> ¬ (c.N g D) b o->w'.cell? ⟨b,o,none⟩=w.cell? ⟨b,o,none⟩:=fun b o hlt hn=>by
  unfold World.cell?
  rw [hblk b hlt fun j _ hj=>hn (.inr (.inr ⟨j,hj⟩))]
 exact
  {nt:=h.nt
   regs:=fun n=>by rw [hr];exact (h.regs n).mono X hw hNold hle
   boxes:=fun id b hb=>by
    rw [hbx] at hb
    obtain ⟨k,hk,hbox⟩:=h.boxes id b hb
    exact ⟨k,hμ▸hk,hbox.mono (hblk k (h.new id k hk).1 fun j _ hj=>h.dbox j id k hj hk) hw hNold hle⟩
   dom:=fun id k hk=>by rw [hbx];exact h.dom id k (hμ▸hk)
   inj:=fun id id' k hk hk'=>h.inj id id' k (hμ▸hk) (hμ▸hk')
   new:=fun id k hk=>by
    have:=h.new id k (hμ▸hk);grind
   objs:=fun j ob ho=>by
    by_cases hj:ch j
    ·grind
    ·obtain ⟨h1,h2,h3,h4⟩:=hold j hj
     rw [h1] at ho
     obtain ⟨val,hk,hob⟩:=h.objs j ob ho
     rw [h2,h3,h4]
     exact ⟨val,hk,hob.mono (fun k hk=>hblk k (h.dnew j k hk).1 fun i hi hi'=>hj (h.dinj _ _ _ hi' hk▸hi)) hw hNold hle⟩
   nobj:=fun j ho=>by
    by_cases hj:ch j
    ·grind
    ·obtain ⟨h1,h2,h3,h4⟩:=hold j hj
     rw [h3,h4];exact h.nobj j (h1▸ho)
   dinj:=fun j j' b hb hb'=>by
    by_cases hj:ch j
    ·grind
    ·by_cases hj':ch j'
     ·grind
     ·rw [(hold j hj).2.2.1] at hb;rw [(hold j' hj').2.2.1] at hb'
      exact h.dinj _ _ _ hb hb'
   dnew:=fun j b hb=>by
    rcases hD j b hb with ⟨_,hj'⟩|⟨i,_,hi⟩|hk
    ·have:=h.dnew j b hj';grind
    ·have:=h.dnew i b hi;grind
    ·exact ⟨hk.2,.inr (dI h.ext.size hk.1)⟩
   dbox:=fun j id b hb hm=>by
    rw [hμ] at hm
    rcases hD j b hb with ⟨_,hj'⟩|⟨i,_,hi⟩|hk
    ·exact h.dbox j id b hj' hm
    ·exact h.dbox i id b hi hm
    ·have:=(h.new id b hm).1;omega
   ext:=⟨hos.trans h.ext.os,htape.trans h.ext.tape,hout.trans h.ext.output,dI h.ext.size hsize,fun b hlt hn=>by
    rw [hblk b (eJ hlt h.ext.size) fun j _ hj=>by
     rcases (h.dnew j b hj).2 with h1|h1<;>grind]
    exact h.ext.block b hlt hn⟩
   gl:=h.gl
   fix:=fun id k hk=>h.fix id k (hμ▸hk)}
end
section
variable {U:Uni} {V:Env U} {P:Program} {X:Link V P} {K:bA U} {c:Ctx} {a:Act} {w:World} {σ:St U} {g:Gh U} {D:Nat->Option Nat}
theorem BN {t:TypeId} {v:Value} {p:PV U} (h:pE V t v=some p) {w:World} {N:az} {g:Gh U}:Rep X w N g v p:=by
 unfold pE at h
 split at h
 ·cases h;exact .int _ _
 ·cases h;exact .bool _
 ·cases h;exact .str _
 ·split at h
  ·cases h;exact .sl none 0 0 _ [] .nil (fun _ _=>undef) rfl (b7 _) ⟨rfl,rfl,rfl⟩ (by simp) (by simp)
  ·cases h
 ·cases h;exact .nilFunc
 ·cases h;exact .nilIface
 ·cases h;exact .nilPtr
 ·cases h
theorem Dx {f:FuncId} {w:World} {N:az} {g:Gh U}:Rep X w N g (.func (.func f) #[] #[]) (.func f [] []):=
 .func f [] [] #[] #[] rfl rfl (by simp) (by simp)
theorem bv (h:Sim X c a.tmps w σ g D) {x:Operand} {t:TypeId} {k:PV U->M U} {fp:List Loc} {r:MR U} {τ:St U} {gp:List Loc}
  (hr:(ev V x t k).Rel K σ fp r τ gp): ∃v fp',Rep X w (c.N g D) g (a.eval x) v/\(k v).Rel K σ fp' r τ gp:=by
 cases x with
 |tmp n=>exact ⟨σ.r n,.rr n::fp,h.regs n,hr⟩
 |const v=>
  simp only [ev] at hr
  split at hr
  ·rename_i p hp;exact ⟨p,fp,BN hp,hr⟩
  ·exact hr.elim
 |func f=>exact ⟨_,fp,Dx,hr⟩
 |global n=>exact hr.elim
theorem lc (h:Sim X c a.tmps w σ g D): ∀ {xs:List Operand} {ts:List TypeId} {k:List (PV U)->M U} {fp:List Loc} {r:MR U} {τ:St U} {gp:List Loc}
  (hr:(fi V xs ts k).Rel K σ fp r τ gp),∃vs fp',vs.length=xs.length/\(∀ (j:Nat) p,vs[j]? =some p->Rep X w (c.N g D) g ((xs.map a.eval).getD j undef) p)/\(k vs).Rel K σ fp' r τ gp:=by
 intro xs
 induction xs with
 |nil=>intro ts k fp r τ gp hr;exact ⟨[],fp,rfl,by simp,hr⟩
 |cons x xs ih=>
  intro ts k fp r τ gp hr
  have main: ∀t ts',(ev V x t fun v=>fi V xs ts' fun vs=>k (v::vs)).Rel K σ fp r τ gp-> ∃vs fp',vs.length=(x::xs).length/\(∀ (j:Nat) p,vs[j]? =some p->Rep X w (c.N g D) g (((x::xs).map a.eval).getD j undef) p)/\(k vs).Rel K σ fp' r τ gp:=by
   intro t ts' hr
   obtain ⟨v,fp',hv,hr'⟩:=bv h hr
   obtain ⟨vs,fp'',hl,hvs,hk⟩:=ih hr'
   refine ⟨v::vs,fp'',by simp [hl],fun j p hp=> ?_,hk⟩
   cases j with
   |zero=>simp at hp;subst hp;simpa using hv
   |succ j=>simpa using hvs j p (by simpa using hp)
  cases ts with
  |nil=>exact main _ _ hr
  |cons t ts=>exact main _ _ hr
def St.after (σ:St U) (d:Option Tmp) (v:PV U):St U:=match d with|some n=>σ.setR n v|none=>σ
theorem jQ {d:Option Tmp} {v:PV U} {fp:List Loc} {r:MR U} {τ:St U} {gp:List Loc} (hr:(put d v).Rel K σ fp r τ gp):
  r= .done/\τ=σ.after d v:=by
 cases d with
 |none=>obtain ⟨h1,h2,_⟩:=hr;exact ⟨h1,h2⟩
 |some n=>obtain ⟨h1,h2,_⟩:=hr;exact ⟨h1,h2⟩
theorem Sim.putAct (h:Sim X c a.tmps w σ g D) {o:Oper} (hd:aW c.nt o=true) {v:Value} {p:PV U} (hr:Rep X w (c.N g D) g v p):
  Sim X c (a.put o.dst v).tmps w (σ.after o.dst p) g D/\(a.put o.dst v).defers=a.defers:=by
 unfold aW at hd
 cases ho:o.dst with
 |none=>exact ⟨h,rfl⟩
 |some d=>
  rw [ho] at hd
  have:d<c.nt:=by simpa [Nat.blt_eq] using hd
  exact ⟨h.put this hr,rfl⟩
structure Then (X:Link V P) (c:Ctx) (a:Act) (r:MR U) (τ:St U) (next:Act->World->Prop) (Q:Exit->Act->World->Prop):Prop where
 done:r= .done-> ∀a' w' g' D',a'.defers=a.defers->Sim X c a'.tmps w' τ g' D'->next a' w'
 raise: ∀v,r= .raise v-> ∀w' g' D' val,Rep X w' (c.N g' D') g' val v->Sim X c a.tmps w' τ g' D'->Q (.panic [{v:=val,recovered:=false}]) a w'
variable {next:Act->World->Prop} {Q:Exit->Act->World->Prop} {o:Oper} {r:MR U} {τ:St U} {fp gp:List Loc}
theorem aX (hd:aW c.nt o=true) (ht:Then X c a r τ next Q) {w':World} {g':Gh U} {D':Nat->Option Nat} {σ':St U} (h:Sim X c a.tmps w' σ' g' D') {v:Value} {p:PV U}
  (hrun:(execOp a.eval o).run P w= .ok (.value v) w') (hv:Rep X w' (c.N g' D') g' v p) (hp:(put o.dst p).Rel K σ' fp r τ gp):o.wp P a w next Q:=by
 obtain ⟨hr,hτ⟩:=jQ hp
 subst hτ
 obtain ⟨h1,h2⟩:=h.putAct hd hv
 unfold Oper.wp
 rw [hrun]
 exact ht.done hr _ _ _ _ h2 h1
theorem wp_skip (ht:Then X c a r τ next Q) {w':World} {g':Gh U} {D':Nat->Option Nat} (hdst:o.dst=none) (h:Sim X c a.tmps w' τ g' D')
  (hrun:(execOp a.eval o).run P w= .ok .skip w') (hr:r= .done):o.wp P a w next Q:=by
 unfold Oper.wp
 rw [hrun]
 simp only [Oper.upon,hdst,Act.put]
 exact ht.done hr _ _ _ _ rfl h
end
section
variable {U:Uni} {V:Env U} {P:Program} {X:Link V P} {K:bA U} {S:Side U} {c:Ctx} {a:Act} {w:World} {σ:St U} {g:Gh U} {D:Nat->Option Nat}
variable {next:Act->World->Prop} {Q:Exit->Act->World->Prop} {r:MR U} {τ:St U} {fp gp:List Loc} {N:az}
variable {dst:Option Tmp} {ty:TypeId} {pos:String} {after:Array Edge} {gd:Option (Nat×Bool)}
theorem bV {v:Value} {k:IntKind} {n:Int} (h:Rep X w N g v (.int k n)):v= .int k n:=by cases h;rfl
theorem fZ {v:Value} {b:Bool} (h:Rep X w N g v (.bool b)):v= .bool b:=by cases h;rfl
theorem ox {v:Value} {s:ByteArray} (h:Rep X w N g v (.str s)):v= .string s:=by cases h;rfl
theorem Gk {x:Operand} (hd:aW c.nt ⟨dst,.move x,ty,pos,after,gd⟩=true) (h:Sim X c a.tmps w σ g D) (hr:(bh V S ⟨dst,.move x,ty,pos,after,gd⟩).Rel K σ fp r τ gp)
  (ht:Then X c a r τ next Q):(⟨dst,.move x,ty,pos,after,gd⟩:Oper).wp P a w next Q:=by
 obtain ⟨v,fp',hv,hr'⟩:=bv h hr
 exact aX hd ht h (by rfl) hv hr'
theorem FW {x:Operand} (hd:aW c.nt ⟨dst,.assign x,ty,pos,after,gd⟩=true) (h:Sim X c a.tmps w σ g D) (hr:(bh V S ⟨dst,.assign x,ty,pos,after,gd⟩).Rel K σ fp r τ gp)
  (ht:Then X c a r τ next Q):(⟨dst,.assign x,ty,pos,after,gd⟩:Oper).wp P a w next Q:=by
 obtain ⟨v,fp',hv,hr'⟩:=bv h hr
 exact aX hd ht h (by rfl) hv hr'
theorem Gn {x y z:Operand} (hd:aW c.nt ⟨dst,.pick x y z,ty,pos,after,gd⟩=true) (h:Sim X c a.tmps w σ g D) (hr:(bh V S ⟨dst,.pick x y z,ty,pos,after,gd⟩).Rel K σ fp r τ gp)
  (ht:Then X c a r τ next Q):(⟨dst,.pick x y z,ty,pos,after,gd⟩:Oper).wp P a w next Q:=by
 cases x with
 |tmp j=>
  have hj:=h.regs j
  rcases hr with ⟨hb,hr⟩|⟨hb,hr⟩|⟨_,hr⟩
  ·rw [hb] at hj
   obtain ⟨v,fp',hv,hr'⟩:=bv h hr
   have he:a.eval (.tmp j)= .bool true:=fZ hj
   exact aX hd ht h (by simp [execOp,he,asBool]) hv hr'
  ·rw [hb] at hj
   obtain ⟨v,fp',hv,hr'⟩:=bv h hr
   have he:a.eval (.tmp j)= .bool false:=fZ hj
   exact aX hd ht h (by simp [execOp,he,asBool]) hv hr'
  ·exact hr.elim
 |const v=>exact hr.elim
 |func f=>exact hr.elim
 |global g=>exact hr.elim
theorem F7 {x:Operand} {i:Nat} (hd:aW c.nt ⟨dst,.extract x i,ty,pos,after,gd⟩=true) (h:Sim X c a.tmps w σ g D) (hr:(bh V S ⟨dst,.extract x i,ty,pos,after,gd⟩).Rel K σ fp r τ gp)
  (ht:Then X c a r τ next Q):(⟨dst,.extract x i,ty,pos,after,gd⟩:Oper).wp P a w next Q:=by
 obtain ⟨v,fp',hv,hr'⟩:=bv h hr
 split at hr'
 ·rename_i vs
  split at hr'
  ·rename_i p hp
   generalize he:a.eval x=ev at hv
   cases hv with
   |tuple vals _ hl hh=>
    have hi:=hh i p hp
    have hlt:i<vals.size:=by grind
    refine aX hd ht h (v:=vals.getD i undef) ?_ hi hr'
    simp_all [execOp,Instr.extract]
  ·exact hr'.elim
 ·exact hr'.elim
theorem Gf {fn:FuncId} {xs ys:Array Operand} (hd:aW c.nt ⟨dst,.makeFunc (.func fn) xs ys,ty,pos,after,gd⟩=true) (h:Sim X c a.tmps w σ g D)
  (hr:(bh V S ⟨dst,.makeFunc (.func fn) xs ys,ty,pos,after,gd⟩).Rel K σ fp r τ gp)
  (ht:Then X c a r τ next Q):(⟨dst,.makeFunc (.func fn) xs ys,ty,pos,after,gd⟩:Oper).wp P a w next Q:=by
 obtain ⟨vs,fp',hl,hv,hr'⟩:=lc h hr
 obtain ⟨us,fp'',hl',hu,hr''⟩:=lc h hr'
 refine aX hd ht h (v:= .func (.func fn) (xs.map a.eval) (ys.map a.eval)) (by rfl) ?_ hr''
 have e1: ∀ (zs:Array Operand) j,(zs.map a.eval).getD j undef=(zs.toList.map a.eval).getD j undef:=fun zs j=>by
  simp
 exact .func fn vs us _ _ (by grind) (by grind) (fun j p hp=>e1 xs j▸hv j p hp) (fun j p hp=>e1 ys j▸hu j p hp)
theorem Gg {t:TypeId} {x:Operand} (hd:aW c.nt ⟨dst,.makeInterface t x,ty,pos,after,gd⟩=true) (h:Sim X c a.tmps w σ g D)
  (hr:(bh V S ⟨dst,.makeInterface t x,ty,pos,after,gd⟩).Rel K σ fp r τ gp)
  (ht:Then X c a r τ next Q):(⟨dst,.makeInterface t x,ty,pos,after,gd⟩:Oper).wp P a w next Q:=by
 obtain ⟨v,fp',hv,hr'⟩:=bv h hr
 split at hr'
 ·rename_i row aO
  cases hk:ac row.eqk 2 with
  |true=>rw [hk] at hr';exact hr'.elim
  |false=>
  rw [hk] at hr'
  have hT:=X.ty t row aO
  obtain ⟨d,hu,_⟩:=hT.agg
  have hn:=hT.notIf (fun e=>by simp_all) d hu
  refine aX hd ht h (v:= .iface t (a.eval x)) ?_ (.iface t _ _ hv) hr'
  simp_all [execOp,Instr.makeInterface,run_underlying]
 ·exact hr'.elim
theorem Gr {x:Operand} {s t:TypeId} (hd:aW c.nt ⟨dst,.typeAssert x s t true,ty,pos,after,gd⟩=true) (h:Sim X c a.tmps w σ g D)
  (hr:(bh V S ⟨dst,.typeAssert x s t true,ty,pos,after,gd⟩).Rel K σ fp r τ gp)
  (ht:Then X c a r τ next Q):(⟨dst,.typeAssert x s t true,ty,pos,after,gd⟩:Oper).wp P a w next Q:=by
 obtain ⟨v,fp',hv,hr'⟩:=bv h hr
 split at hr'
 ·rename_i t' p row aO
  cases hk:(ac t' t&& !ac row.eqk 2) with
  |false=>rw [hk] at hr';exact hr'.elim
  |true=>
  rw [hk] at hr'
  simp only [aj,Bool.not_eq_true'] at hk
  have ht':t'=t:=by simp_all
  subst ht'
  have hT:=X.ty _ row aO
  obtain ⟨d,hu,_⟩:=hT.agg
  have hn:=hT.notIf (fun e=>by simp_all) d hu
  generalize he:a.eval x=ev at hv
  cases hv with
  |iface _ u _ hu'=>
   refine aX hd ht h (v:= .tuple #[u,.bool true]) ?_ (.tuple _ _ rfl fun j q hq=> ?_) hr'
   ·simp_all [execOp,Instr.typeAssert,run_underlying]
   ·match j,hq with
    |0,hq=>simp_all
    |1,hq=>simp at hq;subst hq;exact .bool true
    |(j+2),hq=>simp at hq
 ·exact hr'.elim
theorem Gl {x:Operand} (hd:aW c.nt ⟨dst,.nilCheck x,ty,pos,after,gd⟩=true) (h:Sim X c a.tmps w σ g D) (hr:(bh V S ⟨dst,.nilCheck x,ty,pos,after,gd⟩).Rel K σ fp r τ gp)
  (ht:Then X c a r τ next Q):(⟨dst,.nilCheck x,ty,pos,after,gd⟩:Oper).wp P a w next Q:=by
 obtain ⟨v,fp',hv,hr'⟩:=bv h hr
 split at hr'
 ·have hv':=hv
  generalize he:a.eval x=ev at hv
  cases hv
  exact aX hd ht h (by simp [execOp,he]) hv' hr'
 ·have hv':=hv
  generalize he:a.eval x=ev at hv
  cases hv
  exact aX hd ht h (by simp [execOp,he]) hv' hr'
 ·have hv':=hv
  generalize he:a.eval x=ev at hv
  cases hv
  exact aX hd ht h (by simp [execOp,he]) hv' hr'
 ·have hv':=hv
  generalize he:a.eval x=ev at hv
  cases hv
  exact aX hd ht h (by simp [execOp,he]) hv' hr'
 ·exact hr'.elim
theorem Gs {op:UnOp} {t:TypeId} {x:Operand} (hd:aW c.nt ⟨dst,.unOp op t x,ty,pos,after,gd⟩=true) (h:Sim X c a.tmps w σ g D) (hr:(bh V S ⟨dst,.unOp op t x,ty,pos,after,gd⟩).Rel K σ fp r τ gp)
  (ht:Then X c a r τ next Q):(⟨dst,.unOp op t x,ty,pos,after,gd⟩:Oper).wp P a w next Q:=by
 obtain ⟨v,fp',hv,hr'⟩:=bv h hr
 unfold un at hr'
 split at hr'
 ·have he:=fZ hv
  exact aX hd ht h (v:= .bool _) (by simp [execOp,Op.unary,he]) (.bool _) hr'
 ·have he:=bV hv
  exact aX hd ht h (v:= .int _ _) (by simp [execOp,Op.unary,Op.intArith,he]) (.int _ _) hr'
 ·have he:=bV hv
  exact aX hd ht h (v:= .int _ _) (by simp [execOp,Op.unary,Op.intBits,he,bJ]) (.int _ _) hr'
 ·exact hr'.elim
theorem F6 {s t:TypeId} {x:Operand} (hd:aW c.nt ⟨dst,.convert s t x,ty,pos,after,gd⟩=true) (h:Sim X c a.tmps w σ g D)
  (hr:(bh V S ⟨dst,.convert s t x,ty,pos,after,gd⟩).Rel K σ fp r τ gp)
  (ht:Then X c a r τ next Q):(⟨dst,.convert s t x,ty,pos,after,gd⟩:Oper).wp P a w next Q:=by
 obtain ⟨v,fp',hv,hr'⟩:=bv h hr
 cases hs':V.ty s with
 |none=>rw [hs'] at hr';exact hr'.elim
 |some srow=>
 have hs: ∃d,P.underlying s=some d:=by obtain ⟨d,hu,_⟩:=(X.ty s srow hs').agg;grind
 rw [hs'] at hr'
 cases hk:V.ikind t with
 |none=>rw [hk] at hr';exact hr'.elim
 |some k=>
  rw [hk] at hr'
  cases v with
  |int k' n=>
   have he:=bV hv
   obtain ⟨d,hu⟩:=hs
   have hk':P.underlying t=some (.int k):=by
    unfold Env.ikind at hk
    split at hk
    ·rename_i row aO;exact (X.ty t row aO).ikind k hk
    grind
   exact aX hd ht h (v:= .int _ _) (by simp_all [execOp,convert,Conv.intToInt,run_underlying]) (.int _ _) hr'
  |_=>exact hr'.elim
theorem Gm {x:Operand} (h:Sim X c a.tmps w σ g D) (hr:(bh V S ⟨dst,.panic x,ty,pos,after,gd⟩).Rel K σ fp r τ gp)
  (ht:Then X c a r τ next Q):(⟨dst,.panic x,ty,pos,after,gd⟩:Oper).wp P a w next Q:=by
 obtain ⟨v,fp',hv,hr'⟩:=bv h hr
 split at hr'
 case h_2=>exact hr'.elim
 rename_i t0 p0
 obtain ⟨h1,h2,_⟩:=hr'
 subst h2
 obtain ⟨t,u,he⟩: ∃t u,a.eval x= .iface t u:=by
  generalize a.eval x=ev at hv
  cases hv<;>grind
 unfold Oper.wp
 have:(execOp a.eval ⟨dst,.panic x,ty,pos,after,gd⟩).run P w= .halt (.panic (.iface t u)) w:=by simp [execOp,Instr.panic,he]
 rw [this]
 exact ht.raise _ h1 w g D _ (he▸hv) h
end
section
variable {U:Uni} {V:Env U} {P:Program} {X:Link V P} {K:bA U} {S:Side U} {c:Ctx} {a:Act} {w:World} {σ:St U} {g:Gh U} {D:Nat->Option Nat}
variable {next:Act->World->Prop} {Q:Exit->Act->World->Prop} {r:MR U} {τ:St U} {fp gp:List Loc} {N:az}
variable {dst:Option Tmp} {ty:TypeId} {pos:String} {after:Array Edge} {gd:Option (Nat×Bool)}
theorem rT {t:TypeId} {k:IntKind} (h:P.underlying t=some (.int k)) {xs:Array Value} {off:Nat} {v:Value} (hx:xs[off]? =some v) (w:World):(part t xs off).run P w= .ok v w:=by
 simp [part,isAgg,run_underlying h,hx]
theorem kZ: ∀ {a0s bs:List (PV U)} {r:Bool},PV.eqvI a0s bs=some r->a0s.length=bs.length/\ ∀ (i:Nat) x y,a0s[i]? =some x->bs[i]? =some y-> ∃k m n,x= .int k m/\y= .int k n:=by
 intro a0s
 induction a0s with
 |nil=>grind [PV.eqvI]
 |cons a a0s ih=>
  intro bs r h
  cases bs with
  |nil=>grind [PV.eqvI]
  |cons b bs=>
   unfold PV.eqvI at h
   split at h<;>grind
theorem yf (d:Nat) (xs ys:Array Value): ∀ (fs:List Field) (a0s bs:List (PV U)) (o:Nat) (r:Bool),PV.eqvI a0s bs=some r->fs.length=a0s.length->
  (∀ (i:Nat) p,a0s[i]? =some p->Rep X w N g (xs.getD (o+i) undef) p/\o+i<xs.size)->(∀ (i:Nat) p,bs[i]? =some p->Rep X w N g (ys.getD (o+i) undef) p/\o+i<ys.size)->
  (∀ (i:Nat) f,fs[i]? =some f->f.name≠ "_" /\f.offset=o+i/\ ∃k,P.underlying f.type=some (.int k))->
  (Op.eqFields (d+1) xs ys fs).run P w= .ok r w:=by
 intro fs
 induction fs with
 |nil=>
  intro a0s bs o r he hl _ _ _
  cases a0s with
  |nil=>cases bs<;>simp_all [PV.eqvI,Op.eqFields]
  |cons=>simp at hl
 |cons f fs ih=>
  intro a0s bs o r he hl hx hy hf
  obtain ⟨hlen,hints⟩:=kZ he
  cases a0s with
  |nil=>simp at hl
  |cons x a0s=>cases bs with
   |nil=>grind
   |cons y bs=>
    obtain ⟨k,m,n,rfl,rfl⟩:=hints 0 x y rfl rfl
    simp only [PV.eqvI,if_true] at he
    split at he
    case h_2=>cases he
    rename_i s hs
    injection he with he;subst he
    obtain ⟨hname,hoff,k',hk'⟩:=hf 0 f rfl
    have hx0:=hx 0 _ rfl
    have hy0:=hy 0 _ rfl
    have ex:xs[o]? =some (.int k m):=by
     have h1:=bV hx0.1;have h2:=hx0.2
     simp only [Nat.add_zero] at h1 h2
     rw [Array.getElem?_eq_getElem h2]
     simpa [ct,h2] using h1
    have ey:ys[o]? =some (.int k n):=by
     have h1:=bV hy0.1;have h2:=hy0.2
     simp only [Nat.add_zero] at h1 h2
     rw [Array.getElem?_eq_getElem h2]
     simpa [ct,h2] using h1
    have hrec:=ih a0s bs (o+1) s hs (by grind) (fun i p hp=>by have:=hx (i+1) p (by grind);grind)
     (fun i p hp=>by have:=hy (i+1) p (by grind);grind)
     (fun i f' hf'=>by have:=hf (i+1) f' (by grind);grind)
    simp only [Op.eqFields,hname,ne_eq,not_false_eq_true,if_true,bu,hoff,Nat.add_zero,rT hk' ex,rT hk' ey,bq,run_equalIn_int w d f.type k k' m n hk']
    grind [b9]
theorem Hh (d:Nat) {t:TypeId} {ms} (hu:P.underlying t=some (.interface ms)) (t':TypeId) (v:Value) (w:World):
  (Op.equalIn (d+1) t (.iface t' v) .nilIface).run P w= .ok false w:=by
 simp only [Op.equalIn,bu,run_underlying hu,bq,b9]
theorem Hi (d:Nat) {t:TypeId} {ms} (hu:P.underlying t=some (.interface ms)) (w:World):(Op.equalIn (d+1) t .nilIface .nilIface).run P w= .ok true w:=by
 simp only [Op.equalIn,bu,run_underlying hu,bq,b9]
theorem Hj {t:TypeId} {ms} (hu:P.underlying t=some (.interface ms)) (t':TypeId) (v:Value) (w:World):
  (Op.equal t (.iface t' v) .nilIface).run P w= .ok false w:=Hh 9999 hu t' v w
theorem Hk {t:TypeId} {ms} (hu:P.underlying t=some (.interface ms)) (w:World):(Op.equal t .nilIface .nilIface).run P w= .ok true w:=Hi 9999 hu w
theorem Bk (t t':TypeId) (v:Value):binOp .eql t (.iface t' v) .nilIface=(do pure (.bool (<-Op.equal t (.iface t' v) .nilIface))):=rfl
theorem Bn (t t':TypeId) (v:Value):binOp .neq t (.iface t' v) .nilIface=(do pure (.bool (!(<-Op.equal t (.iface t' v) .nilIface)))):=rfl
theorem Bm (t:TypeId):binOp .eql t .nilIface .nilIface=(do pure (.bool (<-Op.equal t .nilIface .nilIface))):=rfl
theorem Bp (t:TypeId):binOp .neq t .nilIface .nilIface=(do pure (.bool (!(<-Op.equal t .nilIface .nilIface)))):=rfl
def A0 (o:Own) (A:Option Addr) (n cp:Nat):Prop:=match o with| .none=>True| .full=>n=cp| .nil=>A=none/\n=0/\cp=0| .void=>A=none| .sure=>A≠none
theorem Hp {a b:Addr} {v:Value} {q:Addr} {cb:Array Value} {tb:TypeId} (hq:q.block=a.block) (ha:w.cell? q=some v) (hne:a.block≠b.block) (hb:w.heap[b.block]? =some (.cells cb tb (0,0))):(sameAddr a b).run P w= .ok false w:=by
 unfold World.cell? at ha
 rw [hq] at ha
 split at ha
 case h_2=>cases ha
 rename_i c t fr hc
 have hs:c.size≠0:=by
  intro h0
  split at ha
  ·cases ha
  ·rw [Array.getElem?_eq_none (by omega)] at ha;cases ha
 have h0: ∀x:TypeId×Nat,x=(t,c.size)->x.2≠0:=fun x hx=>by rw [hx];exact hs
 simp [sameAddr,hne,World.frozen?,hc,hb,noView,viewAt,World.shape?,mayBeOne,stringish,hs]
theorem yh {t te:TypeId} {i:TypeInfo} (hu:P.underlying t=some (.pointer te)) (hi:P.info? te=some i) (hz:i.size≠0) (a b:Addr) (r:Bool) (w:World) (h:(sameAddr a b).run P w= .ok r w):(Op.equal t (.pointer (some a)) (.pointer (some b))).run P w= .ok r w:=by
 have h': ∀d:Nat,(Op.equalIn (d+1) t (.pointer (some a)) (.pointer (some b))).run P w= .ok r w:=fun d=>by
  simp [Op.equalIn,run_underlying hu,sizeOf,typeInfo,hi,hz,h]
 exact h' 9999
theorem yg {x y:Operand} {t:TypeId} {vx vy:Value} {p q:PV U} {k:Bool->M U} {cy:Bool} (hp:Rep X w N g vx p) (hq:Rep X w N g vy q)
  (hbx: ∀id b cs,σ.b id=some (.cells cs)->g.μ id=some b-> ∃ca ta,w.heap[b]? =some (.cells ca ta (0,0))) (hin: ∀id id' b,g.μ id=some b->g.μ id'=some b->id=id') (hNb: ∀id b o,g.μ id=some b->N b o) (hcy:cy=true-> ∃v,y= .const v) (hr:(nz V t cy p q k).Rel K σ fp r τ gp):
  ∃b fp',(k b).Rel K σ fp' r τ gp/\(do eqGuard .eql t x y vx vy;binOp .eql t vx vy:Sem Value).run P w= .ok (.bool b) w/\(do eqGuard .neq t x y vx vy;binOp .neq t vx vy:Sem Value).run P w= .ok (.bool (!b)) w:=by
 unfold nz at hr
 split at hr
 ·have e1:=bV hp;have e2:=bV hq;subst e1;subst e2
  split at hr
  ·rename_i hk;subst hk
   exact ⟨_,_,hr,by simp [eqGuard,binOp,Op.intCmp],by simp [eqGuard,binOp,Op.intCmp];rfl⟩
  ·exact hr.elim
 ·have e1:=ox hp;have e2:=ox hq;subst e1;subst e2
  exact ⟨_,_,hr,by simp [eqGuard,binOp,Op.stringOp,beq_toListBytes],by simp [eqGuard,binOp,Op.stringOp,beq_toListBytes]⟩
 ·have e1:=fZ hp;have e2:=fZ hq;subst e1;subst e2
  rename_i a b
  cases hk:ac (V.eqk t) 3 with
  |false=>rw [hk] at hr;exact hr.elim
  |true=>
   rw [hk] at hr
   have hu:P.underlying t=some .bool:=by
    simp [Env.eqk] at hk
    split at hk
    ·rename_i row aO;exact (X.ty t row aO).isBool hk
    omega
   grind [eqGuard_at_bool,run_eql_bool,run_neq_bool]
 ·rename_i a0s bs
  split at hr
  case h_2=>exact hr.elim
  rename_i row aO
  cases hk:ac row.eqk 1&&ac a0s.length row.size with
  |false=>rw [hk] at hr;exact hr.elim
  |true=>
   rw [hk] at hr
   simp at hk
   simp only [cond_true] at hr
   split at hr
   case h_2=>exact hr.elim
   rename_i r0 hr0
   obtain ⟨fs,hu,hst,hgd,hsz,hfs⟩:=(X.ty t row aO).isInts hk.1
   obtain ⟨hlen,_⟩:=kZ hr0
   cases hp with
   |agg xs _ hxl hxs=>cases hq with
    |agg ys _ hyl hys=>
     have hF:P.fieldsOf t=fs:=by simp [Program.fieldsOf,hu]
     have hrun:(Op.equalIn 10000 t (.agg xs) (.agg ys)).run P w= .ok r0 w:=by
      rw [show (10000:Nat)=9998+1+1 from rfl,run_equalIn_struct w (9998+1) t xs ys (by grind) hst,hF]
      exact yf (X:=X) (g:=g) (N:=N) 9998 xs ys fs.toList a0s bs 0 r0 hr0 (by grind) (fun i p hi=>by
       grind) (fun i p hi=>by
       grind) (fun i f hf=>by
       grind)
     grind [bu,bq,run_eql_struct,run_eqGuard_agg,run_neq_struct]
 ·cases hk:ac (V.eqk t) 2 with
  |false=>rw [hk] at hr;exact hr.elim
  |true=>
   rw [hk] at hr
   obtain ⟨ms,hu⟩: ∃ms,P.underlying t=some (.interface ms):=by
    simp [Env.eqk] at hk
    split at hk
    ·rename_i row aO;exact (X.ty t row aO).isIf hk
    omega
   cases hp;cases hq<;>grind [eqGuard_at_iface,Bk,bu,b9,bq,Hj,Bn]
 ·cases hk:ac (V.eqk t) 2&&cy with
  |false=>rw [hk] at hr;exact hr.elim
  |true=>
   rw [hk] at hr
   simp at hk
   obtain ⟨ms,hu⟩: ∃ms,P.underlying t=some (.interface ms):=by
    simp [Env.eqk] at hk
    split at hk
    ·rename_i row aO;exact (X.ty t row aO).isIf hk.1
    omega
   obtain ⟨v,rfl⟩:=hcy hk.2
   cases hp;cases hq<;>grind [eqGuard_nil_constR,Bm,bu,b9,bq,Hk,Bp]
 ·rename_i p0 ps off i2 a2
  cases hk:ac (V.eqk t) 5 with
  |false=>rw [hk] at hr;exact hr.elim
  |true=>
   rw [hk] at hr
   obtain ⟨te,inf,hu,hte,hsz⟩: ∃te i,P.underlying t=some (.pointer te)/\P.info? te=some i/\i.size≠0:=by
    simp [Env.eqk] at hk
    split at hk
    ·rename_i row aO;exact (X.ty t row aO).isPtr hk
    omega
   simp only [cond_true,M.Rel] at hr
   split at hr
   case h_2=>exact hr.elim
   rename_i cs2 h2
   cases hp with
   |pptr _ _ a val e1 e2=>cases hq with
    |ptr _ _ b2 hb2=>
     obtain ⟨cb,tb,hc2⟩:=hbx _ _ _ h2 hb2
     obtain ⟨f1,f2⟩:=e1 0 p0 rfl
     have hne:a.block≠b2:=fun e=>f2 (hNb _ _ _ (e▸hb2))
     have hs:(sameAddr (a.add off) ⟨b2,a2,none⟩).run P w= .ok false w:=Hp (q:=a.add 0) (by rw [Addr.add_block,Addr.add_block]) f1 (by rw [Addr.add_block];exact hne) hc2
     have heq:=yh hu hte hsz _ _ _ w hs
     refine ⟨_,_,hr, ?_, ?_⟩
     all_goals simp [binOp,eqGuard,heq]
 ·rename_i i1 a1 i2 a2
  cases hk:ac (V.eqk t) 5 with
  |false=>rw [hk] at hr;exact hr.elim
  |true=>
   rw [hk] at hr
   obtain ⟨te,inf,hu,hte,hsz⟩: ∃te i,P.underlying t=some (.pointer te)/\P.info? te=some i/\i.size≠0:=by
    simp [Env.eqk] at hk
    split at hk
    ·rename_i row aO;exact (X.ty t row aO).isPtr hk
    omega
   simp only [cond_true,M.Rel] at hr
   split at hr
   case h_2=>exact hr.elim
   rename_i cs1 h1
   simp only [M.Rel] at hr
   split at hr
   case h_2=>exact hr.elim
   rename_i cs2 h2
   cases hp with
   |ptr _ _ b1 hb1=>cases hq with
    |ptr _ _ b2 hb2=>
     obtain ⟨ca,ta,hc1⟩:=hbx _ _ _ h1 hb1
     obtain ⟨cb,tb,hc2⟩:=hbx _ _ _ h2 hb2
     have hs:(sameAddr ⟨b1,a1,none⟩ ⟨b2,a2,none⟩).run P w= .ok (ac i1 i2&&ac a1 a2) w:=by
      by_cases e:(⟨b1,a1,none⟩:Addr)=⟨b2,a2,none⟩
      ·injection e with e1 e2
       subst e1;subst e2
       have:=hin _ _ _ hb1 hb2
       subst this
       rw [run_sameAddr_same];simp
      ·rw [run_sameAddr_other w e hc1 hc2]
       congr 1
       symm
       rw [Bool.and_eq_false_iff]
       by_cases e1:i1=i2
       ·subst e1
        rw [hb1] at hb2
        injection hb2 with hb2
        subst hb2
        right
        rw [<-Bool.not_eq_true,Nat.beq_eq]
        rintro rfl
        exact e rfl
       ·left
        rw [<-Bool.not_eq_true,Nat.beq_eq]
        exact e1
     have heq:=yh hu hte hsz _ _ _ w hs
     refine ⟨_,_,hr, ?_, ?_⟩
     all_goals simp [binOp,eqGuard,heq]
 ·rename_i e1 l1 o1 e2 l2
  obtain ⟨A,n,cp,rfl,hA⟩: ∃A n cp,vx= .slice A n cp/\A0 o1 A n cp:=by
   clear hr
   cases hp with
   |sl A n cp _ _ _ val hl hc ho _ _=>exact ⟨A,n,cp,rfl,ho⟩
  have hvy:vy= .slice none 0 0:=by
   cases hq<;>grind
  subst hvy
  have key: ∀ (b:Bool) (e:U.E),V.ety t=some e->A.isNone=b->(do eqGuard .eql t x y (.slice A n cp) (.slice none 0 0);binOp .eql t (.slice A n cp) (.slice none 0 0):Sem Value).run P w= .ok (.bool b) w/\
    (do eqGuard .neq t x y (.slice A n cp) (.slice none 0 0);binOp .neq t (.slice A n cp) (.slice none 0 0):Sem Value).run P w= .ok (.bool (!b)) w:=by
   intro b e he hb
   have hu:P.underlying t=some (.slice (X.etid e)):=by
    unfold Env.ety at he
    split at he
    ·rename_i row aO;exact (X.ty t row aO).elem e he
    grind
   have heq:(Op.equal t (.slice A n cp) (.slice none 0 0)).run P w= .ok b w:=by
    subst hb
    have e3: ∀d,(Op.equalIn (d+1) t (.slice A n cp) (.slice none 0 0)).run P w= .ok A.isNone w:=by
     intro d
     simp only [Op.equalIn,bu,run_underlying hu,bq]
     cases A<;>rfl
    exact e3 9999
   simp_all [binOp,eqGuard]
  split at hr
  ·rename_i e he
   obtain ⟨rfl,_,_⟩:=hA
   grind
  ·rename_i e he
   have hA:A=none:=hA
   grind
  ·rename_i e he
   have hA:A≠none:=hA
   obtain ⟨h1,h2⟩:=key false e he (by cases A<;>simp_all)
   grind
  ·exact hr.elim
 ·exact hr.elim
theorem d7 {x y:Value} {p q:PV U} {k:IntKind->Int->Int->M U} (hp:Rep X w N g x p) (hq:Rep X w N g y q) (hr:(ints p q k).Rel K σ fp r τ gp):
  ∃kd m n,x= .int kd m/\y= .int kd n/\(k kd m n).Rel K σ fp r τ gp:=by
 unfold ints at hr
 split at hr
 ·split at hr
  ·grind [bV]
  ·exact hr.elim
 ·exact hr.elim
theorem dJ {p:Prop} [Decidable p] {k:Unit->M U} (hr:(M.ask (cm p) k).Rel K σ fp r τ gp):p/\(k ()).Rel K σ fp r τ gp:=by
 obtain ⟨x,hx,hr⟩:=hr
 grind [cm]
theorem u6 (y:Operand):(match y with| .const _=>true|_=>false)=true-> ∃v,y= .const v:=by
 grind
theorem FX {op:BinOp} {t yt:TypeId} {x y:Operand} (hd:aW c.nt ⟨dst,.binOp op t x y yt,ty,pos,after,gd⟩=true) (h:Sim X c a.tmps w σ g D)
  (hr:(bh V S ⟨dst,.binOp op t x y yt,ty,pos,after,gd⟩).Rel K σ fp r τ gp)
  (ht:Then X c a r τ next Q):(⟨dst,.binOp op t x y yt,ty,pos,after,gd⟩:Oper).wp P a w next Q:=by
 obtain ⟨p,fp1,hp,hr1⟩:=bv h hr
 obtain ⟨q,fp2,hq,hr2⟩:=bv h hr1
 have main: ∀ {v:Value} {pv:PV U} {fp3},(do eqGuard op t x y (a.eval x) (a.eval y);binOp op t (a.eval x) (a.eval y):Sem Value).run P w= .ok v w->Rep X w (c.N g D) g v pv->(put dst pv).Rel K σ fp3 r τ gp->
   (⟨dst,.binOp op t x y yt,ty,pos,after,gd⟩:Oper).wp P a w next Q:=fun h1 h2 h3=>
  aX hd ht h (by grind [bu,execOp,bq,b9]) h2 h3
 have quiet: ∀ {v:Value} {pv:PV U} {fp3},(eqGuard op t x y (a.eval x) (a.eval y)=pure ())->(binOp op t (a.eval x) (a.eval y):Sem Value).run P w= .ok v w->Rep X w (c.N g D) g v pv->(put dst pv).Rel K σ fp3 r τ gp->
   (⟨dst,.binOp op t x y yt,ty,pos,after,gd⟩:Oper).wp P a w next Q:=fun h0 h1 h2 h3=>
  main (by grind) h2 h3
 have hbx: ∀id b cs,σ.b id=some (.cells cs)->g.μ id=some b-> ∃ca ta,w.heap[b]? =some (.cells ca ta (0,0)):=fun id b cs hb hm=>by
  obtain ⟨k,hk,cur,e,hh,_⟩:=h.boxes id _ hb
  rw [hm] at hk;injection hk with hk;subst hk
  exact ⟨cur,e,hh⟩
 cases op
 case eql=>
  simp only [kH] at hr2
  obtain ⟨b,fp3,hk,he,_⟩:=yg (x:=x) (y:=y) hp hq hbx h.inj (fun id b o hb=> .inr (.inl ⟨id,hb⟩)) (u6 y) hr2
  exact main he (.bool b) hk
 case neq=>
  simp only [kH] at hr2
  obtain ⟨b,fp3,hk,_,he⟩:=yg (x:=x) (y:=y) hp hq hbx h.inj (fun id b o hb=> .inr (.inl ⟨id,hb⟩)) (u6 y) hr2
  exact main he (.bool _) hk
 case shl=>
  simp only [kH] at hr2
  split at hr2
  ·obtain ⟨h0,hr3⟩:=dJ hr2
   have e1:=bV hp;have e2:=bV hq
   refine quiet rfl (v:= .int _ _) ?_ (.int _ _) hr3
   rw [e1,e2,binOp_shl]
   simp [Op.shift,Int.not_lt.2 h0]
  ·exact hr2.elim
 case shr=>
  simp only [kH] at hr2
  split at hr2
  ·obtain ⟨h0,hr3⟩:=dJ hr2
   have e1:=bV hp;have e2:=bV hq
   refine quiet rfl (v:= .int _ _) ?_ (.int _ _) hr3
   rw [e1,e2,binOp_shr]
   simp [Op.shift,Int.not_lt.2 h0]
  ·exact hr2.elim
 case quo=>
  obtain ⟨kd,m,n,e1,e2,hr3⟩:=d7 hp hq hr2
  obtain ⟨h0,hr4⟩:=dJ hr3
  refine quiet rfl (v:= .int _ _) ?_ (.int _ _) hr4
  simp_all [binOp_quo,Op.intDiv]
 case rem=>
  obtain ⟨kd,m,n,e1,e2,hr3⟩:=d7 hp hq hr2
  obtain ⟨h0,hr4⟩:=dJ hr3
  refine quiet rfl (v:= .int _ _) ?_ (.int _ _) hr4
  simp_all [binOp_rem,Op.intDiv]
 case add=>
  obtain ⟨kd,m,n,e1,e2,hr3⟩:=d7 hp hq hr2
  exact quiet rfl (by rw [e1,e2,binOp_add];rfl) (.int _ _) hr3
 case sub=>
  obtain ⟨kd,m,n,e1,e2,hr3⟩:=d7 hp hq hr2
  exact quiet rfl (by rw [e1,e2,binOp_sub];rfl) (.int _ _) hr3
 case mul=>
  obtain ⟨kd,m,n,e1,e2,hr3⟩:=d7 hp hq hr2
  exact quiet rfl (by rw [e1,e2,binOp_mul];rfl) (.int _ _) hr3
 case and=>
  obtain ⟨kd,m,n,e1,e2,hr3⟩:=d7 hp hq hr2
  exact quiet rfl (by rw [e1,e2,binOp_and];rfl) (.int _ _) hr3
 case or=>
  obtain ⟨kd,m,n,e1,e2,hr3⟩:=d7 hp hq hr2
  exact quiet rfl (by rw [e1,e2,binOp_or];rfl) (.int _ _) hr3
 case xor=>
  obtain ⟨kd,m,n,e1,e2,hr3⟩:=d7 hp hq hr2
  exact quiet rfl (by rw [e1,e2,binOp_xor];rfl) (.int _ _) hr3
 case andNot=>
  obtain ⟨kd,m,n,e1,e2,hr3⟩:=d7 hp hq hr2
  exact quiet rfl (by rw [e1,e2,binOp_andNot];rfl) (.int _ _) hr3
 case lss=>
  obtain ⟨kd,m,n,e1,e2,hr3⟩:=d7 hp hq hr2
  exact quiet rfl (by simp_all [binOp_lss]) (.bool _) hr3
 case leq=>
  obtain ⟨kd,m,n,e1,e2,hr3⟩:=d7 hp hq hr2
  exact quiet rfl (by simp_all [binOp_leq]) (.bool _) hr3
 case gtr=>
  obtain ⟨kd,m,n,e1,e2,hr3⟩:=d7 hp hq hr2
  exact quiet rfl (by simp_all [binOp_gtr]) (.bool _) hr3
 case geq=>
  obtain ⟨kd,m,n,e1,e2,hr3⟩:=d7 hp hq hr2
  exact quiet rfl (by simp_all [binOp_geq]) (.bool _) hr3
end
section
variable {U:Uni} {V:Env U} {P:Program} {X:Link V P} {K:bA U} {S:Side U} {c:Ctx} {a:Act} {w:World} {σ:St U} {g:Gh U} {D:Nat->Option Nat}
variable {next:Act->World->Prop} {Q:Exit->Act->World->Prop} {r:MR U} {τ:St U} {fp gp:List Loc} {N:az}
variable {dst:Option Tmp} {ty:TypeId} {pos:String} {after:Array Edge} {gd:Option (Nat×Bool)}
def At (X:Link V P) (w:World) (N:az) (g:Gh U) (a:Addr) (cs:List (PV U)):Prop:=
 ∀ (k:Nat) p,cs[k]? =some p-> ∃v,w.cell? (a.add k)=some v/\Rep X w N g v p
theorem lY {t:TypeId} {r:Ty U} (hT:TyOK P X.etid X.etid t r) (w:World):(isAgg t).run P w= .ok r.agg w:=by
 obtain ⟨d,hu,hd⟩:=hT.agg
 simp only [isAgg,bu,run_underlying hu,bq]
 rw [<-hd]
 cases d<;>rfl
theorem rU {t:TypeId} {r:Ty U} (hT:TyOK P X.etid X.etid t r) (w:World):(sizeOf t).run P w= .ok r.size w:=by
 obtain ⟨i,z,hi,hs,_⟩:=hT.info
 simp_all [sizeOf,typeInfo]
theorem rE {v:Value} {p:PV U} (h:Rep X w N g v p) (hc:p.cs.all PV.isCell=true):v.cells.size=p.cs.length/\(∀ (j:Nat) q,p.cs[j]? =some q->Rep X w N g (v.cells.getD j undef) q):=by
 have main: ∀ (v:Value) (p:PV U),Rep X w N g v p->p.cs=[p]->v.cells= #[v]->v.cells.size=p.cs.length/\(∀ (j:Nat) q,p.cs[j]? =some q->Rep X w N g (v.cells.getD j undef) q):=by
  intro v p h e1 e2
  rw [e1,e2]
  refine ⟨rfl,fun j q hq=> ?_⟩
  cases j<;>simp_all
 cases h with
 |undef v=>simp [PV.cs,PV.isCell] at hc
 |agg vs cs hl hh=>exact ⟨hl,hh⟩
 |tuple vs cs hl hh=>simp [PV.cs,PV.isCell] at hc
 |own i v val ver e val' hk hv he hs=>
  obtain ⟨A,n,cp,rfl⟩:=hs
  exact main _ _ (.own i v _ ver e val' hk hv he ⟨A,n,cp,rfl⟩) rfl rfl
 |optr i v j off val ver e val' hk hv he hs=>
  obtain ⟨A,rfl⟩:=hs
  exact main _ _ (.optr i v j off _ ver e val' hk hv he ⟨A,rfl⟩) rfl rfl
 |int k n=>exact main _ _ (.int k n) rfl rfl
 |bool b=>exact main _ _ (.bool b) rfl rfl
 |str s=>exact main _ _ (.str s) rfl rfl
 |sl A n c e l o val h1 h2 h3 h4 h5=>exact main _ _ (.sl A n c e l o val h1 h2 h3 h4 h5) rfl rfl
 |ptr id off b hb=>exact main _ _ (.ptr id off b hb) rfl rfl
 |aptr id n b hb hn=>exact main _ _ (.aptr id n b hb hn) rfl rfl
 |mp id b hb=>exact main _ _ (.mp id b hb) rfl rfl
 |eptr e x off a val h1 h2=>exact main _ _ (.eptr e x off a val h1 h2) rfl rfl
 |any v h=>exact main _ _ (.any v h) rfl (by cases v<;>first|rfl|cases h)
 |pptr cs off a val h1 h2=>exact main _ _ (.pptr cs off a val h1 h2) rfl rfl
 |psl A n c m cs o val hl hc' ho h1 h2=>exact main _ _ (.psl A n c m cs o val hl hc' ho h1 h2) rfl rfl
 |func f a0s bs vs us ha hb h1 h2=>exact main _ _ (.func f a0s bs vs us ha hb h1 h2) rfl rfl
 |iface t v p h=>exact main _ _ (.iface t v p h) rfl rfl
 |nilIface=>exact main _ _ .nilIface rfl rfl
 |nilPtr=>exact main _ _ .nilPtr rfl rfl
 |nilFunc=>exact main _ _ .nilFunc rfl rfl
theorem rF {v:Value} {p:PV U} (h:Rep X w N g v p) (hc:p.isCell=true):v.oneCell'=true:=by
 cases h with
 |undef v=>simp [PV.isCell] at hc
 |agg=>simp [PV.isCell] at hc
 |tuple=>simp [PV.isCell] at hc
 |own i v val ver e val' hk hv he hs=>obtain ⟨A,n,cp,rfl⟩:=hs;rfl
 |optr i v j off val ver e val' hk hv he hs=>obtain ⟨A,rfl⟩:=hs;rfl
 |any v h=>exact h
 |_=>rfl
theorem Ho {t:TypeId} {cs:List (PV U)} {off:Nat} {x:PV U} {b:Addr} (hc:g_ V t cs off=some x) (h:At X w N g b cs):
  ∃u,(loadVar t (b.add off)).run P w= .ok u w/\Rep X w N g u x:=by
 unfold g_ at hc
 split at hc
 case h_2=>cases hc
 rename_i row aO
 have hT:=X.ty t row aO
 cases hag:row.agg with
 |true=>
  rw [hag] at hc
  simp only [cond_true] at hc
  cases hle:a7 (off+row.size) cs.length with
  |false=>grind
  |true=>
   rw [hle] at hc
   simp only [cond_true,Option.some.injEq] at hc
   subst hc
   have hle':off+row.size<=cs.length:=by simp_all
   have hcell: ∀j,j<row.size-> ∃v p,cs[off+j]? =some p/\w.cell? ((b.add off).add j)=some v/\Rep X w N g v p:=by
    intro j hj
    have hlt:off+j<cs.length:=by omega
    obtain ⟨v,hv,hr⟩:=h (off+j) _ (bP hlt)
    grind [Addr.add_add]
   have hrun:=run_loadCells (P:=P) w (b.add off) row.size (fun j=>(w.cell? ((b.add off).add j)).getD undef) (fun j hj=>by
    grind)
   refine ⟨.agg ((List.range row.size).map fun j=>(w.cell? ((b.add off).add j)).getD undef).toArray, ?_, ?_⟩
   ·simp only [loadVar,bu,lY hT,hag,bq,if_true,rU hT,hrun,b9]
   ·refine .agg _ _ (by grind) fun j p hp=> ?_
    have hj:j<row.size:=by
     grind
    obtain ⟨v,q,hq,hv,hr⟩:=hcell j hj
    simp_all
 |false=>
  rw [hag] at hc
  simp only [cond_false] at hc
  obtain ⟨v,hv,hr⟩:=h off x hc
  exact ⟨v,by simp [loadVar,lY hT,hag,hv],hr⟩
theorem tI {t:Array Value} {k:Nat} {cs:List (PV U)} (h:BoxOK X w N g t k (.cells cs)):At X w N g ⟨k,0,none⟩ cs:=by
 obtain ⟨cur,e,h1,h2,h3⟩:=h
 intro j p hp
 have hlt:j<cur.size:=by rw [h2.1];grind
 refine ⟨cur.getD j undef, ?_,h3 j p hp⟩
 simp_all [Addr.add_lit',World.cell?]
theorem ws {e:U.E} {l:List (U.El e)} {val:Value} {u:Use} {Do:Option Nat} (h:ObOK X w N g e l val u Do) {j:Nat} {x:U.El e} (hx:l[j]? =some x) (hne:V.cells e x≠[]):
  ∃b n cp,val= .slice (some b) n cp/\At X w N g (b.add (j*X.esize e)) (V.cells e x):=by
 obtain ⟨A,n,cp,hv,_,_,h1,_⟩:=h.val
 cases hcs:V.cells e x with
 |nil=>grind
 |cons p0 rest=>
  obtain ⟨b,v,hA,_⟩:=h1 j x hx 0 p0 (by grind)
  subst hA
  refine ⟨b,n,cp,hv,fun k p hp=> ?_⟩
  grind [Addr.add_add]
theorem mM (X:Link V P) {e:U.E} (x:U.El e):V.cells e x≠[]:=by
 intro h
 have h1:=X.len e x
 have h2:=X.epos e
 grind
theorem gT {i v:Nat} {k:Ob U->M U} (hr:(fH i v k).Rel K σ fp r τ gp): ∃ob fp',σ.o i=some ob/\ob.ver=v/\(k ob).Rel K σ fp' r τ gp:=by
 unfold fH at hr
 simp only [M.Rel] at hr
 split at hr
 ·rename_i ob hob
  cases hb:ac ob.ver v with
  |true=>rw [hb] at hr;exact ⟨ob,_,hob,by simp_all,hr⟩
  |false=>rw [hb] at hr;exact hr.elim
 ·exact hr.elim
theorem jr {α:Type} {l:List α} {i:Int} {x:α} (h:aM l i=some x):0<=i/\l[i.toNat]? =some x:=by
 grind [aM]
theorem Bh: ∀ {cs:List (PV U)} {k:IntKind} {l:List Int},kf cs=some (k,l)-> ∀ (i:Nat) n,l[i]? =some n->cs[i]? =some (.int k n):=by
 intro cs
 induction cs with
 |nil=>grind [kf]
 |cons p cs ih=>
  intro k l h i n hn
  unfold kf at h
  grind
theorem IS {b:Option (Box U)} {n:Nat} {cs:List (PV U)} (h:gS n b=some cs): ∃all,b=some (.cells all)/\n<=all.length/\cs=all.drop n:=by
 unfold gS at h
 split at h
 ·rename_i all
  cases hc:a7 n all.length<;>simp_all
 simp_all
theorem BT {t:TypeId} {all:List (PV U)} {n:Nat} (h:n<=all.length):g_ V t (all.drop n) 0=g_ V t all n:=by
 grind [g_,Nat.ble_eq_true_of_le,eI]
theorem vv (h:Sim X c a.tmps w σ g D) {t:TypeId} {p:PV U} {u:Value} {k:PV U->M U} (hp:Rep X w (c.N g D) g u p) (hr:(nT V t p k).Rel K σ fp r τ gp):
  ∃x fp' v,(k x).Rel K σ fp' r τ gp/\(Instr.loadAt t u).run P w= .ok v w/\Rep X w (c.N g D) g v x:=by
 have fin: ∀ {cs:List (PV U)} {off:Nat} {b:Addr} {fp':List Loc},(fN V t cs off k).Rel K σ fp' r τ gp->At X w (c.N g D) g b cs->u= .pointer (some (b.add off))->
   ∃x fp' v,(k x).Rel K σ fp' r τ gp/\(Instr.loadAt t u).run P w= .ok v w/\Rep X w (c.N g D) g v x:=by
  intro cs off b fp' hc hat hu
  unfold fN at hc
  split at hc
  ·grind [Ho,Instr.loadAt,Instr.sureAddr]
  ·exact hc.elim
 unfold nT at hr
 split at hr
 ·rename_i id off
  simp only [M.Rel] at hr
  split at hr
  ·rename_i cs hcs
   obtain ⟨all,hall,hle,rfl⟩:=IS hcs
   obtain ⟨kb,hkb,hbox⟩:=h.boxes _ _ hall
   cases hp with
   |ptr _ _ b hb=>
    rw [hb] at hkb;cases hkb
    unfold fN at hr
    rw [BT hle] at hr
    exact fin (cs:=all) (off:=off) hr (tI hbox) (by rw [Addr.add_lit',b8])
  ·exact hr.elim
 ·rename_i e x off
  cases hp with
  |eptr _ _ _ b val h1 h2=>
   exact fin hr (fun k p hp=>⟨val k,(h1 k p hp).1,h2 k p hp⟩) rfl
 ·rename_i cs off
  cases hp with
  |pptr _ _ b val h1 h2=>
   exact fin hr (fun k p hp=>⟨val k,(h1 k p hp).1,h2 k p hp⟩) rfl
 ·rename_i i v j off
  obtain ⟨ob,fp',hob,hver,hr2⟩:=gT hr
  obtain ⟨x,hx,hr3⟩:=hr2
  obtain ⟨h0,hx'⟩:=jr hx
  obtain ⟨val,hkap,hOb⟩:=h.objs i ob hob
  cases hp with
  |optr _ _ _ _ _ ver e val' hk hv he hs=>
   rw [hkap] at hk
   injection hk with hk
   injection hk with e1 hk
   injection hk with e2 e3
   subst e1;subst e2;subst e3
   obtain ⟨b,n,cp,hval,rfl⟩:=he hver.symm
   obtain ⟨b',n',cp',hval',hat⟩:=ws hOb hx' (mM X x)
   grind [Addr.add_add]
 ·rename_i id n
  simp only [M.Rel] at hr
  split at hr
  ·rename_i cs hcs
   obtain ⟨kb,hkb,hbox⟩:=h.boxes _ _ hcs
   split at hr
   ·rename_i kd l row hl aO
    cases hag:row.agg with
    |true=>rw [hag] at hr;exact hr.elim
    |false=>
     rw [hag] at hr
     obtain ⟨m,hm,hr2⟩:=hr
     obtain ⟨h0,hm'⟩:=jr hm
     have hcell:=Bh hl _ _ hm'
     cases hp with
     |aptr _ _ b hb hn=>
      rw [hb] at hkb;cases hkb
      obtain ⟨v,hv,hrep⟩:=tI hbox _ _ hcell
      rw [Addr.add_lit',b8] at hv
      refine ⟨.int kd m,_,v,hr2, ?_,hrep⟩
      simp [Instr.loadAt,Instr.sureAddr,loadVar,lY (X.ty t row aO),hag,hv]
   ·exact hr.elim
  ·exact hr.elim
 ·exact hr.elim
theorem Gc {t:TypeId} {x:Operand} (hd:aW c.nt ⟨dst,.load t x,ty,pos,after,gd⟩=true) (h:Sim X c a.tmps w σ g D) (hr:(bh V S ⟨dst,.load t x,ty,pos,after,gd⟩).Rel K σ fp r τ gp)
  (ht:Then X c a r τ next Q):(⟨dst,.load t x,ty,pos,after,gd⟩:Oper).wp P a w next Q:=by
 obtain ⟨p,fp',hp,hr'⟩:=bv h hr
 obtain ⟨x',fp'',v,hr2,hrun,hrep⟩:=vv h hp hr'
 exact aX hd ht h (by simp [execOp,hrun]) hrep hr2
end
section
variable {U:Uni} {V:Env U} {P:Program} {X:Link V P} {K:bA U} {S:Side U} {c:Ctx} {tm:Array Value} {w:World} {σ:St U} {g:Gh U} {D:Nat->Option Nat}
variable {r:MR U} {τ:St U} {fp gp:List Loc} {N:az}
theorem Rep.less {v:Value} {p q:PV U} (h:Rep X w N g v p) (hl:p.less q):Rep X w N g v q:=by
 rcases hl with rfl|⟨rfl,hc⟩|⟨e,l,o,rfl,rfl⟩
 ·exact h
 ·exact .any v (rF h hc)
 ·cases h with
  |sl A n cp _ _ _ val h1 h2 h3 h4 h5=>exact .sl A n cp e l .none val h1 h2 trivial h4 h5
theorem ObOK.rep {e:U.E} {l:List (U.El e)} {val:Value} {u:Use} (h:ObOK X w N g e l val u none):Rep X w N g val (.sl e l .none):=by
 obtain ⟨A,n,cp,rfl,hl,hc,h1,_⟩:=h.val
 refine .sl A n cp e l .none (fun j k=>match A with|some a=>(w.cell? (a.add (j*X.esize e+k))).getD undef|none=>undef) hl hc trivial (fun j x hx k p hp=> ?_) (fun j x hx k p hp=> ?_)
 ·obtain ⟨a,v,rfl,hv,hr,hn⟩:=h1 j x hx k p hp
  exact ⟨a,rfl,by simp [hv],hn rfl⟩
 ·obtain ⟨a,v,rfl,hv,hr,hn⟩:=h1 j x hx k p hp
  simp [hv];exact hr
structure Same (σ σ':St U):Prop where
 r: ∀n,σ'.r n=σ.r n
 b: ∀n,σ'.b n=σ.b n
 o: ∀n,σ'.o n=σ.o n
theorem Same.refl (σ:St U):Same σ σ:=⟨fun _=>rfl,fun _=>rfl,fun _=>rfl⟩
theorem Same.trans {σ σ' σ'':St U} (h:Same σ σ') (h':Same σ' σ''):Same σ σ'':=
 ⟨fun n=>(h'.r n).trans (h.r n),fun n=>(h'.b n).trans (h.b n),fun n=>(h'.o n).trans (h.o n)⟩
structure Frozen (X:Link V P) (c:Ctx) (tm:Array Value) (w:World) (g:Gh U) (σ:St U) (D:Nat->Option Nat) (σ':St U) (D':Nat->Option Nat):Prop where
 same:Same σ σ'
 sim:Sim X c tm w σ' g D'
 D: ∀i b,D' i=some b->D i=some b
theorem Frozen.rep {σ':St U} {D':Nat->Option Nat} (h:Frozen X c tm w g σ D σ' D') {v:Value} {p:PV U} (hr:Rep X w (c.N g D) g v p):Rep X w (c.N g D') g v p:=
 hr.mono X (fun _ _ _ _=>rfl) (fun b o _ hn=>by
  rcases hn with hn|hn|⟨i,hi⟩
  ·exact .inl hn
  ·exact .inr (.inl hn)
  ·exact .inr (.inr ⟨i,h.D i b hi⟩)) (Gh.le.refl g)
theorem Frozen.refl (h:Sim X c tm w σ g D):Frozen X c tm w g σ D σ D:=⟨.refl σ,h,fun _ _ h=>h⟩
theorem Frozen.trans {σ' σ'':St U} {D' D'':Nat->Option Nat} (h:Frozen X c tm w g σ D σ' D') (h':Frozen X c tm w g σ' D' σ'' D''):Frozen X c tm w g σ D σ'' D'':=
 ⟨h.same.trans h'.same,h'.sim,fun i b hb=>h.D i b (h'.D i b hb)⟩
mutual
def PV.noOwn:PV U->Bool
 | .own .. =>false
 | .agg cs=>PV.noOwnL cs
 | .tuple cs=>PV.noOwnL cs
 | .func _ a b=>PV.noOwnL a&&PV.noOwnL b
 | .iface _ v=>PV.noOwn v
 |_=>true
def PV.noOwnL:List (PV U)->Bool
 |[]=>true
 |v::r=>PV.noOwn v&&PV.noOwnL r
end
mutual
theorem gC: ∀ (p:PV U) {σ:St U} {D:Nat->Option Nat} {v:Value} {k:PV U->M U} {fp:List Loc},Sim X c tm w σ g D->Rep X w (c.N g D) g v p->(frz p k).Rel K σ fp r τ gp->
  ∃q σ' D' fp',(k q).Rel K σ' fp' r τ gp/\Frozen X c tm w g σ D σ' D'/\Rep X w (c.N g D') g v q/\q.noOwn=true
 | .own i ver,σ,D,v,k,fp,h,hv,hr=>by
  unfold frz at hr
  obtain ⟨ob,fp',hob,hver,hr2⟩:=gT hr
  have hs:=h.frz (i:=i)
  have hF:Frozen X c tm w g σ D (σ.setU i .read) (fun j=>if j=i then none else D j):=⟨⟨fun _=>rfl,fun _=>rfl,fun _=>rfl⟩,hs,fun j b hb=>by
   split at hb
   ·cases hb
   ·exact hb⟩
  obtain ⟨val,hk,hO⟩:=hs.objs i ob hob
  rw [if_pos rfl] at hO
  refine ⟨_,_,_,_,hr2,hF, ?_,rfl⟩
  cases hv with
  |own _ _ _ ver' e val' hk' hle he _=>
   rw [hk] at hk'
   injection hk' with e1
   injection e1 with e1 e2
   injection e2 with e2 e3
   subst e2;subst e3;subst e1
   rw [he hver.symm]
   exact hO.rep
 | .agg cs,σ,D,v,k,fp,h,hv,hr=>by
  unfold frz at hr
  cases hv with
  |agg vs _ hl hh=>
   obtain ⟨qs,σ',D',fp',hk,hF,hlen,hq,hn⟩:=gA cs h (fun j=>vs.getD j undef) hh hr
   exact ⟨_,_,_,_,hk,hF,.agg vs qs (hl.trans hlen.symm) hq,by simp [PV.noOwn,hn]⟩
 | .tuple cs,σ,D,v,k,fp,h,hv,hr=>by
  unfold frz at hr
  cases hv with
  |tuple vs _ hl hh=>
   obtain ⟨qs,σ',D',fp',hk,hF,hlen,hq,hn⟩:=gA cs h (fun j=>vs.getD j undef) hh hr
   exact ⟨_,_,_,_,hk,hF,.tuple vs qs (hl.trans hlen.symm) hq,by simp [PV.noOwn,hn]⟩
 | .func f a b,σ,D,v,k,fp,h,hv,hr=>by
  unfold frz at hr
  cases hv with
  |func _ _ _ vs us ha hb h1 h2=>
   obtain ⟨qs,σ',D',fp',hk,hF,hlen,hq,hn⟩:=gA a h (fun j=>vs.getD j undef) h1 hr
   obtain ⟨qs',σ'',D'',fp'',hk',hF',hlen',hq',hn'⟩:=gA b hF.sim (fun j=>us.getD j undef) (fun j p hp=>hF.rep (h2 j p hp)) hk
   exact ⟨_,_,_,_,hk',hF.trans hF',.func f qs qs' vs us (ha.trans hlen.symm) (hb.trans hlen'.symm) (fun j p hp=>hF'.rep (hq j p hp)) hq',by simp [PV.noOwn,hn,hn']⟩
 | .iface t p,σ,D,v,k,fp,h,hv,hr=>by
  unfold frz at hr
  cases hv with
  |iface _ u _ hu=>
   obtain ⟨q,σ',D',fp',hk,hF,hq,hn⟩:=gC p h hu hr
   exact ⟨_,_,_,_,hk,hF,.iface t u q hq,by simp [PV.noOwn,hn]⟩
 | .undef,σ,D,v,k,fp,h,hv,hr=>⟨_,_,_,_,hr,.refl h,hv,rfl⟩
 | .int _ _,σ,D,v,k,fp,h,hv,hr=>⟨_,_,_,_,hr,.refl h,hv,rfl⟩
 | .bool _,σ,D,v,k,fp,h,hv,hr=>⟨_,_,_,_,hr,.refl h,hv,rfl⟩
 | .str _,σ,D,v,k,fp,h,hv,hr=>⟨_,_,_,_,hr,.refl h,hv,rfl⟩
 | .sl _ _ _,σ,D,v,k,fp,h,hv,hr=>⟨_,_,_,_,hr,.refl h,hv,rfl⟩
 | .fresh _ _,σ,D,v,k,fp,h,hv,hr=>⟨_,_,_,_,hr,.refl h,hv,rfl⟩
 | .ptr _ _,σ,D,v,k,fp,h,hv,hr=>⟨_,_,_,_,hr,.refl h,hv,rfl⟩
 | .aptr _ _,σ,D,v,k,fp,h,hv,hr=>⟨_,_,_,_,hr,.refl h,hv,rfl⟩
 | .eptr _ _ _,σ,D,v,k,fp,h,hv,hr=>⟨_,_,_,_,hr,.refl h,hv,rfl⟩
 | .any,σ,D,v,k,fp,h,hv,hr=>⟨_,_,_,_,hr,.refl h,hv,rfl⟩
 | .pptr _ _,σ,D,v,k,fp,h,hv,hr=>⟨_,_,_,_,hr,.refl h,hv,rfl⟩
 | .psl _ _ _ _,σ,D,v,k,fp,h,hv,hr=>⟨_,_,_,_,hr,.refl h,hv,rfl⟩
 | .optr _ _ _ _,σ,D,v,k,fp,h,hv,hr=>⟨_,_,_,_,hr,.refl h,hv,rfl⟩
 | .mp _,σ,D,v,k,fp,h,hv,hr=>⟨_,_,_,_,hr,.refl h,hv,rfl⟩
 | .nilIface,σ,D,v,k,fp,h,hv,hr=>⟨_,_,_,_,hr,.refl h,hv,rfl⟩
 | .nilPtr,σ,D,v,k,fp,h,hv,hr=>⟨_,_,_,_,hr,.refl h,hv,rfl⟩
 | .nilFunc,σ,D,v,k,fp,h,hv,hr=>⟨_,_,_,_,hr,.refl h,hv,rfl⟩
theorem gA: ∀ (ps:List (PV U)) {σ:St U} {D:Nat->Option Nat} {k:List (PV U)->M U} {fp:List Loc},Sim X c tm w σ g D->(vs:Nat->Value)->(∀ (j:Nat) p,ps[j]? =some p->Rep X w (c.N g D) g (vs j) p)->(d6 ps k).Rel K σ fp r τ gp->
  ∃qs σ' D' fp',(k qs).Rel K σ' fp' r τ gp/\Frozen X c tm w g σ D σ' D'/\qs.length=ps.length/\(∀ (j:Nat) p,qs[j]? =some p->Rep X w (c.N g D') g (vs j) p)/\PV.noOwnL qs=true
 |[],σ,D,k,fp,h,vs,hv,hr=>⟨[],_,_,_,hr,.refl h,rfl,by simp,rfl⟩
 |p::ps,σ,D,k,fp,h,vs,hv,hr=>by
  unfold d6 at hr
  obtain ⟨q,σ',D',fp',hk,hF,hq,hn⟩:=gC p h (hv 0 p rfl) hr
  obtain ⟨qs,σ'',D'',fp'',hk',hF',hlen,hqs,hn'⟩:=gA ps hF.sim (fun j=>vs (j+1)) (fun j p hp=>hF.rep (hv (j+1) p (by simpa using hp))) hk
  refine ⟨q::qs,_,_,_,hk',hF.trans hF',by simp [hlen],fun j p hp=> ?_,by simp [PV.noOwnL,hn,hn']⟩
  cases j with
  |zero=>simp at hp;subst hp;exact hF'.rep hq
  |succ j=>exact hqs j p (by simpa using hp)
end
end
section
variable {U:Uni} {V:Env U} {P:Program} {X:Link V P} {K:bA U} {S:Side U} {c:Ctx} {a:Act} {w:World} {σ:St U} {g:Gh U} {D:Nat->Option Nat}
variable {next:Act->World->Prop} {Q:Exit->Act->World->Prop} {r:MR U} {τ:St U} {fp gp:List Loc} {N:az}
variable {dst:Option Tmp} {ty:TypeId} {pos:String} {after:Array Edge} {gd:Option (Nat×Bool)}
theorem nE {t:TypeId} {v:Value} {p:PV U} (hf:fq V t p=true) (h:Rep X w N g v p): ∃row,V.ty t=some row/\p.cs.length=row.size/\v.cells.size=row.size/\
  (∀ (j:Nat) q,p.cs[j]? =some q->Rep X w N g (v.cells.getD j undef) q)/\(∀x∈v.cells.toList,x.oneCell'=true):=by
 unfold fq at hf
 split at hf
 case h_2=>cases hf
 rename_i row aO
 simp only [aj] at hf
 obtain ⟨h1,h2⟩:=hf
 obtain ⟨h3,h4⟩:=rE h h2
 have h1':p.cs.length=row.size:=by simp_all
 refine ⟨row,aO,h1',by omega,h4,fun x hx=> ?_⟩
 obtain ⟨j,hj,rfl⟩:=List.getElem_of_mem hx
 have hj':j<p.cs.length:=by grind
 have:=h4 j _ (bP hj')
 have hx:v.cells.getD j undef=v.cells.toList[j]:=by simp at hj;simp [ct,hj]
 grind [rF]
theorem r_ {α:Type} (l m:List α) (off j:Nat) (h:off+m.length<=l.length):
  (l.take off++(m++l.drop (off+m.length)))[j]? =if j<off then l[j]? else if j<off+m.length then m[j-off]? else l[j]? :=by
 grind
theorem yQ {α:Type} (l m:List α) (off:Nat) (h:off+m.length<=l.length):(l.take off++(m++l.drop (off+m.length))).length=l.length:=by
 grind
theorem yR {cur us:List Value} {cs ps:List (PV U)} {off:Nat} (hl:cs.length<=cur.length) (hl':us.length=ps.length) (hle:off+ps.length<=cs.length)
  (h1: ∀ (j:Nat) p,cs[j]? =some p->Rep X w N g (cur.getD j undef) p) (h2: ∀ (j:Nat) p,ps[j]? =some p->Rep X w N g (us.getD j undef) p):
  ∀ (j:Nat) p,(ec cs off ps)[j]? =some p->Rep X w N g ((cur.take off++(us++cur.drop (off+us.length))).getD j undef) p:=by
 grind [ec]
theorem TailOK.spliced {cur t:Array Value} {cs vs:List (PV U)} {us:List Value} {off:Nat} (h:TailOK cur cs.length t) (hl:us.length=vs.length) (hle:off+vs.length<=cs.length):
  TailOK (cur.toList.take off++(us++cur.toList.drop (off+us.length))).toArray (ec cs off vs).length t:=by
 obtain ⟨h1,h2⟩:=h
 have hsl:(ec cs off vs).length=cs.length:=yQ _ _ _ hle
 refine ⟨?_,fun j hj=> ?_⟩
 ·grind
 ·rw [hsl,ct,List.getElem?_toArray,r_ _ _ _ _ (by grind),if_neg (by omega),if_neg (by omega),<-h2 j hj]
  simp
theorem ym (X:Link V P) {t:TypeId} {row:Ty U} (aO:V.ty t=some row) {k off:Nat} {cur:Array Value} {e:TypeId} {u:Value} (hk:w.heap[k]? =some (.cells cur e (0,0)))
  (hs:u.cells.size=row.size) (hle:off+u.cells.size<=cur.size) (h1: ∀x∈u.cells.toList,x.oneCell'=true):
  (Instr.storeAt t (.pointer (some ⟨k,off,none⟩)) u).run P w= .ok () (w.setRow k (cur.toList.take off++(u.cells.toList++cur.toList.drop (off+u.cells.toList.length))).toArray):=by
 have hst:=run_storeCells_at P k off e u.cells.toList 0 cur w hk (by omega) h1
 simp only [Nat.add_zero,List.append_assoc] at hst
 simp only [Instr.storeAt,Instr.sureAddr,bu,b9,bq,storeVar,rU (X:=X) (X.ty t row aO),hs,ne_eq,not_true,if_false,hst]
theorem Io (h:Sim X c a.tmps w σ g D) {t:TypeId} {p v:PV U} {u x:Value} {m:M U} (hp:Rep X w (c.N g D) g u p) (hv:Rep X w (c.N g D) g x v) (hr:(sa V t p v m).Rel K σ fp r τ gp):
  ∃σ' D' fp' w',m.Rel K σ' fp' r τ gp/\(Instr.storeAt t u x).run P w= .ok () w'/\Sim X c a.tmps w' σ' g D':=by
 unfold sa at hr
 split at hr
 ·rename_i id off
  simp only [M.Rel] at hr
  split at hr
  ·rename_i cs hcs
   cases hb:fq V t v&&a7 (off+v.cs.length) cs.length with
   |false=>rw [hb] at hr;exact hr.elim
   |true=>
    rw [hb] at hr
    simp only [aj,Nat.ble_eq] at hb
    obtain ⟨hf,hle⟩:=hb
    obtain ⟨row,aO,hl1,hl2,hcells,hone⟩:=nE hf hv
    obtain ⟨k,hk,cur,e,hblk,hsz,hcur⟩:=h.boxes _ _ hcs
    cases hp with
    |ptr _ _ b hb=>
     rw [hb] at hk
     injection hk with hk
     subst hk
     have hsz1:=hsz.1
     have hrun:=ym X aO hblk hl2 (off:=off) (by omega) hone
     refine ⟨_,D,_,_,hr,hrun, ?_⟩
     have hw: ∀b' o,b'<w.heap.size-> ¬ (c.N g D) b' o->(w.setRow b (cur.toList.take off++(x.cells.toList++cur.toList.drop (off+x.cells.toList.length))).toArray).cell? ⟨b',o,none⟩=w.cell? ⟨b',o,none⟩:=fun b' o _ hn=>
      cell_setRow_other w b _ _ (fun e=>hn (.inr (.inl ⟨id,by grind⟩)))
     refine h.setBox hb rfl rfl rfl (by simp) (fun b' hne=>setRow_other w b b' _ hne) ⟨_,e,setRow_heap w b cur _ e _ hblk, ?_,fun j q hq=> ?_⟩
     ·exact hsz.spliced (by grind) hle
     ·have:=yR (X:=X) (w:=w) (N:=c.N g D) (g:=g) (cur:=cur.toList) (us:=x.cells.toList) (by grind) (by grind) hle (fun j p hp=>by
        simp_all) (fun j p hp=>by
        simp_all) j q hq
      have:=this.mono X hw (fun _ _ _ h=>h) (Gh.le.refl g)
      simp_all
  ·exact hr.elim
 ·rename_i i ver j off
  obtain ⟨v',σ1,D1,fp1,hr1,hF,hv1,_⟩:=gC v h hv hr
  have hp1:=hF.rep hp
  have h1:=hF.sim
  obtain ⟨ob,fp2,hob,hver,hr2⟩:=gT hr1
  simp only [M.Rel] at hr2
  cases hu:σ1.u i with
  |read=>rw [hu] at hr2;exact hr2.elim
  |app=>rw [hu] at hr2;exact hr2.elim
  |wr=>
   rw [hu] at hr2
   obtain ⟨y,hy,hr3⟩:=hr2
   obtain ⟨h0,hy'⟩:=jr hy
   dsimp only at hr3
   cases hb:fq V t v'&&a7 (off+v'.cs.length) (V.cells ob.e y).length with
   |false=>rw [hb] at hr3;exact hr3.elim
   |true=>
    rw [hb] at hr3
    simp only [aj,Nat.ble_eq] at hb
    obtain ⟨hf,hle⟩:=hb
    simp only [cond_true] at hr3
    split at hr3
    case h_2=>exact hr3.elim
    rename_i z hz
    obtain ⟨row,aO,hl1,hl2,hcells,hone⟩:=nE hf hv1
    obtain ⟨val,hkap,hOb⟩:=h1.objs i ob hob
    rw [hu] at hOb
    obtain ⟨A,n,cp,hval,hlen,hcp,hcl,hD⟩:=hOb.val
    have hlen':=X.len ob.e y
    cases hDi:D1 i with
    |none=>
     grind
    |some b=>
     rw [hDi] at hD
     obtain ⟨_,cur,hA,hblk,hsz,hmax⟩:=hD
     cases hp1 with
     |optr _ _ _ _ _ ver' e' val' hk' hle' he hs=>
      rw [hkap] at hk'
      injection hk' with hk'
      injection hk' with e1 hk'
      injection hk' with e2 e3
      subst e1;subst e2;subst e3
      obtain ⟨b',n',cp',hval',hu'⟩:=he hver.symm
      subst hA
      rw [hval] at hval'
      injection hval' with q1 q2 q3
      injection q1 with q1
      subst q1;subst q2;subst q3
      rw [Addr.add_lit',b8] at hu'
      subst hu'
      have hjlt:j.toNat<n:=by grind
      have hbound:j.toNat*X.esize ob.e+X.esize ob.e<=cp*X.esize ob.e:=by
       have:(j.toNat+1)*X.esize ob.e<=cp*X.esize ob.e:=fK _ (by omega)
       grind
      have hrun:=ym X aO hblk hl2 (off:=j.toNat*X.esize ob.e+off) (by omega) hone
      refine ⟨_,D1,_,_,hr3,hrun, ?_⟩
      obtain ⟨t1,t2,t3⟩:=X.toEl _ _ _ hz
      have hN:(c.N g D1)=(c.N g D1):=rfl
      have hw: ∀b' o,b'<w.heap.size-> ¬ (c.N g D1) b' o->(w.setRow b (cur.toList.take (j.toNat*X.esize ob.e+off)++(x.cells.toList++cur.toList.drop (j.toNat*X.esize ob.e+off+x.cells.toList.length))).toArray).cell? ⟨b',o,none⟩=w.cell? ⟨b',o,none⟩:=fun b' o _ hn=>
       cell_setRow_other w b _ _ (fun e=>hn (.inr (.inr ⟨i,by grind⟩)))
      have hmono: ∀ {v:Value} {p:PV U},Rep X w (c.N g D1) g v p->Rep X (w.setRow b (cur.toList.take (j.toNat*X.esize ob.e+off)++(x.cells.toList++cur.toList.drop (j.toNat*X.esize ob.e+off+x.cells.toList.length))).toArray) (c.N g D1) g v p:=
       fun h=>h.mono X hw (fun _ _ _ h=>h) (Gh.le.refl g)
      have hcurlen:(cur.toList.take (j.toNat*X.esize ob.e+off)++(x.cells.toList++cur.toList.drop (j.toNat*X.esize ob.e+off+x.cells.toList.length))).length=cur.size:=by
       grind
      refine h1.objsTurn (fun q=>q=i) rfl rfl rfl (by simp) (fun b' _ hne=>setRow_other w b b' _ (fun e=>hne i rfl (e▸hDi))) (fun _=>rfl) (fun _=>rfl) rfl (Gh.le.refl g)
       (fun q b' hq=>by
        grind)
       (fun q q' b' _ hq hq'=>h1.dinj _ _ _ hq hq')
       (fun q hq=>⟨by grind [St.setO_o],rfl,rfl,rfl⟩)
       (fun q ob' hq hob'=> ?_) (fun q hq ho=>by simp_all)
      subst hq
      rw [St.setO_o,if_pos rfl] at hob'
      injection hob' with hob'
      subst hob'
      refine ⟨val,hkap, ?_⟩
      simp only [St.setO_u,hu,hDi]
      refine ⟨some ⟨b,0,none⟩,n,cp,hval,by grind,hcp,fun j' x' hx' k' p' hp'=> ?_,by simp,_,rfl,setRow_heap w b cur _ _ _ hblk,by grind,hmax⟩
      have hkl:k'<X.esize ob.e:=by have:=(bS.1 hp').1;rw [X.len] at this;exact this
      refine ⟨⟨b,0,none⟩,(cur.toList.take (j.toNat*X.esize ob.e+off)++(x.cells.toList++cur.toList.drop (j.toNat*X.esize ob.e+off+x.cells.toList.length))).getD (j'*X.esize ob.e+k') undef,rfl, ?_, ?_,by simp⟩
      ·rw [Addr.add_lit',b8,cell_setRow_same w b _ cur _ _ (0,0) hblk]
       have hj'lt:j'<n:=by
        grind
       have hb2:j'*X.esize ob.e+X.esize ob.e<=cp*X.esize ob.e:=by
        have:(j'+1)*X.esize ob.e<=cp*X.esize ob.e:=fK _ (by omega)
        grind
       grind
      ·apply hmono
       rw [List.getElem?_set] at hx'
       rw [List.getD_eq_getElem?_getD,r_ _ _ _ _ (by simp;omega)]
       have hold: ∀ (j2 k2:Nat) x2 p2,ob.l[j2]? =some x2->(V.cells ob.e x2)[k2]? =some p2->Rep X w (c.N g D1) g (cur.toList[j2*X.esize ob.e+k2]?.getD undef) p2:=by
        grind [Addr.add_lit',World.cell?]
       by_cases hjj:j.toNat=j'
       ·subst hjj
        rw [if_pos rfl] at hx'
        split at hx'
        case isFalse=>cases hx'
        injection hx' with hx'
        subst hx'
        have hsl:=yQ (V.cells ob.e y) v'.cs off hle
        have hk2:k'<(ec (V.cells ob.e y) off v'.cs).length:=by omega
        obtain ⟨q,hq,hless⟩:=t3 k' _ (bP hk2)
        rw [hp'] at hq
        injection hq with hq
        subst hq
        refine Rep.less ?_ hless
        have hsp:(ec (V.cells ob.e y) off v'.cs)[k']? =some (ec (V.cells ob.e y) off v'.cs)[k']:=bP hk2
        generalize (ec (V.cells ob.e y) off v'.cs)[k']=sp at hsp
        unfold ec at hsp
        rw [r_ _ _ _ _ hle] at hsp
        by_cases hA:k'<off
        ·grind
        ·rw [if_neg hA] at hsp
         rw [if_neg (by omega)]
         by_cases hB:k'<off+v'.cs.length
         ·rw [if_pos hB] at hsp
          rw [if_pos (by simp;omega),show j.toNat*X.esize ob.e+k'-(j.toNat*X.esize ob.e+off)=k'-off by omega]
          simp_all
         grind
       ·rw [if_neg hjj] at hx'
        have hne: ¬ (j.toNat*X.esize ob.e+off<=j'*X.esize ob.e+k'/\j'*X.esize ob.e+k'<j.toNat*X.esize ob.e+off+x.cells.toList.length):=by
         rintro ⟨q1,q2⟩
         have hsz':off+x.cells.toList.length<=X.esize ob.e:=by simp;omega
         rcases Nat.lt_or_gt_of_ne hjj with h3|h3
         ·have:(j.toNat+1)*X.esize ob.e<=j'*X.esize ob.e:=fK _ h3
          grind
         ·have:(j'+1)*X.esize ob.e<=j.toNat*X.esize ob.e:=fK _ h3
          grind
        grind
 ·exact hr.elim
theorem Gq {t:TypeId} {x y:Operand} (h:Sim X c a.tmps w σ g D) (hr:(bh V S ⟨dst,.store t x y,ty,pos,after,gd⟩).Rel K σ fp r τ gp)
  (ht:Then X c a r τ next Q):(⟨dst,.store t x y,ty,pos,after,gd⟩:Oper).wp P a w next Q:=by
 cases hdst:dst with
 |some d=>subst hdst;exact hr.elim
 |none=>
 subst hdst
 obtain ⟨p,fp1,hp,hr1⟩:=bv h hr
 obtain ⟨v,fp2,hv,hr2⟩:=bv h hr1
 have hdst:(none:Option Tmp)=none:=rfl
 obtain ⟨σ',D',fp',w',hr3,hrun,hs⟩:=Io h hp hv hr2
 obtain ⟨h1,h2,_⟩:=hr3
 subst h2
 exact wp_skip ht hdst hs (by simp [execOp,hrun]) h1
end
section
variable {U:Uni} {V:Env U} {P:Program} {X:Link V P} {K:bA U} {S:Side U} {c:Ctx} {a:Act} {w:World} {σ:St U} {g:Gh U} {D:Nat->Option Nat}
variable {next:Act->World->Prop} {Q:Exit->Act->World->Prop} {r:MR U} {τ:St U} {fp gp:List Loc} {N:az}
variable {dst:Option Tmp} {ty:TypeId} {pos:String} {after:Array Edge} {gd:Option (Nat×Bool)}
theorem nq {op:Op} {d:Nat} {nt:Nat} (h:aW nt ⟨some d,op,ty,pos,after,gd⟩=true):d<nt:=by simp_all [aW]
theorem zl {op:Op} {d:Nat} (hd:aW c.nt ⟨some d,op,ty,pos,after,gd⟩=true) (h:Sim X c a.tmps w σ g D) {b:Nat} (hfree:σ.b b=none) (hfix:c.fix b=none) {cells:Array Value} {et:TypeId} {cs:List (PV U)}
  (hsz:cells.size=cs.length) (hc: ∀ (j:Nat) p,cs[j]? =some p->Rep X w (c.N g D) g (cells.getD j undef) p)
  (hrun:(execOp a.eval ⟨some d,op,ty,pos,after,gd⟩).run P w= .ok (.value (.pointer (some ⟨w.heap.size,0,none⟩))) (w.alloc (.cells cells et)))
  (hr:r= .done) (hτ:τ=(σ.setB b (.cells cs)).setR d (.ptr b 0)) (ht:Then X c a r τ next Q):(⟨some d,op,ty,pos,after,gd⟩:Oper).wp P a w next Q:=by
 subst hτ
 have hs:=h.newBox hfree hfix (o:= .cells cells et) (b:= .cells cs) ⟨cells,et,heap_alloc_new w _,.nil hsz,fun j p hp=>h.newRep hfree _ (hc j p hp)⟩
 obtain ⟨h1,h2⟩:=hs.putAct (o:=⟨some d,op,ty,pos,after,gd⟩) hd (p:= .ptr b 0) (.ptr b 0 w.heap.size (by simp [Gh.put]))
 unfold Oper.wp
 rw [hrun]
 exact ht.done hr _ _ _ _ h2 h1
def PinOK (S:Side U) (c:Ctx):Prop:= ∀d,S.pin d=true->c.fix (5000000+d)=none
theorem PinOK.free (hP:PinOK S c) {d:Nat} (hd:d<c.nt):c.fix (S.boxId d)=none:=by
 unfold Side.boxId
 cases hp:S.pin d with
 |true=>exact hP d hp
 |false=>exact c.free hd
theorem FV (hP:PinOK S c) {t:TypeId} (hd:aW c.nt ⟨dst,.alloc t,ty,pos,after,gd⟩=true) (h:Sim X c a.tmps w σ g D) (hr:(bh V S ⟨dst,.alloc t,ty,pos,after,gd⟩).Rel K σ fp r τ gp)
  (ht:Then X c a r τ next Q):(⟨dst,.alloc t,ty,pos,after,gd⟩:Oper).wp P a w next Q:=by
 simp only [bh] at hr
 split at hr
 case h_2=>exact hr.elim
 rename_i d z hz
 simp only [M.Rel] at hr
 split at hr
 case h_2=>exact hr.elim
 rename_i hfree
 obtain ⟨h1,h2,_⟩:=hr
 unfold Env.zero at hz
 split at hz
 case h_2=>cases hz
 rename_i row aO
 injection hz with hz
 subst hz
 obtain ⟨i,zv,hi,hs,hzero,hzs⟩:=(X.ty t row aO).info
 obtain ⟨hl,hrep⟩:=zq X (w:=w) (N:=c.N g D) (g:=g) hzs
 refine zl hd h hfree (hP.free (nq hd)) (cells:=zv.cells) (et:=t) (by omega) (fun j p hp=> ?_) ?_ h1 h2 ht
 all_goals simp_all [execOp,Instr.alloc,zeroValue,typeInfo,newVar,newRow]
theorem FY (hP:PinOK S c) {t:TypeId} {x:Operand} (hd:aW c.nt ⟨dst,.box t x,ty,pos,after,gd⟩=true) (h:Sim X c a.tmps w σ g D) (hr:(bh V S ⟨dst,.box t x,ty,pos,after,gd⟩).Rel K σ fp r τ gp)
  (ht:Then X c a r τ next Q):(⟨dst,.box t x,ty,pos,after,gd⟩:Oper).wp P a w next Q:=by
 obtain ⟨p,fp1,hp,hr1⟩:=bv h hr
 split at hr1
 case h_2=>exact hr1.elim
 rename_i d hdd
 cases hdd
 simp only [M.Rel] at hr1
 split at hr1
 case h_2=>exact hr1.elim
 rename_i hfree
 cases hf:fq V t p with
 |false=>rw [hf] at hr1;exact hr1.elim
 |true=>
  rw [hf] at hr1
  obtain ⟨h1,h2,_⟩:=hr1
  obtain ⟨row,aO,hl1,hl2,hcells,_⟩:=nE hf hp
  exact zl hd h hfree (hP.free (nq hd)) (cells:=(a.eval x).cells) (et:=t) (by omega) hcells (by rfl) h1 h2 ht
theorem Hm {f:Field} {q:TypeInfo} (hi:P.info? f.type=some q) (hq:0<q.size) (b:Addr) (w:World):(fieldPlace b f).run P w= .ok (b.add f.offset) w:=by
 have:q.size≠0:=by omega
 simp_all [fieldPlace,sizeOf,typeInfo]
theorem yN {t:TypeId} {i off:Nat} {ft:TypeId} (X:Link V P) (h:V.soff t i=some (off,ft)): ∃ (fs:Array Field) (f:Field) (q:TypeInfo),P.underlying t=some (.struct fs)/\fs[i]? =some f/\f.offset=off/\f.type=ft/\P.info? ft=some q/\0<q.size:=by
 unfold Env.soff at h
 split at h
 ·rename_i row aO
  split at h
  ·rename_i harr;exact (X.ty t row aO).fields harr i off ft h
  simp_all
 simp_all
theorem F9 {s:TypeId} {x:Operand} {f:Nat} (hd:aW c.nt ⟨dst,.fieldAddr s x f,ty,pos,after,gd⟩=true) (h:Sim X c a.tmps w σ g D) (hr:(bh V S ⟨dst,.fieldAddr s x f,ty,pos,after,gd⟩).Rel K σ fp r τ gp)
  (ht:Then X c a r τ next Q):(⟨dst,.fieldAddr s x f,ty,pos,after,gd⟩:Oper).wp P a w next Q:=by
 obtain ⟨p,fp1,hp,hr1⟩:=bv h hr
 have run: ∀ {off:Nat} {ft:TypeId} {b:Addr},V.soff s f=some (off,ft)->a.eval x= .pointer (some b)->(execOp a.eval ⟨dst,.fieldAddr s x f,ty,pos,after,gd⟩).run P w= .ok (.value (.pointer (some (b.add off)))) w:=by
  intro off ft b ho he
  obtain ⟨fs,fd,q,hu,hf,h1,h2,h3,h4⟩:=yN X ho
  simp_all [execOp,Instr.fieldAt,Instr.sureAddr,run_underlying,Hm]
 split at hr1
 ·rename_i off ft id n ho
  have hp':=hp
  generalize he:a.eval x=ev at hp
  cases hp with
  |ptr _ _ b hb=>exact aX hd ht h (run ho he) (by rw [Addr.add_lit'];exact .ptr id (n+off) b hb) hr1
 ·rename_i off ft e y n ho
  generalize he:a.eval x=ev at hp
  cases hp with
  |eptr _ _ _ b val h1 h2=>exact aX hd ht h (run ho he) (by rw [Addr.add_add];exact .eptr e y (n+off) b val h1 h2) hr1
 ·rename_i off ft cs n ho
  generalize he:a.eval x=ev at hp
  cases hp with
  |pptr _ _ b val h1 h2=>exact aX hd ht h (run ho he) (by rw [Addr.add_add];exact .pptr cs (n+off) b val h1 h2) hr1
 ·rename_i off ft i v j n ho
  generalize he:a.eval x=ev at hp
  cases hp with
  |optr _ _ _ _ val ver e val' hk hv he' hs=>
   obtain ⟨b,rfl⟩:=hs
   refine aX hd ht h (run ho he) (.optr i v j (n+off) _ ver e val' hk hv (fun hver=> ?_) ⟨_,rfl⟩) hr1
   grind [Addr.add_add]
 ·exact hr1.elim
theorem F8 {s:TypeId} {x:Operand} {f:Nat} (hd:aW c.nt ⟨dst,.field s x f,ty,pos,after,gd⟩=true) (h:Sim X c a.tmps w σ g D) (hr:(bh V S ⟨dst,.field s x f,ty,pos,after,gd⟩).Rel K σ fp r τ gp)
  (ht:Then X c a r τ next Q):(⟨dst,.field s x f,ty,pos,after,gd⟩:Oper).wp P a w next Q:=by
 obtain ⟨p,fp1,hp,hr1⟩:=bv h hr
 split at hr1
 case h_2=>exact hr1.elim
 rename_i off ft cs ho
 unfold fN at hr1
 split at hr1
 case h_2=>exact hr1.elim
 rename_i y hy
 obtain ⟨fs,fd,q,hu,hf,h1,h2,h3,h4⟩:=yN X ho
 subst h1;subst h2
 generalize he:a.eval x=ev at hp
 cases hp with
 |agg vs _ hl hh=>
  unfold g_ at hy
  split at hy
  case h_2=>cases hy
  rename_i row aO
  have hT:=X.ty fd.type row aO
  cases hag:row.agg with
  |true=>
   rw [hag] at hy
   simp only [cond_true] at hy
   cases hle:a7 (fd.offset+row.size) cs.length with
   |false=>grind
   |true=>
    rw [hle] at hy
    simp only [cond_true,Option.some.injEq] at hy
    subst hy
    have hle':fd.offset+row.size<=cs.length:=by simp_all
    refine aX hd ht h (v:= .agg (vs.extract fd.offset (fd.offset+row.size))) ?_ (.agg _ _ ?_ fun j p hp=> ?_) hr1
    ·simp [execOp,Instr.field,run_underlying hu,hf,he,asAgg,part,lY hT,hag,rU hT]
    ·grind
    ·have hj:j<row.size:=by grind
     rw [List.getElem?_take_of_lt hj,List.getElem?_drop] at hp
     have:=hh _ _ hp
     have hlt:fd.offset+j<vs.size:=by omega
     have e:(vs.extract fd.offset (fd.offset+row.size)).getD j undef=vs.getD (fd.offset+j) undef:=by
      simp_all
     grind
  |false=>
   rw [hag] at hy
   simp only [cond_false] at hy
   have:=hh _ _ hy
   have hlt:fd.offset<vs.size:=by grind
   refine aX hd ht h (v:=vs.getD fd.offset undef) ?_ this hr1
   simp [execOp,Instr.field,run_underlying hu,hf,he,asAgg,part,lY hT,hag,hlt,ct]
theorem ju {t:TypeId} {e:U.E} (X:Link V P) (h:V.isEl t e=true):P.underlying t=some (.slice (X.etid e))/\V.ety t=some e:=by
 unfold Env.isEl at h
 split at h
 ·rename_i e' he
  split at h
  ·rename_i hh
   subst hh
   refine ⟨?_,he⟩
   unfold Env.ety at he
   split at he
   ·rename_i row aO;exact (X.ty t row aO).elem _ he
   grind
  simp_all
 simp_all
theorem gO (X:Link V P) (e:U.E) (w:World):(sizeOf (X.etid e)).run P w= .ok (X.esize e) w:=by
 obtain ⟨i,hi,_,hs,_⟩:=X.einfo e
 simp_all [sizeOf,typeInfo]
theorem rS {t:TypeId} {e:U.E} (X:Link V P) (h:V.isEl t e=true) {b:Addr} {n cp:Nat} {k:IntKind} {i:Int} (h0:0<=i) (h1:i.toNat<n) (w:World):
  (Instr.indexAt t (.slice (some b) n cp) (.int k i)).run P w= .ok (.pointer (some (b.add (i.toNat*X.esize e)))) w:=by
 have hi:i<(n:Int):=by omega
 simp [Instr.indexAt,asIntOf,run_underlying (ju X h).1,h0,hi,gO X e]
theorem Ga {t:TypeId} {x i:Operand} (hd:aW c.nt ⟨dst,.indexAddr t x i,ty,pos,after,gd⟩=true) (h:Sim X c a.tmps w σ g D) (hr:(bh V S ⟨dst,.indexAddr t x i,ty,pos,after,gd⟩).Rel K σ fp r τ gp)
  (ht:Then X c a r τ next Q):(⟨dst,.indexAddr t x i,ty,pos,after,gd⟩:Oper).wp P a w next Q:=by
 obtain ⟨p,fp1,hp,hr1⟩:=bv h hr
 obtain ⟨q,fp2,hq,hr2⟩:=bv h hr1
 split at hr2
 ·rename_i e l o k n
  cases hE:V.isEl t e with
  |false=>rw [hE] at hr2;exact hr2.elim
  |true=>
   rw [hE] at hr2
   obtain ⟨y,hy,hr3⟩:=hr2
   obtain ⟨h0,hy'⟩:=jr hy
   have hq':=bV hq
   generalize he:a.eval x=ev at hp
   cases hp with
   |sl A m cp _ _ _ val hl hcp ho h1 h2=>
    obtain ⟨b,hA⟩: ∃b,A=some b:=by
     cases hcs:V.cells e y with
     |nil=>exact absurd hcs (mM X y)
     |cons p0 rest=>obtain ⟨b,hb,_⟩:=h1 _ y hy' 0 p0 (by grind);grind
    subst hA
    have hlt:n.toNat<m:=by grind
    refine aX hd ht h (v:= .pointer (some (b.add (n.toNat*X.esize e)))) ?_ ?_ hr3
    ·simp [execOp,he,hq',rS X hE h0 hlt]
    ·have:=Rep.eptr (X:=X) (w:=w) (N:=c.N g D) (g:=g) e y 0 (b.add (n.toNat*X.esize e)) (val n.toNat) (fun k p hp=>by
      grind [Addr.add_add,Addr.add_block,Addr.add_off]) (fun k p hp=>h2 _ y hy' k p hp)
     rwa [Addr.add_zero] at this
 ·rename_i m w' cs o k n
  split at hr2
  case h_2=>exact hr2.elim
  rename_i e he
  cases hE:ac (V.esz e) w' with
  |false=>rw [hE] at hr2;exact hr2.elim
  |true=>
   rw [hE] at hr2
   obtain ⟨hb,hr3⟩:=dJ hr2
   have hw:V.esz e=w':=by simpa using hE
   rw [X.esz] at hw
   subst hw
   have hI:V.isEl t e=true:=by simp [Env.isEl,he]
   have hq':=bV hq
   generalize he':a.eval x=ev at hp
   cases hp with
   |psl A _ cp _ _ _ val hl hc ho h1 h2=>
    have hlt:n.toNat<m:=by omega
    have hle:(n.toNat+1)*X.esize e<=m*X.esize e:=fK _ hlt
    have hps:=X.epos e
    have hidx:n.toNat*X.esize e<cs.length:=by rw [hl];grind
    obtain ⟨b,hA,_⟩:=h1 _ _ (bP hidx)
    subst hA
    have hget: ∀ (k:Nat) p,((cs.drop (n.toNat*X.esize e)).take (X.esize e))[k]? =some p->cs[n.toNat*X.esize e+k]? =some p:=by grind
    refine aX hd ht h (v:= .pointer (some (b.add (n.toNat*X.esize e)))) ?_ ?_ hr3
    ·simp [execOp,he',hq',rS X hI hb.1 hlt]
    ·have:=Rep.pptr (X:=X) (w:=w) (N:=c.N g D) (g:=g) ((cs.drop (n.toNat*X.esize e)).take (X.esize e)) 0 (b.add (n.toNat*X.esize e)) (fun k=>val (n.toNat*X.esize e+k)) (fun k p hp=>by
      obtain ⟨b',hb',h3,h4⟩:=h1 _ p (hget k p hp)
      injection hb' with hb'
      subst hb'
      rw [Addr.add_add,Addr.add_block,Addr.add_off,Nat.add_assoc]
      exact ⟨h3,h4⟩) (fun k p hp=>h2 _ p (hget k p hp))
     rwa [Addr.add_zero] at this
 ·rename_i ii v k n
  obtain ⟨ob,fp3,hob,hver,hr3⟩:=gT hr2
  cases hE:V.isEl t ob.e with
  |false=>rw [hE] at hr3;exact hr3.elim
  |true=>
   rw [hE] at hr3
   obtain ⟨y,hy,hr4⟩:=hr3
   obtain ⟨h0,hy'⟩:=jr hy
   have hq':=bV hq
   obtain ⟨val,hkap,hOb⟩:=h.objs ii ob hob
   obtain ⟨b,m,cp,hval,_⟩:=ws hOb hy' (mM X y)
   obtain ⟨_,m',cp',hval',hlen,_⟩:=hOb.val
   rw [hval] at hval';cases hval'
   generalize he:a.eval x=ev at hp
   cases hp with
   |own _ _ _ ver e val' hk hle hev hs=>
    have hkk:=hk
    rw [hkap] at hk
    injection hk with hk
    injection hk with e1 hk
    injection hk with e2 e3
    subst e1;subst e2;subst e3
    have hev':=hev hver.symm
    subst hev'
    have hlt:n.toNat<m:=by grind
    refine aX hd ht h (v:= .pointer (some (b.add (n.toNat*X.esize ob.e)))) ?_ ?_ hr4
    ·simp [execOp,he,hq',hval,rS X hE h0 hlt]
    ·exact .optr ii v n 0 _ ob.ver ob.e _ hkk hle (fun _=>⟨b,m,cp,hval,by rw [Nat.add_zero]⟩) ⟨_,rfl⟩
 ·rename_i id k n
  simp only [M.Rel] at hr2
  split at hr2
  case h_2=>exact hr2.elim
  rename_i cs hcs
  split at hr2
  case h_2=>exact hr2.elim
  rename_i m hm
  obtain ⟨e,qq,hu,hi,hz,hsz⟩: ∃ (e:TypeId) (q:TypeInfo),P.underlying t=some (.array m e)/\P.info? e=some q/\0<q.size/\m*q.size=V.cellsT t:=by
   unfold Env.arr at hm
   unfold Env.cellsT
   split at hm
   ·rename_i row aO
    obtain ⟨e,q,h1,h2,h3,h4,_⟩:=(X.ty t row aO).arr m hm
    grind
   grind
  cases hml:(ac m cs.length&&ac (V.cellsT t) m) with
  |false=>
   rw [hml] at hr2
   cases hm0:cG 0 m with
   |false=>rw [hm0] at hr2;exact hr2.elim
   |true=>
   rw [hm0] at hr2
   obtain ⟨hn,hr3⟩:=dJ hr2
   have hq':=bV hq
   have hm1:0<m:=by simpa [Nat.blt_eq] using hm0
   have hdiv:V.cellsT t/m=qq.size:=by rw [<-hsz];exact Nat.mul_div_cancel_left _ hm1
   rw [hdiv] at hr3
   generalize he:a.eval x=ev at hp
   cases hp with
   |ptr _ _ b hb=>
    refine aX hd ht h (v:= .pointer (some ⟨b,n.toNat*qq.size,none⟩)) ?_ (.ptr id _ b hb) hr3
    have hlt:n<(m:Int):=by omega
    simp [execOp,he,hq',Instr.indexAt,asIntOf,run_underlying hu,hn.1,hlt,sizeOf,typeInfo,hi,Instr.sureAddr,Addr.add_lit']
  |true=>
   rw [hml] at hr2
   obtain ⟨hn,hr3⟩:=dJ hr2
   have hq':=bV hq
   simp only [aj] at hml
   have hml':m=cs.length:=Nat.eq_of_beq_eq_true hml.1
   have hs:qq.size=1:=by
    have h1:m*qq.size=m*1:=by rw [hsz,Nat.eq_of_beq_eq_true hml.2,Nat.mul_one]
    exact Nat.eq_of_mul_eq_mul_left (by omega) h1
   generalize he:a.eval x=ev at hp
   cases hp with
   |ptr _ _ b hb=>
    refine aX hd ht h (v:= .pointer (some ⟨b,n.toNat,none⟩)) ?_ (.aptr id n b hb hn.1) hr3
    have hlt:n<(m:Int):=by omega
    simp [execOp,he,hq',Instr.indexAt,asIntOf,run_underlying hu,hn.1,hlt,sizeOf,typeInfo,hi,hs,Instr.sureAddr,Addr.add_lit']
 ·exact hr2.elim
theorem F_ {t:TypeId} {x i:Operand} (hd:aW c.nt ⟨dst,.index t x i,ty,pos,after,gd⟩=true) (h:Sim X c a.tmps w σ g D) (hr:(bh V S ⟨dst,.index t x i,ty,pos,after,gd⟩).Rel K σ fp r τ gp)
  (ht:Then X c a r τ next Q):(⟨dst,.index t x i,ty,pos,after,gd⟩:Oper).wp P a w next Q:=by
 obtain ⟨p,fp1,hp,hr1⟩:=bv h hr
 obtain ⟨q,fp2,hq,hr2⟩:=bv h hr1
 split at hr2
 case h_2=>exact hr2.elim
 rename_i s k n
 cases hE:ac (V.eqk t) 4 with
 |false=>rw [hE] at hr2;exact hr2.elim
 |true=>
  rw [hE] at hr2
  obtain ⟨y,hy,hr3⟩:=hr2
  obtain ⟨h0,hy'⟩:=jr hy
  have hq':=bV hq
  have hp':=ox hp
  have hu:P.underlying t=some .string:=by
   simp [Env.eqk] at hE
   split at hE
   ·rename_i row aO;exact (X.ty t row aO).isStr hE
   omega
  refine aX hd ht h (v:= .int .u8 y.toNat) ?_ (.int _ _) hr3
  have hy2:s[n.toNat]? =some y:=by
   have:n.toNat<s.data.size:=by grind
   have hb:n.toNat<s.size:=this
   rw [getElem?_pos s n.toNat hb]
   have:=(bS.1 hy').2
   simp at this
   exact congrArg some this
  simp_all [execOp,Instr.index,asIntOf,run_underlying]
end
section
variable {U:Uni} {V:Env U} {P:Program} {X:Link V P} {K:bA U} {S:Side U} {c:Ctx} {a:Act} {w:World} {σ:St U} {g:Gh U} {D:Nat->Option Nat}
variable {next:Act->World->Prop} {Q:Exit->Act->World->Prop} {r:MR U} {τ:St U} {fp gp:List Loc} {N:az}
variable {dst:Option Tmp} {ty:TypeId} {pos:String} {after:Array Edge} {gd:Option (Nat×Bool)}
theorem Dp (off:Nat): ∀ (l:List Value) (s:Nat) (cells:Array Value),off+s+l.length<=cells.size->
  (l.zipIdx s).foldl (fun cs (x:Value×Nat)=>cs.setIfInBounds (off+x.2) x.1) cells=(cells.toList.take (off+s)++(l++cells.toList.drop (off+s+l.length))).toArray:=by
 intro l
 induction l with
 |nil=>simp
 |cons v l ih=>
  intro s cells h
  simp only [List.zipIdx_cons,List.foldl_cons]
  rw [ih (s+1) _ (by grind)]
  congr 1
  have e:=list_seg_step cells.toList (off+s) v l (by omega)
  simp_all [Nat.add_assoc]
theorem uO (off:Nat) (vs cells:Array Value) (h:off+vs.size<=cells.size):
  vs.zipIdx.foldl (fun cs (x:Value×Nat)=>cs.setIfInBounds (off+x.2) x.1) cells=(cells.toList.take off++(vs.toList++cells.toList.drop (off+vs.toList.length))).toArray:=by
 rw [<-Array.foldl_toList,Array.toList_zipIdx]
 simp_all [Dp]
theorem Di {t:TypeId} {aS:Nat->Option (Nat×Nat)} (hpl: ∀i off ft row,V.foff t i=some (off,ft)->V.ty ft=some row->aS i=some (off,row.size)):
  ∀ (parts:List (Nat×PV U)) (us:List (Nat×Value)) (cs cs':List (PV U)) (cells:Array Value),parts.map (·.1)=us.map (·.1)->
   (∀ (j:Nat) i p u,parts[j]? =some (i,p)->us[j]? =some (i,u)->Rep X w N g u p)->cells.size=cs.length->(∀ (j:Nat) p,cs[j]? =some p->Rep X w N g (cells.getD j undef) p)->
   fill V t cs parts=some cs'-> ∃cells',Instr.fill aS cells us=some cells'/\cells'.size=cs'.length/\(∀ (j:Nat) p,cs'[j]? =some p->Rep X w N g (cells'.getD j undef) p):=by
 intro parts
 induction parts with
 |nil=>
  intro us cs cs' cells hm _ hl hc hf
  cases us with
  |nil=>simp [fill] at hf;subst hf;exact ⟨cells,rfl,hl,hc⟩
  |cons=>simp at hm
 |cons ip parts ih=>
  intro us cs cs' cells hm hp hl hc hf
  obtain ⟨i,p⟩:=ip
  cases us with
  |nil=>simp at hm
  |cons iu us=>
   obtain ⟨i',u⟩:=iu
   simp only [ek,List.cons.injEq] at hm
   obtain ⟨rfl,hm⟩:=hm
   simp only [fill] at hf
   split at hf
   case h_2=>cases hf
   rename_i off ft ho
   cases hb:fq V ft p&&a7 (off+p.cs.length) cs.length with
   |false=>grind
   |true=>
    rw [hb] at hf
    simp only [aj,Nat.ble_eq] at hb
    obtain ⟨hft,hle⟩:=hb
    simp only [cond_true] at hf
    obtain ⟨row,aO,h1,h2,h3,_⟩:=nE hft (hp 0 i p u rfl rfl)
    have hplace:=hpl i off ft row ho aO
    simp only [Instr.fill,hplace]
    rw [if_neg (by grind),uO off u.cells cells (by omega)]
    refine ih us _ cs' _ hm (fun j i p u h1 h2=>hp (j+1) i p u (by grind) (by grind)) ?_ (fun j q hq=> ?_) hf
    ·grind [ec]
    ·have:=yR (X:=X) (w:=w) (N:=N) (g:=g) (cur:=cells.toList) (us:=u.cells.toList) (by grind) (by grind) hle (fun j p hp=>by
       simp_all) (fun j p hp=>by
       simp_all) j q hq
     simp_all
theorem p_ (h:Sim X c a.tmps w σ g D) {ty':Nat->TypeId}: ∀ {parts:List (Nat×Operand)} {k:List (Nat×PV U)->M U} {fp:List Loc}
  (hr:(lb V ty' parts k).Rel K σ fp r τ gp),∃vs fp',vs.map (·.1)=parts.map (·.1)/\(∀ (j:Nat) i p u,vs[j]? =some (i,p)->(parts.map fun (i,x)=>(i,a.eval x))[j]? =some (i,u)->Rep X w (c.N g D) g u p)/\(k vs).Rel K σ fp' r τ gp:=by
 intro parts
 induction parts with
 |nil=>intro k fp hr;exact ⟨[],fp,rfl,by simp,hr⟩
 |cons ix parts ih=>
  intro k fp hr
  obtain ⟨i,x⟩:=ix
  obtain ⟨v,fp',hv,hr'⟩:=bv h hr
  grind
theorem FB {α β:Type} {f:α->Option β}: ∀ {l:List α} {ps:List β},l.mapM f=some ps-> ∀ (i:Nat) x,l[i]? =some x-> ∃y,f x=some y/\ps[i]? =some y:=by
 intro l
 induction l with
 |nil=>simp
 |cons b l ih=>
  intro ps h i x hx
  simp only [List.mapM_cons,Option.bind_eq_bind,Option.pure_def] at h
  cases hb:f b with
  |none=>grind
  |some y=>
   cases hr:l.mapM f<;>grind
theorem FZ {t:TypeId} {parts:Array (Nat×Operand)} (hd:aW c.nt ⟨dst,.build t parts,ty,pos,after,gd⟩=true) (h:Sim X c a.tmps w σ g D) (hr:(bh V S ⟨dst,.build t parts,ty,pos,after,gd⟩).Rel K σ fp r τ gp)
  (ht:Then X c a r τ next Q):(⟨dst,.build t parts,ty,pos,after,gd⟩:Oper).wp P a w next Q:=by
 simp only [bh] at hr
 split at hr
 case h_2=>exact hr.elim
 rename_i z of0 hz hf0
 obtain ⟨vs,fp1,hl,hvs,hr1⟩:=p_ h hr
 split at hr1
 case h_2=>exact hr1.elim
 rename_i cs hcs
 unfold Env.zero at hz
 split at hz
 case h_2=>cases hz
 rename_i row aO
 injection hz with hz
 subst hz
 have hT:=X.ty t row aO
 obtain ⟨i,zv,hi,hs,hzero,hzs⟩:=hT.info
 obtain ⟨hzl,hrep⟩:=zq X (w:=w) (N:=c.N g D) (g:=g) hzs
 have go: ∀aS,(∀i off ft row,V.foff t i=some (off,ft)->V.ty ft=some row->aS i=some (off,row.size))->(∀cells,Instr.fill aS zv.cells (parts.toList.map fun (i,x)=>(i,a.eval x))=some cells->P.built t (parts.map fun (i,x)=>(i,a.eval x)).toList=some cells)->
   (⟨dst,.build t parts,ty,pos,after,gd⟩:Oper).wp P a w next Q:=by
  intro aS hpl hb
  obtain ⟨cells,hf,hsz,hrp⟩:=Di (X:=X) (w:=w) (N:=c.N g D) (g:=g) hpl vs (parts.toList.map fun (i,x)=>(i,a.eval x)) row.zero cs zv.cells (by simp_all) hvs (by omega) (fun j p hp=>by
   simp_all) hcs
  exact aX hd ht h (v:= .agg cells) (by grind [execOp,bu,bq,b9,run_build]) (.agg cells cs hsz hrp) hr1
 have hfo: ∀i off ft,V.foff t i=some (off,ft)->row.fields[i]? =some (off,ft):=by
  grind [Env.foff]
 cases harr:row.arr with
 |none=>
  obtain ⟨off0,ft0⟩:=of0
  obtain ⟨fs,_,_,hu,_⟩:=hT.fields harr 0 off0 ft0 (hfo _ _ _ hf0)
  obtain ⟨ps,hps⟩:=hT.places fs hu
  refine go (ps.toArray[·]?) (fun i off ft row' ho hrow'=> ?_) (fun cells hf=> ?_)
  ·obtain ⟨fs',f,q,hu',hf,h1,h2,h3,_⟩:=hT.fields harr i off ft (hfo _ _ _ ho)
   rw [hu] at hu'
   injection hu' with hu'
   injection hu' with hu'
   subst hu'
   obtain ⟨y,hy,hy2⟩:=FB hps i f (by grind)
   obtain ⟨i2,z2,hi2,hs2,_⟩:=(X.ty ft row' hrow').info
   grind
  simp_all [Program.built]
 |some n=>
  obtain ⟨e,q,hu,hq,hq1,hn,hfl⟩:=hT.arr n harr
  refine go (fun i=>some (i*q.size,q.size)) (fun i off ft row' ho hrow'=> ?_) (fun cells hf=> ?_)
  ·obtain ⟨_,h2,h3⟩:=hfl i off ft (hfo _ _ _ ho)
   obtain ⟨i2,z2,hi2,hs2,_⟩:=(X.ty ft row' hrow').info
   grind
  ·simp only [Program.built,hi,hu,hzero,hq]
   simpa using hf
end
section
variable {U:Uni} {V:Env U} {P:Program} {X:Link V P} {K:bA U} {S:Side U} {c:Ctx} {a:Act} {w:World} {σ:St U} {g:Gh U} {D:Nat->Option Nat}
variable {next:Act->World->Prop} {Q:Exit->Act->World->Prop} {r:MR U} {τ:St U} {fp gp:List Loc} {N:az}
variable {dst:Option Tmp} {ty:TypeId} {pos:String} {after:Array Edge} {gd:Option (Nat×Bool)}
theorem C9 {tm:Array Value} {e:U.E}: ∀ (vs:List (Nat×PV U)) {n0:Nat} {σ:St U} {D:Nat->Option Nat} {k:List (U.El e)->M U} {fp:List Loc} (us:Nat->Value),Sim X c tm w σ g D->
  (∀ (j:Nat) i p,vs[j]? =some (i,p)->Rep X w (c.N g D) g (us j) p)->(nx V e n0 vs k).Rel K σ fp r τ gp->
  ∃l σ' D' fp',(k l).Rel K σ' fp' r τ gp/\Frozen X c tm w g σ D σ' D'/\l.length=vs.length/\(∀ (j:Nat) i p,vs[j]? =some (i,p)->i=n0+j)/\
   ∀ (j:Nat) x,l[j]? =some x->(us j).cells.size=X.esize e/\ ∀ (k:Nat) p,(V.cells e x)[k]? =some p->Rep X w (c.N g D') g ((us j).cells.getD k undef) p:=by
 intro vs
 induction vs with
 |nil=>intro n0 σ D k fp us h _ hr;exact ⟨[],_,_,_,hr,.refl h,rfl,by simp,by simp⟩
 |cons ip vs ih=>
  intro n0 σ D k fp us h hv hr
  obtain ⟨i,p⟩:=ip
  unfold nx at hr
  cases hi:ac i n0 with
  |false=>rw [hi] at hr;exact hr.elim
  |true=>
   rw [hi] at hr
   simp only [cond_true] at hr
   obtain ⟨q,σ1,D1,fp1,hr1,hF,hq,_⟩:=gC p h (hv 0 i p rfl) hr
   split at hr1
   case h_2=>exact hr1.elim
   rename_i x hx
   obtain ⟨l,σ2,D2,fp2,hr2,hF2,hl,hidx,hcells⟩:=ih (fun j=>us (j+1)) hF.sim (fun j i p hp=>hF.rep (hv (j+1) i p (by grind))) hr1
   obtain ⟨t1,t2,t3⟩:=X.toEl _ _ _ hx
   obtain ⟨s1,s2⟩:=rE hq t2
   refine ⟨x::l,σ2,D2,fp2,hr2,hF.trans hF2,by simp [hl],fun j i' p' hp=> ?_,fun j y hy=> ?_⟩
   ·cases j with
    |zero=>simp at hp;obtain ⟨rfl,_⟩:=hp;simpa using hi
    |succ j=>grind
   ·cases j with
    |zero=>
     simp at hy;subst hy
     refine ⟨by omega,fun k p hp=>hF2.rep ?_⟩
     have hk:k<q.cs.length:=by
      have:=(bS.1 hp).1;rw [X.len] at this;omega
     obtain ⟨q',hq',hless⟩:=t3 k _ (bP hk)
     rw [hp] at hq'
     injection hq' with hq'
     subst hq'
     exact (s2 k _ (bP hk)).less hless
    |succ j=>grind
theorem He {tm:Array Value} {m:Nat}: ∀ (vs:List (Nat×PV U)) {n0:Nat} {σ:St U} {D:Nat->Option Nat} {k:List (PV U)->M U} {fp:List Loc} (us:Nat->Value),Sim X c tm w σ g D->
  (∀ (j:Nat) i p,vs[j]? =some (i,p)->Rep X w (c.N g D) g (us j) p)->(oA m n0 vs k).Rel K σ fp r τ gp->
  ∃cs σ' D' fp',(k cs).Rel K σ' fp' r τ gp/\Frozen X c tm w g σ D σ' D'/\cs.length=vs.length*m/\(∀ (j:Nat) i p,vs[j]? =some (i,p)->i=n0+j)/\(∀j,j<vs.length->(us j).cells.size=m)/\
   ∀ (j k:Nat) p,k<m->cs[j*m+k]? =some p->Rep X w (c.N g D') g ((us j).cells.getD k undef) p:=by
 intro vs
 induction vs with
 |nil=>intro n0 σ D k fp us h _ hr;exact ⟨[],_,_,_,hr,.refl h,by simp,by simp,by simp,by simp⟩
 |cons ip vs ih=>
  intro n0 σ D k fp us h hv hr
  obtain ⟨i,p⟩:=ip
  unfold oA at hr
  cases hi:ac i n0 with
  |false=>rw [hi] at hr;exact hr.elim
  |true=>
   rw [hi] at hr
   simp only [cond_true] at hr
   obtain ⟨q,σ1,D1,fp1,hr1,hF,hq,_⟩:=gC p h (hv 0 i p rfl) hr
   cases hc:ac q.cs.length m&&(q.cs.all PV.isCell&&PV.noObjL q.cs) with
   |false=>rw [hc] at hr1;exact hr1.elim
   |true=>
    rw [hc] at hr1
    simp only [cond_true] at hr1
    simp only [aj,Nat.beq_eq] at hc
    obtain ⟨l,σ2,D2,fp2,hr2,hF2,hl,hidx,hsz,hcells⟩:=ih (fun j=>us (j+1)) hF.sim (fun j i p hp=>hF.rep (hv (j+1) i p (by grind))) hr1
    obtain ⟨s1,s2⟩:=rE hq hc.2.1
    have hm:q.cs.length=m:=hc.1
    refine ⟨q.cs++l,σ2,D2,fp2,hr2,hF.trans hF2,by rw [List.length_append,hl,hm,List.length_cons,Nat.succ_mul,Nat.add_comm],fun j i' p' hp=> ?_,fun j hj=> ?_,fun j k p hk hp=> ?_⟩
    ·cases j with
     |zero=>simp at hp;obtain ⟨rfl,_⟩:=hp;simpa using hi
     |succ j=>grind
    ·cases j with
     |zero=>omega
     |succ j=>exact hsz j (by simpa using hj)
    ·cases j with
     |zero=>
      rw [Nat.zero_mul,b8,List.getElem?_append_left (by omega)] at hp
      exact hF2.rep (s2 k p hp)
     |succ j=>
      refine hcells j k p hk ?_
      rw [fJ (by rw [hm,Nat.succ_mul];omega),hm,Nat.succ_mul] at hp
      rwa [show j*m+m+k-m=j*m+k by omega] at hp
theorem uN (size:Nat): ∀ (us:List (Nat×Value)) (n0:Nat) (cells:Array Value),(n0+us.length)*size<=cells.size->(∀ (j:Nat) i u,us[j]? =some (i,u)->i=n0+j/\u.cells.size=size)->
  ∃cells',Instr.fill (fun i=>some (i*size,size)) cells us=some cells'/\cells'.size=cells.size/\(∀q,q<n0*size->cells'[q]? =cells[q]?)/\
   ∀ (j:Nat) i u,us[j]? =some (i,u)-> ∀k,k<size->cells'[(n0+j)*size+k]? =u.cells[k]? :=by
 intro us
 induction us with
 |nil=>intro n0 cells _ _;exact ⟨cells,rfl,rfl,fun _ _=>rfl,by simp⟩
 |cons iu us ih=>
  intro n0 cells hle hu
  obtain ⟨i,u⟩:=iu
  obtain ⟨hi,hs⟩:=hu 0 i u rfl
  have hi':i=n0:=by omega
  subst hi'
  have hb:(i+1)*size<=cells.size:=dI (fK _ (by simp)) hle
  have hb':i*size+size<=cells.size:=by grind
  simp only [Instr.fill]
  rw [if_neg (by grind),uO _ _ _ (by omega)]
  have hlen:(cells.toList.take (i*size)++(u.cells.toList++cells.toList.drop (i*size+u.cells.toList.length))).length=cells.size:=by
   grind
  obtain ⟨cells',hf,hsz,hold,hnew⟩:=ih (i+1) (cells.toList.take (i*size)++(u.cells.toList++cells.toList.drop (i*size+u.cells.toList.length))).toArray (by
    grind) (fun j i' u' hj=>by
    have:=hu (j+1) i' u' (by grind);omega)
  refine ⟨cells',hf,by grind,fun q hq=> ?_,fun j i' u' hj k hk=> ?_⟩
  ·grind
  ·cases j<;>grind
theorem F0 {t:TypeId} {n:Nat} {parts:Array (Nat×Operand)} (hd:aW c.nt ⟨dst,.buildSlice t n parts,ty,pos,after,gd⟩=true) (h:Sim X c a.tmps w σ g D) (hr:(bh V S ⟨dst,.buildSlice t n parts,ty,pos,after,gd⟩).Rel K σ fp r τ gp)
  (ht:Then X c a r τ next Q):(⟨dst,.buildSlice t n parts,ty,pos,after,gd⟩:Oper).wp P a w next Q:=by
 simp only [bh] at hr
 split at hr
 case h_2=>exact hr.elim
 rename_i e he
 cases hpsl:S.psl (dst.getD 0) with
 |true=>
  rw [hpsl] at hr
  simp only [cond_true] at hr
  obtain ⟨vs,fp1,hl,hvs,hr1⟩:=p_ h hr
  have hlen:vs.length=parts.toList.length:=by simpa using congrArg dH hl
  obtain ⟨cs,σ1,D1,fp2,hr2,hF,hcl,hidx,hus,hcells⟩:=He (X:=X) (w:=w) (g:=g) vs (fun j=>((parts.toList.map fun (i,x)=>(i,a.eval x)).getD j (0,undef)).2) h (fun j i p hp=>by
   have hj:j<parts.toList.length:=by grind
   have hpi:(parts.toList.map fun (i,x)=>(i,a.eval x))[j]? =some (i,a.eval (parts.toList[j]).2):=by
    have h1:(vs.map (·.1))[j]? =some i:=by simp [hp]
    grind
   grind) hr1
  rw [X.esz] at hr2 hcl hus hcells
  cases hb:ac vs.length n&&a7 n 1000 with
  |false=>rw [hb] at hr2;exact hr2.elim
  |true=>
   rw [hb] at hr2
   simp only [aj,Nat.ble_eq] at hb
   obtain ⟨hln,hn⟩:=hb
   have hln':vs.length=n:=by simpa using hln
   have hu:P.underlying t=some (.slice (X.etid e)):=by
    unfold Env.ety at he
    split at he
    ·rename_i row aO;exact (X.ty t row aO).elem _ he
    grind
   obtain ⟨i,hi,hz,hsi,_⟩:=X.einfo e
   have hbig: ¬n*X.esize e>2^24:=by
    have h1:=X.small e
    have:n*X.esize e<=1000*1000:=Nat.mul_le_mul hn h1
    omega
   obtain ⟨z,hz1,hz2⟩: ∃z:Array Value,(n*X.esize e=0->z= #[])/\(n*X.esize e≠0->z=(X.ezero e).cells):=by
    by_cases h0:n*X.esize e=0
    ·exact ⟨#[],fun _=>rfl,fun h=>absurd h0 h⟩
    ·exact ⟨_,fun h=>absurd h h0,fun _=>rfl⟩
   obtain ⟨cells,hf,hsz,_,hnew⟩:=uN (X.esize e) (parts.toList.map fun (i,x)=>(i,a.eval x)) 0 ((Array.range (n*X.esize e)).map (z[· %z.size]!)) (by grind) (fun j i u hj=>by
    have hjl:j<vs.length:=by grind
    have h1:=hidx j _ _ (bP hjl)
    have h2:(vs.map (·.1))[j]? =some (vs[j]).1:=by simp [hjl]
    rw [hl] at h2
    have h3:(parts.toList.map (·.1))[j]? =some i:=by
     grind
    rw [h3] at h2
    injection h2 with h2
    refine ⟨h2.trans h1, ?_⟩
    have:=hus j hjl
    grind)
   have hsz':cells.size=n*X.esize e:=by grind
   have hs:=hF.sim.alloc (.cells cells (X.etid e))
   have hps:=X.epos e
   refine aX hd ht hs (v:= .slice (some ⟨w.heap.size,0,none⟩) n n) ?_ (.psl _ n n (X.esize e) cs true (fun q=>cells.getD q undef) (by rw [hcl,hln']) (b7 _) (fun _=>rfl) (fun q p hp=> ?_) fun q p hp=> ?_) hr2
   ·by_cases h0:n*X.esize e=0
    ·have hz':=hz1 h0
     subst hz'
     simp only [execOp,Instr.buildSlice,bu,run_underlying hu,bq,gO X e,if_neg hbig,if_pos h0,b9,Array.toList_map,hf,newRow,run_newObj,World.alloc_eq,Sem.run_ite]
    ·have hz':=hz2 h0
     subst hz'
     have hzv:(zeroValue (X.etid e)).run P w= .ok (X.ezero e) w:=by simp [zeroValue,typeInfo,hi,hz]
     simp only [execOp,Instr.buildSlice,bu,run_underlying hu,bq,gO X e,if_neg hbig,if_neg h0,hzv,b9,Array.toList_map,hf,newRow,run_newObj,World.alloc_eq,Sem.run_ite]
   ·have hb:q<cells.size:=by
     have:=(bS.1 hp).1
     rw [hcl,hln'] at this
     omega
    refine ⟨_,rfl, ?_, ?_⟩
    ·rw [Addr.add_lit',b8,World.cell?_alloc_new]
     simp [ct,hb]
    ·rintro (hn'|⟨id,hid⟩|⟨q,hq⟩)
     ·have h1:=(c.n0 _ _ hn').1
      have h2:=hF.sim.ext.size
      grind
     ·have:=(hF.sim.new id _ hid).1;grind
     ·have:=(hF.sim.dnew q _ hq).1;grind
   ·have hql:q<n*X.esize e:=by
     have:=(bS.1 hp).1
     rw [hcl,hln'] at this
     omega
    have hqe:q/X.esize e*X.esize e+q%X.esize e=q:=by rw [Nat.mul_comm];exact Nat.div_add_mod _ _
    have hk:q%X.esize e<X.esize e:=Nat.mod_lt _ hps
    have hj:q/X.esize e<n:=(Nat.div_lt_iff_lt_mul hps).2 hql
    have hjv:q/X.esize e<parts.toList.length:=by omega
    have hjp:(parts.toList.map fun (i,x)=>(i,a.eval x))[q/X.esize e]? =some ((parts.toList[q/X.esize e]).1,a.eval (parts.toList[q/X.esize e]).2):=by
     grind
    have h1:=hnew _ _ _ hjp _ hk
    have h4:=hcells _ _ p hk (by rw [hqe];exact hp)
    simp only [List.getD_eq_getElem?_getD,hjp,Option.getD_some] at h4
    have h5:cells.getD q undef=(a.eval (parts.toList[q/X.esize e]).2).cells.getD (q%X.esize e) undef:=by
     rw [b8,hqe] at h1
     simp only [ct,h1]
    rw [h5]
    exact h4.mono X (fun b o hlt _=>kI w _ b o hlt) (fun _ _ _ h=>h) (Gh.le.refl g)
 |false=>
 rw [hpsl] at hr
 simp only [cond_false] at hr
 obtain ⟨vs,fp1,hl,hvs,hr1⟩:=p_ h hr
 have hlen:vs.length=parts.toList.length:=by simpa using congrArg dH hl
 obtain ⟨l,σ1,D1,fp2,hr2,hF,hll,hidx,hcells⟩:=C9 (X:=X) (w:=w) (g:=g) vs (fun j=>((parts.toList.map fun (i,x)=>(i,a.eval x)).getD j (0,undef)).2) h (fun j i p hp=>by
  have hj:j<parts.toList.length:=by grind
  have hpi:(parts.toList.map fun (i,x)=>(i,a.eval x))[j]? =some (i,a.eval (parts.toList[j]).2):=by
   have h1:(vs.map (·.1))[j]? =some i:=by simp [hp]
   grind
  grind) hr1
 cases hb:ac l.length n&&a7 n 1000 with
 |false=>rw [hb] at hr2;exact hr2.elim
 |true=>
  rw [hb] at hr2
  simp only [aj,Nat.ble_eq] at hb
  obtain ⟨hln,hn⟩:=hb
  have hln':l.length=n:=by simpa using hln
  have hu:P.underlying t=some (.slice (X.etid e)):=by
   unfold Env.ety at he
   split at he
   ·rename_i row aO;exact (X.ty t row aO).elem _ he
   grind
  obtain ⟨i,hi,hz,hsi,_⟩:=X.einfo e
  have hbig: ¬n*X.esize e>2^24:=by
   have h1:=X.small e
   have:n*X.esize e<=1000*1000:=Nat.mul_le_mul hn h1
   omega
  obtain ⟨z,hz1,hz2⟩: ∃z:Array Value,(n*X.esize e=0->z= #[])/\(n*X.esize e≠0->z=(X.ezero e).cells):=by
   by_cases h0:n*X.esize e=0
   ·exact ⟨#[],fun _=>rfl,fun h=>absurd h0 h⟩
   ·exact ⟨_,fun h=>absurd h h0,fun _=>rfl⟩
  obtain ⟨cells,hf,hsz,_,hnew⟩:=uN (X.esize e) (parts.toList.map fun (i,x)=>(i,a.eval x)) 0 ((Array.range (n*X.esize e)).map (z[· %z.size]!)) (by grind) (fun j i u hj=>by
   have hjl:j<vs.length:=by grind
   have h1:=hidx j _ _ (bP hjl)
   have h2:(vs.map (·.1))[j]? =some (vs[j]).1:=by simp [hjl]
   rw [hl] at h2
   have h3:(parts.toList.map (·.1))[j]? =some i:=by
    grind
   rw [h3] at h2
   injection h2 with h2
   refine ⟨h2.trans h1, ?_⟩
   have hjl':j<l.length:=by omega
   have:=(hcells j _ (bP hjl')).1
   grind)
  have hsz':cells.size=n*X.esize e:=by grind
  have hs:=hF.sim.alloc (.cells cells (X.etid e))
  refine aX hd ht hs (v:= .slice (some ⟨w.heap.size,0,none⟩) n n) ?_ (.sl _ n n e l .full (fun j k=>cells.getD (j*X.esize e+k) undef) hln' (b7 _) rfl (fun j x hx k p hp=> ?_) fun j x hx k p hp=> ?_) hr2
  ·by_cases h0:n*X.esize e=0
   ·have hz':=hz1 h0
    subst hz'
    simp only [execOp,Instr.buildSlice,bu,run_underlying hu,bq,gO X e,if_neg hbig,if_pos h0,b9,Array.toList_map,hf,newRow,run_newObj,World.alloc_eq,Sem.run_ite]
   ·have hz':=hz2 h0
    subst hz'
    have hzv:(zeroValue (X.etid e)).run P w= .ok (X.ezero e) w:=by simp [zeroValue,typeInfo,hi,hz]
    simp only [execOp,Instr.buildSlice,bu,run_underlying hu,bq,gO X e,if_neg hbig,if_neg h0,hzv,b9,Array.toList_map,hf,newRow,run_newObj,World.alloc_eq,Sem.run_ite]
  ·have hk:k<X.esize e:=by have:=(bS.1 hp).1;rw [X.len] at this;exact this
   have hj:j<n:=by grind
   have hb:j*X.esize e+k<cells.size:=by
    grind
   refine ⟨_,rfl, ?_, ?_⟩
   ·rw [Addr.add_lit',b8,World.cell?_alloc_new]
    simp [ct,hb]
   ·rintro (hn'|⟨id,hid⟩|⟨q,hq⟩)
    ·have h1:=(c.n0 _ _ hn').1
     have h2:=hF.sim.ext.size
     grind
    ·have:=(hF.sim.new id _ hid).1;grind
    ·have:=(hF.sim.dnew q _ hq).1;grind
  ·have hk:k<X.esize e:=by have:=(bS.1 hp).1;rw [X.len] at this;exact this
   have hjv:j<parts.toList.length:=by grind
   have hjp:(parts.toList.map fun (i,x)=>(i,a.eval x))[j]? =some ((parts.toList[j]).1,a.eval (parts.toList[j]).2):=by
    grind
   have h1:=hnew j _ _ hjp k hk
   obtain ⟨h2,h3⟩:=hcells j x hx
   have h4:=h3 k p hp
   simp only [List.getD_eq_getElem?_getD,hjp,Option.getD_some] at h2 h4
   have h5:cells.getD (j*X.esize e+k) undef=(a.eval (parts.toList[j]).2).cells.getD k undef:=by
    rw [b8] at h1
    simp only [ct,h1]
   rw [h5]
   exact h4.mono X (fun b o hlt _=>kI w _ b o hlt) (fun _ _ _ h=>h) (Gh.le.refl g)
end
end Go.Proofs.YtlidjlacmpaefaaGreatDoor.PI
