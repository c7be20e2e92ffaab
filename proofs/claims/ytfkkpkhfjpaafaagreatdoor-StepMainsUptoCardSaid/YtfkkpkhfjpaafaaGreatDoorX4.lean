/- Part 4 of a proof: the sources, with their names and remarks, lie in wip/. -/
import Derived.Test.YtfkkpkhfjpaafaaGreatDoorX3
import Derived.Test.YtfkkpkhfjpaafaaGreatDoorRows
import Derived.ProofKit
import Derived.OpenShut
import Derived.ChangeArms
import Derived.Deep.Slices
import Derived.Shelf.SlSortCmp.NoneTotal
import Derived.Ground.SlsfProg
import Derived.Test.YtfkkpkhfjpaafaaGreatDoorProg
import Derived.Shelf.Spec.TrailingZeros
import Derived.RangeFuncBound
import Derived.RangeFuncLeaves
import Derived.RangeFuncOwn
import Derived.OwnWalkIn
import Derived.TacticsInMore
import Derived.LoopNIn
import Derived.LoopIn
import Derived.Maps.RangeWalk
import Derived.Maps.AppendAt
import Derived.Test.YtfkkpkhfjpaafaaGreatDoorCards
import Derived.Test.YtfkkpkhfjpaafaaGreatDoorTie
import Derived.WalkKit
import Derived.ReadAgain
import Derived.Deep.DeepHandedRow
import Derived.Lib.LaidTab
namespace Go.Proofs.YtfkkpkhfjpaafaaGreatDoor
open Go PI
set_option linter.unusedVariables false
set_option maxRecDepth 100000
noncomputable section
def qU {S:Type} (k:Nat) (ret:Tm×Bool×Int→Option S) (t:Tm) (defs:List Df):Option S:=
 aa k (sX k defs (ac t)) fun r3=>
 ab (r3.2) (
 ret ((ac r3.1),true,0)) (
 ret ((Tm.mk 0 0 ByteArray.empty [] [] []),false,0))
noncomputable def oh {S:Type} (k:Nat) (ret:Tm×Bool×Int→Option S) (t:Tm) (defs:List Df):Nat→Option S
 |0=> .none
 |_+1=>qU k ret t defs
def lJ {S:Type} (k:Nat) (ret:Tm×Bool×Int→Option S) (t:Tm) (defs:List Df) (J1:Option S) (rec0:Int→Int→ByteArray→(List Cl)→(List Tm)→(List (Br Tm))→Int→Int→Bool→Option S) (b8_0 b8_1:Int) (b8_2:ByteArray) (b8_3:List Cl) (b8_4:List Tm) (b8_5:List (Br Tm)) (v10 v20:Int) (told9:Bool):Option S:=
 ab (decide ((v20:Int)<4)) (
 ab (v20==0) (
  aa k (rp k (ac t)) fun r2=>
  ab (r2.2.1) (
  ab (r2.2.1) (
   ret ((ac r2.1),r2.2.1,r2.2.2)) (
   ab (!(r2.2.2==0)) (
   ret ((ac r2.1),r2.2.1,r2.2.2)) (
      J1))) (
  ab (!(r2.2.2==0)) (
   ab (r2.2.1) (
   ret ((ac r2.1),r2.2.1,r2.2.2)) (
   ab (!(r2.2.2==0)) (
    ret ((ac r2.1),r2.2.1,r2.2.2)) (
       J1))) (
     rec0 r2.1.kind r2.1.n r2.1.name r2.1.r r2.1.kids r2.1.sys r2.2.2 (IntKind.wrap .i64 (v20+1)) r2.2.1))) (
  ab (v20==1) (
  aa k (sr k (ac t)) fun r4=>
  ab (r4.2.1) (
   ab (r4.2.1) (
   ret ((ac r4.1),r4.2.1,r4.2.2)) (
   ab (!(r4.2.2==0)) (
    ret ((ac r4.1),r4.2.1,r4.2.2)) (
       J1))) (
   ab (!(r4.2.2==0)) (
   ab (r4.2.1) (
    ret ((ac r4.1),r4.2.1,r4.2.2)) (
    ab (!(r4.2.2==0)) (
    ret ((ac r4.1),r4.2.1,r4.2.2)) (
        J1))) (
      rec0 r4.1.kind r4.1.n r4.1.name r4.1.r r4.1.kids r4.1.sys r4.2.2 (IntKind.wrap .i64 (v20+1)) r4.2.1))) (
  ab (v20==2) (
   aa k (td k (ac t)) fun r5=>
   ab (r5.2.1) (
   ab (r5.2.1) (
    ret ((ac r5.1),r5.2.1,r5.2.2)) (
    ab (!(r5.2.2==0)) (
    ret ((ac r5.1),r5.2.1,r5.2.2)) (
        J1))) (
   ab (!(r5.2.2==0)) (
    ab (r5.2.1) (
    ret ((ac r5.1),r5.2.1,r5.2.2)) (
    ab (!(r5.2.2==0)) (
     ret ((ac r5.1),r5.2.1,r5.2.2)) (
         J1))) (
       rec0 r5.1.kind r5.1.n r5.1.name r5.1.r r5.1.kids r5.1.sys r5.2.2 (IntKind.wrap .i64 (v20+1)) r5.2.1))) (
   ab (v20==3) (
   aa k (so k (ac t)) fun r6=>
   ab (r6.2.2.2.1) (
    ab (r6.2.2.2.1) (
    ret ((Tm.mk r6.1 r6.2.1 r6.2.2.1 [] [] []),r6.2.2.2.1,r6.2.2.2.2)) (
    ab (!(r6.2.2.2.2==0)) (
     ret ((Tm.mk r6.1 r6.2.1 r6.2.2.1 [] [] []),r6.2.2.2.1,r6.2.2.2.2)) (
         J1))) (
    ab (!(r6.2.2.2.2==0)) (
    ab (r6.2.2.2.1) (
     ret ((Tm.mk r6.1 r6.2.1 r6.2.2.1 [] [] []),r6.2.2.2.1,r6.2.2.2.2)) (
     ab (!(r6.2.2.2.2==0)) (
     ret ((Tm.mk r6.1 r6.2.1 r6.2.2.1 [] [] []),r6.2.2.2.1,r6.2.2.2.2)) (
          J1))) (
        rec0 r6.1 r6.2.1 r6.2.2.1 [] [] [] r6.2.2.2.2 (IntKind.wrap .i64 (v20+1)) r6.2.2.2.1))) (
   ab (told9) (
    ab (told9) (
    ret ((Tm.mk b8_0 b8_1 b8_2 b8_3 b8_4 b8_5),told9,v10)) (
    ab (!(v10==0)) (
     ret ((Tm.mk b8_0 b8_1 b8_2 b8_3 b8_4 b8_5),told9,v10)) (
         J1))) (
    ab (!(v10==0)) (
    ab (told9) (
     ret ((Tm.mk b8_0 b8_1 b8_2 b8_3 b8_4 b8_5),told9,v10)) (
     ab (!(v10==0)) (
     ret ((Tm.mk b8_0 b8_1 b8_2 b8_3 b8_4 b8_5),told9,v10)) (
          J1))) (
        rec0 b8_0 b8_1 b8_2 b8_3 b8_4 b8_5 v10 (IntKind.wrap .i64 (v20+1)) told9))))))) (
 ab (told9) (
  ret ((Tm.mk b8_0 b8_1 b8_2 b8_3 b8_4 b8_5),told9,v10)) (
  ab (!(v10==0)) (
  ret ((Tm.mk b8_0 b8_1 b8_2 b8_3 b8_4 b8_5),told9,v10)) (
    J1)))
noncomputable def og {S:Type} (k:Nat) (ret:Tm×Bool×Int→Option S) (t:Tm) (defs:List Df):Nat→Int→Int→ByteArray→(List Cl)→(List Tm)→(List (Br Tm))→Int→Int→Bool→Option S
 |0=>fun _ _ _ _ _ _ _ _ _=> .none
 |m+1=>fun b8_0 b8_1 b8_2 b8_3 b8_4 b8_5 v10 v20 told9=>lJ k ret t defs (oh k ret t defs k) (og k ret t defs m) b8_0 b8_1 b8_2 b8_3 b8_4 b8_5 v10 v20 told9
def zD {S:Type} (k:Nat) (ret:Tm×Bool×Int→Option S) (J0:Int→Int→ByteArray→(List Cl)→(List Tm)→(List (Br Tm))→Int→Int→Bool→Option S) (defs:List Df) (t:Tm):Option S:=
 aa k (ba k (ac t)) fun r1=>
 ab (!(r1==0)) (
 ret ((Tm.mk 0 0 ByteArray.empty [] [] []),false,r1)) (
  J0 0 0 ByteArray.empty [] [] [] 0 0 false)
noncomputable def iF {S:Type} (k:Nat) (defs:List Df) (t:Tm) (ret:Tm×Bool×Int→Option S):Option S:=zD k ret (fun b8_0 b8_1 b8_2 b8_3 b8_4 b8_5 v10 v20 told9=>og k ret t defs k b8_0 b8_1 b8_2 b8_3 b8_4 b8_5 v10 v20 told9) defs t
def K_ {S:Type} (k:Nat) (ret:Bool→Option S):Option S:=
 aa k (d_ k 3 ([]:List Tm)) fun r1=>
 aa k (iF k [(Df.mk (ByteArray.mk #[111,110,101]) (Tm.mk r1.1 r1.2.1 r1.2.2.1 [] r1.2.2.2 []))] (Tm.mk 2 0 (ByteArray.mk #[111,110,101]) [] [] [])) fun r2=>
 aa k (d_ k 1 ([]:List Tm)) fun r3=>
 aa k (d_ k 5 [(Tm.mk r3.1 r3.2.1 r3.2.2.1 [] r3.2.2.2 [])]) fun r4=>
 aa k (d_ k 20 ([]:List Tm)) fun r5=>
 aa k (d_ k 6 [(Tm.mk r4.1 r4.2.1 r4.2.2.1 [] r4.2.2.2 []),(Tm.mk r5.1 r5.2.1 r5.2.2.1 [] r5.2.2.2 [])]) fun r6=>
 aa k (iF k ([]:List Df) (Tm.mk r6.1 r6.2.1 r6.2.2.1 [] r6.2.2.2 [])) fun r7=>
 aa k (iF k ([]:List Df) (Tm.mk 2 0 (ByteArray.mk #[111,110,101]) [] [] [])) fun r8=>
 ab (r2.2.1) (
 ab (r2.2.2==0) (
  ab (r2.1.kind==3) (
  ab (r7.2.1) (
   ab (r7.2.2==0) (
   ab (r7.1.kind==20) (
    ab (!r8.2.1) (
    ab (r8.2.2==0) (
     aa k (d_ k 22 [(Tm.mk 2 0 (ByteArray.mk #[111,110,101]) [] [] []),(Tm.mk 2 0 (ByteArray.mk #[111,110,101]) [] [] []),(Tm.mk 2 0 (ByteArray.mk #[111,110,101]) [] [] []),(Tm.mk 2 0 (ByteArray.mk #[111,110,101]) [] [] [])]) fun r9=>
     aa k (fN k (Tm.mk r9.1 r9.2.1 r9.2.2.1 [] r9.2.2.2 [])) fun r10=>
     ret (r10==3)) (
     ret false)) (
    ret false)) (
    ret false)) (
   ret false)) (
   ret false)) (
  ret false)) (
  ret false)) (
 ret false)
noncomputable def iw {S:Type} (k:Nat) (ret:Bool→Option S):Option S:=K_ k ret
def zo {S:Type} (k:Nat) (ret:Bool→Option S) (t:Tm):Option S:=
 aa k (fN k (ac t)) fun r1=>
 aa k (iE k (ac t)) fun r2=>
 ab (r1==r2) (
 aa k (iw k) fun r3=>
 ret r3) (
 ret false)
noncomputable def mq {S:Type} (k:Nat) (t:Tm) (ret:Bool→Option S):Option S:=zo k ret t
end
end Go.Proofs.YtfkkpkhfjpaafaaGreatDoor
namespace Go.Proofs.YtfkkpkhfjpaafaaGreatDoor
open Go PI
set_option linter.unusedVariables false
set_option linter.unusedSimpArgs false
abbrev lh:Nat:=16777215
variable {S:Type} {k:Nat}
end Go.Proofs.YtfkkpkhfjpaafaaGreatDoor
namespace Go.Proofs.YtfkkpkhfjpaafaaGreatDoor
open Go PI
set_option linter.unusedVariables false
set_option linter.unusedSimpArgs false
set_option maxRecDepth 20000
variable {S:Type} {k:Nat}
def D_ (m:Nat):List Nat:=(List.range 24).filter m.testBit
def ints (l:List Nat):List Int:=l.map Int.ofNat
end Go.Proofs.YtfkkpkhfjpaafaaGreatDoor
namespace Go.Proofs.YtfkkpkhfjpaafaaGreatDoor
open Go PI
set_option linter.unusedVariables false
set_option linter.unusedSimpArgs false
set_option maxRecDepth 20000
variable {S:Type} {k:Nat}
end Go.Proofs.YtfkkpkhfjpaafaaGreatDoor
namespace Go.Proofs.YtfkkpkhfjpaafaaGreatDoor
open Go PI
set_option linter.unusedVariables false
set_option linter.unusedSimpArgs false
set_option maxRecDepth 20000
variable {S:Type} {k:Nat}
def eF (n:Int):Prop:= -9223372036854775808≤n∧n<9223372036854775808
def yr (s:Int):Bool:=decide (s<16777216)
def Mr (s i:Int):Int:=if 0≤i∧i<24 then (((s.toNat&&&lh)|||2^i.toNat:Nat):Int) else ((s.toNat&&&lh:Nat):Int)
theorem U32.of {n:Nat} (h:n<4294967296):U32 (n:Int):=⟨by omega,by omega⟩
theorem Cl.ext' {a b:Cl} (h1:a.pos=b.pos) (h2:a.neg=b.neg):a=b:=by cases a<;>simp_all
def lj (c:Cl):Prop:=U32 c.pos∧U32 c.neg
def cx (f:List Cl):Prop:= ∀c∈f,lj c
def yq (c:Cl):Bool:=yr c.pos&&yr c.neg
def RC (c:Cl):Prop:=(0≤c.pos∧c.pos<16777216)∧(0≤c.neg∧c.neg<16777216)
theorem RC.ok {c:Cl} (h:RC c):lj c:=⟨⟨h.1.1,by have:=h.1.2;omega⟩,⟨h.2.1,by have:=h.2.2;omega⟩⟩
def vS (a b:Int):Int:=((a.toNat|||b.toNat:Nat):Int)
def vI (a b:Cl):Cl:=⟨vS a.pos b.pos,vS a.neg b.neg⟩
def DZ (a b:Cl):Bool:=decide (vI a b=a)
def Ek (c:Cl):Bool:= !decide (c.pos.toNat&&&c.neg.toNat=0)
open Classical in
end Go.Proofs.YtfkkpkhfjpaafaaGreatDoor
namespace Go.Proofs.YtfkkpkhfjpaafaaGreatDoor
open Go PI
set_option linter.unusedVariables false
set_option linter.unusedSimpArgs false
set_option maxRecDepth 20000
variable {S:Type} {k:Nat}
def HV (a b:Cl):Bool:=decide (a.pos<b.pos)||(a.pos==b.pos&&decide (a.neg<b.neg))
def uf (x:Cl):List Cl→List Cl
 |[]=>[x]
 |y::r=>if HV y x then y::uf x r else if y=x then y::r else x::y::r
def H9 (l:List Cl) (c:Cl):Bool:=l.all fun d=>decide (d=c)|| !DZ c d
def GX (o l:List Cl):List Cl:=l.foldl (fun o c=>uf c o) o
def oS (l:List Cl):List Cl:=GX [] (l.filter (H9 l))
def jv (l:List Cl):List Cl×Int:=if l.all yq then if (oS l).length>64 then ([],3) else (oS l,0) else ([],2)
theorem Ei {S:Type} {p:Prop} [Decidable p] (h:p) (f:Unit→Option S):Option.bind (aI p) f=f ():=rg p h f
end Go.Proofs.YtfkkpkhfjpaafaaGreatDoor
namespace Go.Proofs.YtfkkpkhfjpaafaaGreatDoor
open Go PI
set_option linter.unusedVariables false
set_option linter.unusedSimpArgs false
set_option maxRecDepth 20000
variable {S:Type} {k:Nat}
def kf (f:List Cl):Bool:=decide (jv f=(f,0))
end Go.Proofs.YtfkkpkhfjpaafaaGreatDoor
namespace Go.Proofs.YtfkkpkhfjpaafaaGreatDoor
open Go PI
set_option linter.unusedVariables false
set_option linter.unusedSimpArgs false
set_option maxRecDepth 20000
variable {S:Type} {k:Nat}
def RF (f:List Cl):Prop:=jv f=(f,0)∧cx f
theorem pH {f:List Cl} (h:cx f):kf f=true↔RF f:=by grind [kf,RF]
theorem HU {l o:List Cl} (h:jv l=(o,0)):o=oS l∧l.all yq=true∧o.length≤64:=by
 grind [jv]
theorem RF.len {f:List Cl} (h:RF f):f.length≤64:=(HU h.1).2.2
theorem Ju:RF []:=⟨rfl,fun c hc=>by cases hc⟩
def meets (f g:List Cl):List Cl:=f.flatMap fun a=>g.map (vI a)
theorem RF.lt {f:List Cl} (h:RF f):f.length<2147483648:=by have:=h.len;omega
end Go.Proofs.YtfkkpkhfjpaafaaGreatDoor
namespace Go.Proofs.YtfkkpkhfjpaafaaGreatDoor
open Go PI
set_option linter.unusedVariables false
set_option linter.unusedSimpArgs false
set_option maxRecDepth 20000
variable {S:Type} {k:Nat}
def pl (i:Int):Cl:=⟨Mr 0 i,0⟩
end Go.Proofs.YtfkkpkhfjpaafaaGreatDoor
namespace Go.Proofs.YtfkkpkhfjpaafaaGreatDoor
open Go PI
set_option linter.unusedVariables false
set_option linter.unusedSimpArgs false
set_option maxRecDepth 20000
variable {S:Type} {k:Nat}
end Go.Proofs.YtfkkpkhfjpaafaaGreatDoor
namespace Go.Proofs.YtfkkpkhfjpaafaaGreatDoor
open Go PI
set_option linter.unusedVariables false
set_option linter.unusedSimpArgs false
set_option maxRecDepth 20000
variable {S:Type} {k:Nat}
def IL (s:Nat) (f:List Cl):Nat:=f.foldl (fun s c=>s|||(c.pos.toNat|||c.neg.toNat)) s
def Ev (f:List Cl):Nat:=IL 0 f&&&lh
def oB (f:List Cl) (d:Int):Bool:=decide (∀i∈D_ (Ev f),(i:Int)<d)
end Go.Proofs.YtfkkpkhfjpaafaaGreatDoor
namespace Go.Proofs.YtfkkpkhfjpaafaaGreatDoor
open Go PI
set_option linter.unusedVariables false
set_option linter.unusedSimpArgs false
set_option maxRecDepth 20000
variable {S:Type} {k:Nat}
def kg (f:List Cl):Bool:=kf f&&f.all fun c=> !Ek c
end Go.Proofs.YtfkkpkhfjpaafaaGreatDoor
namespace Go.Proofs.YtfkkpkhfjpaafaaGreatDoor
open Go PI
set_option linter.unusedVariables false
set_option linter.unusedSimpArgs false
mutual
def bj:Tm→Nat
 | .mk _ _ _ _ ks sys=>1+bz ks+ct sys
def bz:List Tm→Nat
 |[]=>0
 |t::l=>bj t+bz l
def ct:List (Br Tm)→Nat
 |[]=>0
 |b::l=>fj b+ct l
def fj:Br Tm→Nat
 | .mk _ ks=>bz ks
end
mutual
def b8:Tm→Nat
 | .mk _ _ _ _ ks sys=>max (ef ks) (fP sys)+1
def ef:List Tm→Nat
 |[]=>0
 |t::l=>max (b8 t) (ef l)
def fP:List (Br Tm)→Nat
 |[]=>0
 |b::l=>max (mN b) (fP l)
def mN:Br Tm→Nat
 | .mk _ ks=>ef ks
end
theorem yM (b:Br Tm):fj b=bz b.kids:=by cases b;rw [fj]
theorem Ep (b:Br Tm):mN b=ef b.kids:=by cases b;rw [mN]
theorem JU (t:Tm):1≤bj t:=by cases t;rw [bj];omega
theorem yN: ∀ {l:List Tm} {x:Tm},x∈l→bj x≤bz l:=by
 intro l
 induction l<;>grind [bz]
theorem JS: ∀ {l:List (Br Tm)} {b:Br Tm},b∈l→bz b.kids≤ct l:=by
 intro l
 induction l<;>grind [ct,yM]
theorem zR {Q:Tm→Prop} (h: ∀kd n nm r ks sys,(∀x∈ks,Q x)→(∀b∈sys,∀x∈b.kids,Q x)→Q (.mk kd n nm r ks sys)) (t:Tm):Q t:=by
 have: ∀m t,bj t≤m→Q t:=by
  intro m
  induction m with
  |zero=>grind [JU]
  |succ m ih=>
   intro t ht
   cases t with
   |mk kd n nm r ks sys=>
    rw [bj] at ht
    refine h _ _ _ _ _ _ (fun x hx=>ih x ?_) fun b hb x hx=>ih x ?_
    ·have:=yN hx;omega
    ·have:=JS hb;have:=yN hx;omega
 exact this _ t (Nat.le_refl _)
def kidsT:List Int:=[-1,0,0,0,2,1,2,2,2,1,1,3,1,3,2,2,1,1,1,0,0,0,4,1,0,0,1,5,2]
def ci (kd:Int):Int:=if kd<0∨kd>28 then-1 else kidsT.getD kd.toNat 0
def D9 (kd i:Int):Int:=if (i=1∧(kd=4∨kd=7))∨(i=0∧(kd=5∨kd=22∨kd=27)) then 1 else 0
def D8 (kd i:Int):Int:=if i=0∧(kd=11∨kd=12∨kd=14) then 1 else 0
def oZ (kd:Int):Int:=if kd=16 then 2 else if kd=15∨kd=17∨kd=18 then 1 else 0
def oT (kd:Int):Int:=if kd=15 then 1 else 0
def uI (c:UInt8):Bool:=(decide (97≤c.toNat)&&decide (c.toNat≤122))||(decide (65≤c.toNat)&&decide (c.toNat≤90))||decide (c.toNat=95)
def Eu (c:UInt8):Bool:=decide (48≤c.toNat)&&decide (c.toNat≤57)
def H8:List UInt8→Bool
 |[]=>false
 |c::l=>uI c&&l.all fun d=>uI d||Eu d
def lY (kd dims:Int) (b:Br Tm):Bool:=decide ((b.kids.length:Int)=oZ kd)&&(kg b.face&&oB b.face dims)
def vT (vars dims:Int):Tm→Bool
 | .mk kd n nm r ks sys=>
  (decide (ci kd=ks.length)&&(decide (kd=1∨n=0)&&(decide (kd=2∨nm.size=0)&&decide (oZ kd=0→sys.length=0))))&&
  (if kd=1 then decide (r.length=0)&&(decide (0≤n)&&decide (vars<0∨n<vars))
   else if kd=2 then decide (r.length=0)&&H8 nm.data.toList
   else if kd=13∨kd=21∨kd=26 then kf r&&oB r dims
   else if kd=14 then kg r&&oB r dims
   else sys.all (lY kd dims)&&decide (r.length=0))
def Mq (vars v:Int):Int:=if vars<0 then vars else vars+v
mutual
def df (bd:Bool) (vars dims:Int):Tm→Bool
 | .mk kd n nm r ks sys=> !(bd&&decide (dims>24))&&(vT vars dims (.mk kd n nm r ks sys)&&(g8 bd vars dims kd 0 ks&&g_ bd vars dims kd sys))
def g8 (bd:Bool) (vars dims kd:Int) (i:Nat):List Tm→Bool
 |[]=>true
 |t::l=>df bd (Mq vars (D9 kd i)) (dims+D8 kd i) t&&g8 bd vars dims kd (i+1) l
def g_ (bd:Bool) (vars dims kd:Int):List (Br Tm)→Bool
 |[]=>true
 |b::l=>qb bd vars dims kd b&&g_ bd vars dims kd l
def qb (bd:Bool) (vars dims kd:Int):Br Tm→Bool
 | .mk _ ks=>g9 bd vars dims kd ks
def g9 (bd:Bool) (vars dims kd:Int):List Tm→Bool
 |[]=>true
 |t::l=>df bd vars (dims+oT kd) t&&g9 bd vars dims kd l
end
def m_ (t:Tm):Int:=if b8 t>200 then 62 else if bj t>20000 then 221 else if df false (-1) 24 t then 0 else 100
mutual
def OkT:Tm→Prop
 | .mk kd n nm r ks sys=>(eF kd∧eF n∧nm.size<1073741824∧cx r∧r.length<1073741824∧ks.length<1073741824∧sys.length<1073741824)∧dZ ks∧dv sys
def dZ:List Tm→Prop
 |[]=>True
 |t::l=>OkT t∧dZ l
def dv:List (Br Tm)→Prop
 |[]=>True
 |b::l=>li b∧dv l
def li:Br Tm→Prop
 | .mk f ks=>(cx f∧f.length<1073741824∧ks.length<1073741824)∧dZ ks
end
theorem oV: ∀ {l:List Tm},dZ l↔ ∀t∈l,OkT t:=by
 intro l
 induction l<;>grind [dZ]
theorem vO {b:Br Tm}:li b↔(cx b.face∧b.face.length<1073741824∧b.kids.length<1073741824)∧ ∀t∈b.kids,OkT t:=by
 cases b;rw [li,oV]
theorem If: ∀ {l:List (Br Tm)},dv l↔ ∀b∈l,(cx b.face∧b.face.length<1073741824∧b.kids.length<1073741824)∧ ∀t∈b.kids,OkT t:=by
 intro l
 induction l<;>grind [dv,vO]
theorem OkT.node {kd n nm r ks sys} (h:OkT (.mk kd n nm r ks sys)):eF kd∧eF n∧nm.size<1073741824∧cx r∧r.length<1073741824∧ks.length<1073741824∧sys.length<1073741824:=by grind [OkT]
theorem OkT.kid {kd n nm r ks sys x} (h:OkT (.mk kd n nm r ks sys)) (hx:x∈ks):OkT x:=by grind [OkT,oV]
theorem OkT.br {kd n nm r ks sys b} (h:OkT (.mk kd n nm r ks sys)) (hb:b∈sys):(cx b.face∧b.face.length<1073741824∧b.kids.length<1073741824)∧ ∀t∈b.kids,OkT t:=by grind [OkT,If]
theorem DM {bd:Bool} {vars dims kd:Int}: ∀ {l:List Tm},g9 bd vars dims kd l=l.all (df bd vars (dims+oT kd)):=by
 intro l
 induction l<;>grind [g9]
theorem DN {bd:Bool} {vars dims kd:Int}: ∀ {l:List (Br Tm)},g_ bd vars dims kd l=l.all fun b=>b.kids.all (df bd vars (dims+oT kd)):=by
 intro l
 induction l with
 |nil=>rfl
 |cons b l ih=>cases b;simp_all [g_,qb,DM]
end Go.Proofs.YtfkkpkhfjpaafaaGreatDoor
namespace Go.Proofs.YtfkkpkhfjpaafaaGreatDoor
open Go PI
set_option linter.unusedVariables false
set_option linter.unusedSimpArgs false
set_option maxRecDepth 100000
section
variable {H:Type} {enc:TypeId×Value→H} {w:World} {base:Nat} {spare:Nat→Bool} {held:Bool} {o:Obj} {N:ai} {g:Gh UU}
noncomputable abbrev c6 (enc:TypeId×Value→H) (w:World) (base:Nat) (spare:Nat→Bool) (held:Bool):=DataW.trod enc Tryz.prog w base spare held
def eG (o:Obj) (w:World) (N:ai) (g:Gh UU) (e:ET) (x:EL e) (cs:List Value):Prop:= ∀ (k:Nat) (p:PU),(a8 e x)[k]? =some p→ ∃v,cs[k]? =some v∧Rep (LL o) w N g v p
theorem l6 {l:List (DataW H)}:l.length≤Rows.uptoBulkAll l:=by
 induction l with
 |nil=>simp [Rows.uptoBulkAll]
 |cons x r ih=>
  have:1≤Rows.uptoBulk x:=by
   cases x with
   |lit l=>cases l<;>simp [Rows.uptoBulk]
   |_=>simp [Rows.uptoBulk]
  simp only [Rows.uptoBulkAll,List.length_cons];omega
theorem build {α β:Type} {R:Nat→β→α→Prop}: ∀ (elems:List β) (s:Nat),(∀i d,elems[i]? =some d→ ∃x,R (s+i) d x)→ ∃l:List α,l.length=elems.length∧ ∀i d,elems[i]? =some d→ ∃x,l[i]? =some x∧R (s+i) d x:=by
 intro elems
 induction elems with
 |nil=>intro s h;exact ⟨[],rfl,fun i d h=>by simp at h⟩
 |cons d r ih=>
  intro s h
  obtain ⟨x,hx⟩:=h 0 d rfl
  obtain ⟨l,hl,hr⟩:=ih (s+1) fun i d' hd=>by
   obtain ⟨x,hx⟩:=h (i+1) d' (by simpa using hd)
   exact ⟨x,by rw [show s+1+i=s+(i+1) by omega];exact hx⟩
  refine ⟨x::l,by simp [hl],fun i d' hd=> ?_⟩
  cases i with
  |zero=>injection hd with hd;subst hd;exact ⟨x,rfl,hx⟩
  |succ i=>
   obtain ⟨y,hy,hr⟩:=hr i d' (by simpa using hd)
   exact ⟨y,by simpa using hy,by rw [show s+(i+1)=s+1+i by omega];exact hr⟩
theorem oW (hN: ∀b o,¬N b o) {e:ET} {tS tE:TypeId} (ht:Tryz.prog.underlying tS=some (.slice tE)) (hc:Tryz.prog.cellsOf tE=eU e) {Q:EL e→DataW H→Prop} {n:Nat} {cs:List Value} {d:DataW H} {pl:List MemPlace}
  (hel: ∀ (cs:List Value) (d:DataW H) (pl:List MemPlace),c6 enc w base spare held n tE cs=some (d,pl)→ ∃x:EL e,eG o w N g e x cs∧Q x d) (h:c6 enc w base spare held (n+1) tS cs=some (d,pl)):
  ∃ (v:Value) (l:List (EL e)) (ds:List (DataW H)),cs=[v]∧Rep (LL o) w N g v (.sl (U:=UU) e l .none)∧l.length=ds.length∧(∀ (i:Nat) (x:EL e) (y:DataW H),l[i]? =some x→ds[i]? =some y→Q x y)∧Rows.uptoBulkAll ds+1≤Rows.uptoBulk d:=by
 rcases DataW.trod_slice ht h with ⟨rfl,hx⟩|⟨a,len,cap,elems,rest,m,hm,rfl,hx,hb,hl,hcp,hlen,hee,_,_⟩
 ·injection hx with hx _
  subst hx
  exact ⟨_,[],[],rfl,Rep.sl (X:=LL o) (N:=N) (g:=g) none 0 0 e (show List (EL e) from []) .none (fun _ _=>undef) rfl (Nat.le_refl _) trivial (fun j x hx=>by cases hx) (fun j x hx=>by cases hx),rfl,fun i x y h=>by simp at h,by simp [Rows.uptoBulkAll,Rows.uptoBulk]⟩
 ·obtain rfl:n=m:=by omega
  injection hx with hx _
  subst hx
  obtain ⟨l,hll,hlr⟩:=build (R:=fun i (y:DataW H×List MemPlace) (x:EL e)=> ∃cs',w.cells? base (a.add (i*Tryz.prog.cellsOf tE)) (Tryz.prog.cellsOf tE)=some cs'∧eG o w N g e x cs'∧Q x y.1) elems 0 fun i y hy=>by
   have hi:i<len:=by rw [←hlen];exact (List.getElem?_eq_some_iff.1 hy).1
   have:=hee i hi
   rw [hy] at this
   obtain ⟨cs',h1,h2⟩:=Option.bind_eq_some_iff.1 this
   obtain ⟨x,hx1,hx2⟩:=hel cs' y.1 y.2 h2
   exact ⟨x,cs',by simpa using h1,hx1,hx2⟩
  have hget: ∀ (j:Nat) (x:EL e),l[j]? =some x→ ∃ (y:DataW H×List MemPlace) (cs':List Value),elems[j]? =some y∧w.cells? base (a.add (j*Tryz.prog.cellsOf tE)) (Tryz.prog.cellsOf tE)=some cs'∧eG o w N g e x cs'∧Q x y.1:=fun j x hx=>by
   have hj:j<elems.length:=by rw [←hll];exact (List.getElem?_eq_some_iff.1 hx).1
   obtain ⟨x',hx',cs',h1,h2,h3⟩:=hlr j _ (List.getElem?_eq_getElem hj)
   rw [hx] at hx'
   injection hx' with hx'
   subst hx'
   exact ⟨_,cs',List.getElem?_eq_getElem hj,by simpa using h1,h2,h3⟩
  have hcell: ∀ (j:Nat) (x:EL e),l[j]? =some x→ ∀ (k:Nat) (p:PU),(a8 e x)[k]? =some p→ ∃v,w.cell? (a.add (j*(LL o).esize e+k))=some v∧Rep (LL o) w N g v p:=fun j x hx k p hp=>by
   obtain ⟨y,cs',_,h1,h2,_⟩:=hget j x hx
   obtain ⟨v,hv,hr⟩:=h2 k p hp
   obtain ⟨_,hl',hcs⟩:=World.cells?_some h1
   have hk:k<Tryz.prog.cellsOf tE:=by rw [←hl'];exact (List.getElem?_eq_some_iff.1 hv).1
   have:=hcs k hk
   rw [hv,Go.Deep.add_add,hc] at this
   exact ⟨v,this,hr⟩
  refine ⟨_,l,elems.map (·.1),rfl,Rep.sl (X:=LL o) (some a) len cap e l .none (fun j k=>(w.cell? (a.add (j*(LL o).esize e+k))).getD undef) (by rw [←hlen];exact hll) hl trivial (fun j x hx k p hp=> ?_) (fun j x hx k p hp=> ?_),by simpa using hll,fun i x y hx hy=> ?_,by simp [Rows.uptoBulk]⟩
  ·obtain ⟨v,hv,_⟩:=hcell j x hx k p hp
   exact ⟨a,rfl,by simp [hv],hN _ _⟩
  ·obtain ⟨v,hv,hr⟩:=hcell j x hx k p hp
   simp only [hv];exact hr
  ·obtain ⟨y',cs',h1,_,_,h3⟩:=hget i x hx
   have:y=y'.1:=by
    rw [List.getElem?_map,h1] at hy
    injection hy with hy;exact hy.symm
   subst this
   exact h3
theorem vQ {n:Nat} {cs:List Value} {d:DataW H} {pl:List MemPlace} (h:c6 enc w base spare held n 3 cs=some (d,pl)): ∃z,cs=[.int .i64 z]∧eF z:=by
 obtain ⟨z,rfl,_,hw⟩:=DataW.trod_int Tryz.underlying3 h
 refine ⟨z,rfl, ?_⟩
 simp [Lit.wf,IntKind.has] at hw
 have h1:IntKind.i64.min= -9223372036854775808:=rfl
 have h2:IntKind.i64.max=9223372036854775807:=rfl
 unfold eF
 omega
theorem vR {n:Nat} {cs:List Value} {d:DataW H} {pl:List MemPlace} (h:c6 enc w base spare held n 44 cs=some (d,pl)): ∃z,cs=[.int .u32 z]∧U32 z:=by
 obtain ⟨z,rfl,_,hw⟩:=DataW.trod_int Tryz.underlying44 h
 refine ⟨z,rfl, ?_⟩
 simp [Lit.wf,IntKind.has] at hw
 have h1:IntKind.u32.min=0:=rfl
 have h2:IntKind.u32.max=4294967295:=rfl
 unfold U32
 omega
def QC (c:Cl) (d:DataW H):Prop:=lj c
def QT (t:Tm) (d:DataW H):Prop:=bj t≤Rows.uptoBulk d∧(Rows.uptoBulk d<1073741824→OkT t)
def QB (b:Br Tm) (d:DataW H):Prop:=fj b≤Rows.uptoBulk d∧(Rows.uptoBulk d<1073741824→(cx b.face∧b.face.length<1073741824∧b.kids.length<1073741824)∧ ∀t∈b.kids,OkT t)
theorem IK {n:Nat} {cs:List Value} {d:DataW H} {pl:List MemPlace} (h:c6 enc w base spare held n 46 cs=some (d,pl)): ∃x:EL ET.C,eG o w N g ET.C x cs∧QC (show Cl from x) d:=by
 obtain ⟨xs,m,rfl,_,hl,hlen,hf⟩:=DataW.trod_struct Tryz.underlying46 h
 have hl2:cs.length=2:=hl.trans (by kernel_rfl)
 match cs,hl2,xs,hlen with
 |[a,b],_,[y0,y1],_=>
 have h0:=hf 0 _ rfl
 have h1:=hf 1 _ rfl
 have c44:Tryz.prog.cellsOf 44=1:=by kernel_rfl
 simp [c44] at h0 h1
 obtain ⟨z0,e0,k0⟩:=vR h0
 obtain ⟨z1,e1,k1⟩:=vR h1
 obtain rfl:a= .int .u32 z0:=by simpa using e0
 obtain rfl:b= .int .u32 z1:=by simpa using e1
 refine ⟨(⟨z0,z1⟩:Cl),fun k p hp=> ?_,⟨k0,k1⟩⟩
 match k,hp with
 |0,hp=>cases hp;exact ⟨_,rfl,.int _ _⟩
 |1,hp=>cases hp;exact ⟨_,rfl,.int _ _⟩
 |k+2,hp=>simp [a8] at hp
theorem J7 {l:List Tm} {ds:List (DataW H)} (hl:l.length=ds.length) (h: ∀ (i:Nat) (x:Tm) (y:DataW H),l[i]? =some x→ds[i]? =some y→QT x y):bz l≤Rows.uptoBulkAll ds∧(Rows.uptoBulkAll ds<1073741824→ ∀t∈l,OkT t):=by
 induction l generalizing ds with
 |nil=>rw [bz];exact ⟨Nat.zero_le _,fun _ t ht=>by cases ht⟩
 |cons t l ih=>
  cases ds with
  |nil=>cases hl
  |cons d ds=>
   obtain ⟨h1,h2⟩:=h 0 t d rfl rfl
   obtain ⟨i1,i2⟩:=ih (ds:=ds) (by simpa using hl) fun i x y hx hy=>h (i+1) x y (by simpa using hx) (by simpa using hy)
   rw [bz,Rows.uptoBulkAll]
   refine ⟨by omega,fun hb u hu=> ?_⟩
   rcases List.mem_cons.1 hu with rfl|hu
   ·exact h2 (by omega)
   ·exact i2 (by omega) u hu
theorem J8 {l:List (Br Tm)} {ds:List (DataW H)} (hl:l.length=ds.length) (h: ∀ (i:Nat) (x:Br Tm) (y:DataW H),l[i]? =some x→ds[i]? =some y→QB x y):ct l≤Rows.uptoBulkAll ds∧(Rows.uptoBulkAll ds<1073741824→dv l):=by
 induction l generalizing ds with
 |nil=>rw [ct,dv];exact ⟨Nat.zero_le _,fun _=>trivial⟩
 |cons t l ih=>
  cases ds with
  |nil=>cases hl
  |cons d ds=>
   obtain ⟨h1,h2⟩:=h 0 t d rfl rfl
   obtain ⟨i1,i2⟩:=ih (ds:=ds) (by simpa using hl) fun i x y hx hy=>h (i+1) x y (by simpa using hx) (by simpa using hy)
   rw [ct,Rows.uptoBulkAll,dv,vO]
   exact ⟨by omega,fun hb=>⟨h2 (by omega),i2 (by omega)⟩⟩
theorem vP (hN: ∀b o,¬N b o) {n:Nat} {cs:List Value} {d:DataW H} {pl:List MemPlace} (h:c6 enc w base spare held n 22 cs=some (d,pl)):
  ∃ (v:Value) (l:List Cl),cs=[v]∧Rep (LL o) w N g v (aA l .none)∧cx l∧l.length+1≤Rows.uptoBulk d:=by
 cases n with
 |zero=>cases h
 |succ n=>
  obtain ⟨v,l,ds,rfl,hr,hl,hq,hb⟩:=oW (e:=ET.C) (Q:=fun x d=>QC (show Cl from x) d) hN Tryz.underlying22 (by kernel_rfl) (fun cs d pl h=>IK h) h
  refine ⟨v,l,rfl,hr,fun c hc=> ?_, ?_⟩
  ·obtain ⟨i,hi⟩:=List.getElem?_of_mem hc
   have hlt:i<ds.length:=by rw [←hl];exact (List.getElem?_eq_some_iff.1 hi).1
   exact hq i c _ hi (List.getElem?_eq_getElem hlt)
  ·have:=l6 (l:=ds)
   have hl': @List.length Cl l=ds.length:=hl
   omega
theorem IJ (hN: ∀b o,¬N b o): ∀ (n:Nat),
  (∀ (cs:List Value) (d:DataW H) (pl:List MemPlace),c6 enc w base spare held n 26 cs=some (d,pl)→ ∃x:EL ET.T,eG o w N g ET.T x cs∧QT (show Tm from x) d)∧
  (∀ (cs:List Value) (d:DataW H) (pl:List MemPlace),c6 enc w base spare held n 40 cs=some (d,pl)→ ∃x:EL ET.B,eG o w N g ET.B x cs∧QB (show Br Tm from x) d)∧
  (∀ (cs:List Value) (d:DataW H) (pl:List MemPlace),c6 enc w base spare held n 23 cs=some (d,pl)→ ∃ (v:Value) (l:List Tm),cs=[v]∧Rep (LL o) w N g v (a7 l .none)∧bz l+1≤Rows.uptoBulk d∧l.length+1≤Rows.uptoBulk d∧(Rows.uptoBulk d<1073741824→ ∀t∈l,OkT t))∧
  (∀ (cs:List Value) (d:DataW H) (pl:List MemPlace),c6 enc w base spare held n 24 cs=some (d,pl)→ ∃ (v:Value) (l:List (Br Tm)),cs=[v]∧Rep (LL o) w N g v (aZ l .none)∧ct l+1≤Rows.uptoBulk d∧l.length+1≤Rows.uptoBulk d∧(Rows.uptoBulk d<1073741824→dv l)):=by
 intro n
 induction n with
 |zero=>exact ⟨fun cs d pl h=>(by cases h),fun cs d pl h=>(by cases h),fun cs d pl h=>(by cases h),fun cs d pl h=>(by cases h)⟩
 |succ n ih=>
 obtain ⟨iT,iB,iK,iS⟩:=ih
 have c3:Tryz.prog.cellsOf 3=1:=by kernel_rfl
 have c9:Tryz.prog.cellsOf 9=1:=by kernel_rfl
 have c22:Tryz.prog.cellsOf 22=1:=by kernel_rfl
 have c23:Tryz.prog.cellsOf 23=1:=by kernel_rfl
 have c24:Tryz.prog.cellsOf 24=1:=by kernel_rfl
 refine ⟨fun cs d pl h=> ?_,fun cs d pl h=> ?_,fun cs d pl h=> ?_,fun cs d pl h=> ?_⟩
 ·obtain ⟨xs,m,hm,hx,hl,hlen,hf⟩:=DataW.trod_struct Tryz.underlying26 h
  obtain rfl:n=m:=by omega
  injection hx with hx _
  subst hx
  have hl6:cs.length=6:=hl.trans (by kernel_rfl)
  match cs,hl6,xs,hlen with
  |[a0,a1,a2,a3,a4,a5],_,[y0,y1,y2,y3,y4,y5],_=>
  have h0:=hf 0 _ rfl
  have h1:=hf 1 _ rfl
  have h2:=hf 2 _ rfl
  have h3:=hf 3 _ rfl
  have h4:=hf 4 _ rfl
  have h5:=hf 5 _ rfl
  simp [c3,c9,c22,c23,c24] at h0 h1 h2 h3 h4 h5
  obtain ⟨z0,e0,k0⟩:=vQ h0
  obtain ⟨z1,e1,k1⟩:=vQ h1
  obtain ⟨s,e2,k2,_⟩:=DataW.trod_string Tryz.underlying9 h2
  obtain ⟨v3,l3,e3,r3,k3,m3⟩:=vP (o:=o) (g:=g) hN h3
  obtain ⟨v4,l4,e4,r4,k4,m4,q4⟩:=iK _ _ _ h4
  obtain ⟨v5,l5,e5,r5,k5,m5,q5⟩:=iS _ _ _ h5
  obtain rfl:a0= .int .i64 z0:=by simpa using e0
  obtain rfl:a1= .int .i64 z1:=by simpa using e1
  obtain rfl:a2= .string s:=by simpa using e2
  obtain rfl:a3=v3:=by simpa using e3
  obtain rfl:a4=v4:=by simpa using e4
  obtain rfl:a5=v5:=by simpa using e5
  have hs:s.size<Rows.uptoBulk y2.1:=by
   rw [k2]
   simp [Rows.uptoBulk]
  refine ⟨Tm.mk z0 z1 s l3 l4 l5,fun k p hp=> ?_, ?_,fun hb=> ?_⟩
  ·match k,hp with
   |0,hp=>cases hp;exact ⟨_,rfl,.int _ _⟩
   |1,hp=>cases hp;exact ⟨_,rfl,.int _ _⟩
   |2,hp=>cases hp;exact ⟨_,rfl,.str _⟩
   |3,hp=>cases hp;exact ⟨_,rfl,r3⟩
   |4,hp=>cases hp;exact ⟨_,rfl,r4⟩
   |5,hp=>cases hp;exact ⟨_,rfl,r5⟩
   |k+6,hp=>simp [a8] at hp
  ·show bj _≤_
   rw [bj]
   simp only [List.map_cons,List.map_nil,Rows.uptoBulk,Rows.uptoBulkAll]
   omega
  ·simp only [List.map_cons,List.map_nil,Rows.uptoBulk,Rows.uptoBulkAll] at hb
   show OkT _
   rw [OkT,oV]
   exact ⟨⟨k0,k1,by omega,k3,by omega,by omega,by omega⟩,q4 (by omega),q5 (by omega)⟩
 ·obtain ⟨xs,m,hm,hx,hl,hlen,hf⟩:=DataW.trod_struct Tryz.underlying40 h
  obtain rfl:n=m:=by omega
  injection hx with hx _
  subst hx
  have hl2:cs.length=2:=hl.trans (by kernel_rfl)
  match cs,hl2,xs,hlen with
  |[a0,a1],_,[y0,y1],_=>
  have h0:=hf 0 _ rfl
  have h1:=hf 1 _ rfl
  simp [c22,c23] at h0 h1
  obtain ⟨v3,l3,e3,r3,k3,m3⟩:=vP (o:=o) (g:=g) hN h0
  obtain ⟨v4,l4,e4,r4,k4,m4,q4⟩:=iK _ _ _ h1
  obtain rfl:a0=v3:=by simpa using e3
  obtain rfl:a1=v4:=by simpa using e4
  refine ⟨Br.mk l3 l4,fun k p hp=> ?_, ?_,fun hb=> ?_⟩
  ·match k,hp with
   |0,hp=>cases hp;exact ⟨_,rfl,r3⟩
   |1,hp=>cases hp;exact ⟨_,rfl,r4⟩
   |k+2,hp=>simp [a8] at hp
  ·show fj _≤_
   rw [fj]
   simp only [List.map_cons,List.map_nil,Rows.uptoBulk,Rows.uptoBulkAll]
   omega
  ·simp only [List.map_cons,List.map_nil,Rows.uptoBulk,Rows.uptoBulkAll] at hb
   exact ⟨⟨k3,by show l3.length<_;omega,by show l4.length<_;omega⟩,q4 (by omega)⟩
 ·obtain ⟨v,l,ds,rfl,hr,hl,hq,hb⟩:=oW (e:=ET.T) (Q:=fun x d=>QT (show Tm from x) d) hN Tryz.underlying23 (by kernel_rfl) iT h
  obtain ⟨s1,s2⟩:=J7 (l:=l) hl hq
  have:=l6 (l:=ds)
  have hl': @List.length Tm l=ds.length:=hl
  exact ⟨v,l,rfl,hr,by omega,by omega,fun hd=>s2 (by omega)⟩
 ·obtain ⟨v,l,ds,rfl,hr,hl,hq,hb⟩:=oW (e:=ET.B) (Q:=fun x d=>QB (show Br Tm from x) d) hN Tryz.underlying24 (by kernel_rfl) iB h
  obtain ⟨s1,s2⟩:=J8 (l:=l) hl hq
  have:=l6 (l:=ds)
  have hl': @List.length (Br Tm) l=ds.length:=hl
  exact ⟨v,l,rfl,hr,by omega,by omega,fun hd=>s2 (by omega)⟩
end
end Go.Proofs.YtfkkpkhfjpaafaaGreatDoor
namespace Go.Proofs
open Go.Shelf
def Tryz.sortCl_ren:Go.Shelf.Ren:=⟨fun|6=>170|15=>233|14=>232|28=>278|29=>279|20=>270|21=>271|22=>272|23=>273|24=>274|25=>275|26=>276|27=>277|46=>298|47=>299|48=>300|49=>301|50=>302|57=>314|n=>n,fun|22=>22|24=>46|25=>155|3=>3|39=>139|0=>0|53=>44|55=>190|4=>4|46=>209|45=>208|50=>213|5=>5|9=>9|66=>225|70=>229|76=>233|77=>58|n=>n,fun|n=>n⟩
theorem Tryz.sortCl:Go.Proofs.SlLaysF0.n6 Tryz.prog Tryz.sortCl_ren:={
 mixed:=by kernel_rfl
 f6:=⟨Tryz.f170.name,by decide,Tryz.func170.trans (congrArg some (by kernel_rfl))⟩
 f14:=⟨Tryz.f232.name,by decide,Tryz.func232.trans (congrArg some (by kernel_rfl))⟩
 f15:=Tryz.func233.trans (congrArg some (by kernel_rfl))
 f20:=⟨Tryz.f270.name,by decide,Tryz.func270.trans (congrArg some (by kernel_rfl))⟩
 f21:=⟨Tryz.f271.name,by decide,Tryz.func271.trans (congrArg some (by kernel_rfl))⟩
 f22:=⟨Tryz.f272.name,by decide,Tryz.func272.trans (congrArg some (by kernel_rfl))⟩
 f23:=⟨Tryz.f273.name,by decide,Tryz.func273.trans (congrArg some (by kernel_rfl))⟩
 f24:=⟨Tryz.f274.name,by decide,Tryz.func274.trans (congrArg some (by kernel_rfl))⟩
 f25:=⟨Tryz.f275.name,by decide,Tryz.func275.trans (congrArg some (by kernel_rfl))⟩
 f26:=⟨Tryz.f276.name,by decide,Tryz.func276.trans (congrArg some (by kernel_rfl))⟩
 f27:=⟨Tryz.f277.name,by decide,Tryz.func277.trans (congrArg some (by kernel_rfl))⟩
 f28:=Tryz.func278.trans (congrArg some (by kernel_rfl))
 f29:=Tryz.func279.trans (congrArg some (by kernel_rfl))
 f46:=⟨Tryz.f298.name,by decide,Tryz.func298.trans (congrArg some (by kernel_rfl))⟩
 f47:=Tryz.func299.trans (congrArg some (by kernel_rfl))
 f48:=Tryz.func300.trans (congrArg some (by kernel_rfl))
 f49:=⟨Tryz.f301.name,by decide,Tryz.func301.trans (congrArg some (by kernel_rfl))⟩
 f50:=⟨Tryz.f302.name,by decide,Tryz.func302.trans (congrArg some (by kernel_rfl))⟩
 f57:=⟨Tryz.f314.name,by decide,Tryz.func314.trans (congrArg some (by kernel_rfl))⟩
 t0:=Tryz.underlying0
 a0:=Tryz.isAgg0
 z0:=Tryz.sizeOf0
 v0:=Tryz.zeroValue0
 t3:=Tryz.underlying3
 a3:=Tryz.isAgg3
 z3:=Tryz.sizeOf3
 v3:=Tryz.zeroValue3
 t4:=Tryz.underlying4
 a4:=Tryz.isAgg4
 z4:=Tryz.sizeOf4
 v4:=Tryz.zeroValue4
 t5:=Tryz.underlying5
 a5:=Tryz.isAgg5
 z5:=Tryz.sizeOf5
 v5:=Tryz.zeroValue5
 t9:=Tryz.underlying9
 a9:=Tryz.isAgg9
 z9:=Tryz.sizeOf9
 v9:=Tryz.zeroValue9
 t22:=Tryz.underlying22
 a22:=Tryz.isAgg22
 z22:=Tryz.sizeOf22
 v22:=Tryz.zeroValue22
 t25:=Tryz.underlying155
 a25:=Tryz.isAgg155
 z25:=Tryz.sizeOf155
 v25:=Tryz.zeroValue155
 t39:=Tryz.underlying139
 a39:=Tryz.isAgg139
 z39:=Tryz.sizeOf139
 v39:=Tryz.zeroValue139
 t45:=Tryz.underlying208
 a45:=Tryz.isAgg208
 z45:=Tryz.sizeOf208
 v45:=Tryz.zeroValue208
 t46:=Tryz.underlying209
 a46:=Tryz.isAgg209
 z46:=Tryz.sizeOf209
 v46:=Tryz.zeroValue209
 t50:=Tryz.underlying213
 a50:=Tryz.isAgg213
 z50:=Tryz.sizeOf213
 v50:=Tryz.zeroValue213
 t53:=Tryz.underlying44
 a53:=Tryz.isAgg44
 z53:=Tryz.sizeOf44
 v53:=Tryz.zeroValue44
 t55:=Tryz.underlying190
 a55:=Tryz.isAgg190
 z55:=Tryz.sizeOf190
 v55:=Tryz.zeroValue190
 t66:=Tryz.underlying225
 a66:=Tryz.isAgg225
 z66:=Tryz.sizeOf225
 v66:=Tryz.zeroValue225
 t70:=Tryz.underlying229
 a70:=Tryz.isAgg229
 z70:=Tryz.sizeOf229
 v70:=Tryz.zeroValue229
 t76:=Tryz.underlying233
 a76:=Tryz.isAgg233
 z76:=Tryz.sizeOf233
 v76:=Tryz.zeroValue233
 t77:=Tryz.underlying58
 a77:=Tryz.isAgg58
 z77:=Tryz.sizeOf58
 v77:=Tryz.zeroValue58}
end Go.Proofs
namespace Go.Proofs.YtfkkpkhfjpaafaaGreatDoor
open Go PI
set_option linter.unusedVariables false
set_option maxRecDepth 100000
noncomputable section
def Gy:Nat:=313
def Gz:Nat:=48
noncomputable def pK {S:Type}:List PU→List (Box UU)→(Out UU→Option S)→Option S
 |[.sl .C y0 .none],[],κ=>jH y0 fun r=>κ (.ret (aA r .none) [])
 |_,_,_=> .none
noncomputable def pJ {S:Type}:List PU→List (Box UU)→(Out UU→Option S)→Option S
 |[.int .u32 y0],[],κ=>o0 y0 fun r=>κ (.ret (dP r .none) [])
 |_,_,_=> .none
end
end Go.Proofs.YtfkkpkhfjpaafaaGreatDoor
namespace Go.Proofs
open Go.Shelf Go.RowKit
set_option maxHeartbeats 1000000 in
theorem Tryz.tz32_core (x k idx:Nat) (w:World) (hx0:((x:Int)==0)=false)
  (key:bits BinOp.and IntKind.u32 (x:Int) (-(x:Int)%4294967296)*125613361%4294967296/134217728=(idx:Int))
  (hi:idx<32) (hk:k<32) (hcell:w.cell? ⟨0,idx,none⟩=some (.int .u8 k)):
  Calls Tryz.prog 323 #[.int .u32 x] w fun e w'=>e= .returned (.int .i64 k)∧w'=w:=by
 go_enter Tryz.func323,Tryz.ntmps323
 go_wp2_with (simp only [key])
 go_ret
 exact ⟨rfl,rfl⟩
theorem Tryz.tz32 (x:Nat) (hx:x<4294967296) (h0:x≠0) (w:World) (hT:TabAt 0 Lib.deBruijn32tab w):
  Calls Tryz.prog 323 #[.int .u32 x] w fun e w'=>e= .returned (.int .i64 (Lib.ctz 32 x))∧w'=w:=by
 obtain ⟨hlow,hk⟩:=Lib.lowest_bit 32 x h0 hx
 obtain ⟨hi,htab⟩:=Lib.deBruijn32_at _ hk
 have hcell:=hT _ hi
 rw [htab] at hcell
 exact Tryz.tz32_core x _ _ w (by simp;omega) (tz32_key x _ hx h0 hlow) hi hk hcell
end Go.Proofs
namespace Go.Proofs.YtfkkpkhfjpaafaaGreatDoor
open Go Go.Shelf Go.RowKit
attribute [local go_sem] Oper.semAt_some
def bk (s:Nat):List Nat:=(List.range 24).filter s.testBit
theorem Mp (s:Nat) (h0:s≠0) (h:s<16777216):bk s=Lib.ctz 32 s::bk (s&&&(s-1))∧s&&&(s-1)<s:=by
 obtain ⟨m,hm,hk⟩:=Lib.ctzFrom_spec 32 s (by omega) (by omega)
 have e:Lib.ctz 32 s=Lib.ctzFrom 32 s:=by simp [Lib.ctz,h0]
 rw [e]
 generalize Lib.ctzFrom 32 s=t at hm hk
 have hs:s=2^(t+1)*m+2^t:=by
  rw [hm,Nat.mul_add,Nat.mul_one,Nat.pow_succ,←Nat.mul_assoc]
 have hp:0<2^t:=Nat.two_pow_pos t
 have hp2:2^(t+1)=2^t*2:=Nat.pow_succ 2 t
 have hs1:s-1=2^(t+1)*m+(2^t-1):=by omega
 have b1: ∀j,s.testBit j=if j<t+1 then decide (t=j) else m.testBit (j-(t+1)):=fun j=>by
  rw [hs,Nat.testBit_two_pow_mul_add _ (by omega),Nat.testBit_two_pow]
 have b2: ∀j,(s-1).testBit j=if j<t+1 then decide (j<t) else m.testBit (j-(t+1)):=fun j=>by
  rw [hs1,Nat.testBit_two_pow_mul_add _ (by omega),Nat.testBit_two_pow_sub_one]
 have b3: ∀j,(s&&&(s-1)).testBit j=if j<t+1 then false else m.testBit (j-(t+1)):=fun j=>by
  rw [Nat.testBit_and,b1,b2]
  by_cases hj:j<t+1
  ·rw [if_pos hj,if_pos hj,if_pos hj]
   by_cases ht:t=j
   ·rw [decide_eq_true ht,decide_eq_false (by omega)];rfl
   ·rw [decide_eq_false ht];rfl
  ·rw [if_neg hj,if_neg hj,if_neg hj,Bool.and_self]
 have b4:s&&&(s-1)=2^(t+1)*m:=by
  apply Nat.eq_of_testBit_eq
  intro j
  rw [b3]
  have:2^(t+1)*m=2^(t+1)*m+0:=rfl
  rw [this,Nat.testBit_two_pow_mul_add _ (by omega),Nat.zero_testBit]
 have ht:t<24:=by
  apply Nat.lt_of_not_le
  intro hle
  have:2^24≤2^t:=Nat.pow_le_pow_right (by decide) hle
  have h24:(2:Nat)^24=16777216:=by decide
  omega
 refine ⟨?_,by omega⟩
 unfold bk
 have hr:List.range 24=List.range t++(t::(List.range (23-t)).map (fun j=>t+1+j)):=by
  apply List.ext_getElem
  ·simp;omega
  ·intro i h1 h2
   simp only [List.getElem_range]
   by_cases hi:i<t
   ·rw [List.getElem_append_left (by simpa using hi)];simp
   ·rw [List.getElem_append_right (by simpa using hi)]
    simp only [List.length_range]
    by_cases he:i=t
    ·subst he;simp
    ·obtain ⟨d,rfl⟩: ∃d,i=t+1+d:=⟨i-t-1,by omega⟩
     simp only [show t+1+d-t=d+1 by omega,List.getElem_cons_succ,List.getElem_map,List.getElem_range]
 rw [hr,List.filter_append,List.filter_append]
 have f1:(List.range t).filter s.testBit=[]:=List.filter_eq_nil_iff.2 fun j hj=>by
  have:=List.mem_range.1 hj
  rw [b1,if_pos (by omega),decide_eq_false (by omega)];decide
 have f2:(List.range t).filter (s&&&(s-1)).testBit=[]:=List.filter_eq_nil_iff.2 fun j hj=>by
  have:=List.mem_range.1 hj
  rw [b3,if_pos (by omega)];decide
 rw [f1,f2,List.nil_append,List.nil_append,List.filter_cons_of_pos (by rw [b1,if_pos (by omega)];simp),List.filter_cons_of_neg (by rw [b3,if_pos (by omega)];decide)]
 congr 1
 apply List.filter_congr
 intro j hj
 obtain ⟨d,_,rfl⟩:=List.mem_map.1 hj
 rw [b1,b3,if_neg (by omega),if_neg (by omega)]
theorem Mn:bk 0=[]:=List.filter_eq_nil_iff.2 fun j _=>by rw [Nat.zero_testBit];decide
theorem Mo (s:Nat):(bk s).length≤24:=by
 have:=List.length_filter_le s.testBit (List.range 24)
 simpa [bk] using this
theorem GS (s:Int) (w:World):Calls Tryz.prog 319 #[.int .u32 s] w fun e w'=>e= .returned (.func (.func 322) #[] #[.pointer (some ⟨w.heap.size,0,none⟩)])∧w'=w.alloc (.cells #[.int .u32 s] 44):=by
 go_enter Tryz.func319,Tryz.ntmps319
 go_wp2
 go_ret
 exact ⟨rfl,rfl⟩
def oD:Code:=(Code.region 3 #[{dst:=some 4,op:=Op.assign (Operand.tmp 7),type:=3,pos:= "mask.go:57",after:= #[],guard:=none}] false)
def oE:Code:=(Code.block 1 (Code.region 4 #[{dst:=some 8,op:=Op.load 101 (Operand.tmp 3),type:=101,pos:= "mask.go:58",after:= #[],guard:=none},{dst:=some 9,op:=Op.move (Operand.tmp 4),type:=3,pos:= "mask.go:58",after:= #[],guard:=none},{dst:=some 10,op:=Op.buildSlice 101 1 #[(0,Operand.tmp 9)],type:=101,pos:= "mask.go:58",after:= #[{on:=1,ground:=Ground.data}],guard:=none},{dst:=some 11,op:=Op.call {callee:=Callee.builtin Builtin.append,args:= #[Operand.tmp 8,Operand.tmp 10],argTypes:= #[101,101]},type:=101,pos:= "mask.go:58",after:= #[{on:=0,ground:=Ground.data},{on:=2,ground:=Ground.data}],guard:=none},{dst:=none,op:=Op.store 101 (Operand.tmp 3) (Operand.tmp 11),type:=0,pos:= "mask.go:58",after:= #[{on:=3,ground:=Ground.data},{on:=3,ground:=Ground.chain},{on:=0,ground:=Ground.phase},{on:=1,ground:=Ground.phase},{on:=2,ground:=Ground.phase},{on:=3,ground:=Ground.phase}],guard:=none}] false))
def cm (fn:FuncId) (s0:Int) (fv:Value) (Bo D:Nat) (st:LoopState) (pend:Option Code):Loop:=
 {state:=st,pending:=pend,fn,tmps:= #[.int .u32 s0,undef,.slice none 0 0,.pointer (some ⟨Bo,0,none⟩),undef,.int .u32 s0,fv,undef,undef,undef,undef,undef,undef],params:= #[7],assign:=oD,body:=oE,defers:=D}
def bt (x:Nat):Value:= .int .i64 (x:Int)
structure LsAt (w0:World) (fn:FuncId) (s0:Int) (fv:Value) (Bo l D:Nat) (ss:List Nat) (W:World):Prop where
 box: ∃v,W.heap[Bo]? =some (.cells #[v] 101 (0,0))∧W.ownsRow w0.heap.size 3 1 v ss.length (ss.map bt)
 L:W.heap[l]? =some (.loop (cm fn s0 fv Bo D .ready none))
 K:W.heap[D]? =some (.deferred (some []))
 below:Below w0.heap.size w0 W
theorem eZ (W:World) (l:Nat) (o:Obj):W.grownBy (W.putObj l o) (some l):=
 ⟨rfl,rfl,rfl,by simp,fun k _ hk=>World.putObj_heap_other (fun e=>hk (by rw [e]))⟩
theorem pR (W:World) (b:Nat) (v:Value):W.grownBy (W.setCell ⟨b,0,none⟩ v) (some b):=
 ⟨rfl,rfl,rfl,(KeepsWalks.setCell W _ v).size,fun k _ hk=>Below.heap_setCell _ _ _ k (fun e=>hk (by rw [e]))⟩
theorem dJ {W:World} {base:Nat} {e:TypeId} {size:Nat} {v:Value} {k:Nat} {xs:List Value} (h:W.ownsRow base e size v k xs) {j:Nat} {o:Obj} (hj:W.heap[j]? =some o) (hno: ∀cur,o≠ .cells cur e (0,0)):
  v.ownBlock=none∨v.ownBlock≠some j:=by
 rcases h.2 with ⟨rfl,_⟩|⟨g,cap,cur,rfl,_,hgb,_⟩
 ·exact .inl rfl
 ·refine .inr fun e'=> ?_
  have:g=j:=by simpa [Value.ownBlock] using e'
  subst this;rw [hgb] at hj;cases hj;exact hno cur rfl
theorem d4 {W:World} {B:Nat} {v:Value} {t:TypeId} (h:W.heap[B]? =some (.cells #[v] t (0,0))):W.cell? ⟨B,0,none⟩=some v∧W.frozen? ⟨B,0,none⟩=false:=by
 constructor<;>simp [World.cell?,World.frozen?,h]
theorem lX {W:World} {B:Nat} {v:Value} {t:TypeId} (v':Value) (h:W.heap[B]? =some (.cells #[v] t (0,0))):(W.setCell ⟨B,0,none⟩ v').heap[B]? =some (.cells #[v'] t (0,0)):=by
 obtain ⟨hlt,hk⟩:=Array.getElem?_eq_some_iff.1 h
 show (W.heap.modify B _)[B]? =_
 rw [Array.getElem?_eq_getElem (by rw [Array.size_modify];exact hlt),Array.getElem_modify_self,hk]
 rfl
theorem GU:(Tryz.prog.info? 3).map (fun i=>(i.zero,i.size,i.bytes))=some (some (.int .i64 0),1,8):=by kernel_rfl
set_option maxRecDepth 100000 in
set_option maxHeartbeats 2000000 in
theorem H2 (F:Fence) (m:Nat) (w0:World) (fn:FuncId) (hfn:F.fn fn) (s0:Int) (fv:Value) (Bo Bi l D:Nat) (hBl:Bo≠l) (hDl:D≠l) (hDB:D≠Bo) (hBiBo:Bi≠Bo) (hBil:Bi≠l) (h0B:w0.heap.size≤Bo) (h0l:w0.heap.size≤l)
  (ss:List Nat) (x:Nat) (c:Value) (W:World) (h:LsAt w0 fn s0 fv Bo l D ss W) (hi0:W.heap[Bi]? =some (.cells #[c] 44 (0,0))) (hlen:ss.length<24):
  YieldAt F m Tryz.prog l #[bt x] W fun e W'=>e= .returned (.bool true)∧LsAt w0 fn s0 fv Bo l D (ss++[x]) W'∧W'.heap[Bi]? =some (.cells #[c] 44 (0,0)):=by
 obtain ⟨i0,hi,hz0,hz1,hz2⟩:=info_parts GU
 obtain ⟨v,hv,hrow⟩:=h.box
 refine ⟨fn,#[.int .u32 s0,undef,.slice none 0 0,.pointer (some ⟨Bo,0,none⟩),undef,.int .u32 s0,fv,.int .i64 (x:Int),undef,undef,undef,undef,undef],oD,oE,by simpa [cm,bt] using run_yield (P:=Tryz.prog) (args:= #[bt x]) h.L rfl,roundIn_of_wpIn hfn ?_⟩
 have hl:l<W.heap.size:=(Array.getElem?_eq_some_iff.1 h.L).1
 have hbr:=run_beginRound (P:=Tryz.prog) h.L rfl
 obtain ⟨W2,hW2⟩: ∃W2,W.putObj l (.loop {cm fn s0 fv Bo D .ready none with state:= .busy})=W2:=⟨_,rfl⟩
 rw [hW2] at hbr
 have hg2:W.grownBy W2 (some l):=by rw [←hW2];exact eZ _ _ _
 have hv2:W2.heap[Bo]? =some (.cells #[v] 101 (0,0)):=by rw [←hW2];exact (World.putObj_heap_other hBl).trans hv
 have hi2:W2.heap[Bi]? =some (.cells #[c] 44 (0,0)):=by rw [←hW2];exact (World.putObj_heap_other hBil).trans hi0
 have hK2:W2.heap[D]? =some (.deferred (some [])):=by rw [←hW2];exact (World.putObj_heap_other hDl).trans h.K
 have hL2:W2.heap[l]? =some (.loop {cm fn s0 fv Bo D .ready none with state:= .busy}):=by rw [←hW2];exact World.putObj_heap_same hl
 have hrow2:W2.ownsRow w0.heap.size 3 1 v ss.length (ss.map bt):=hrow.kept hg2 (dJ hrow h.L (fun cur e=>by cases e))
 have hb2:Below w0.heap.size w0 W2:=h.below.grown hg2 h.below.size (fun k e=>by cases e;exact h0l)
 obtain ⟨hc2,hf2⟩:=d4 hv2
 have hBlt:Bo<W2.heap.size:=(Array.getElem?_eq_some_iff.1 hv2).1
 have hBilt:Bi<W2.heap.size:=(Array.getElem?_eq_some_iff.1 hi2).1
 have hl2:l<W2.heap.size:=(Array.getElem?_eq_some_iff.1 hL2).1
 have hDlt:D<W2.heap.size:=(Array.getElem?_eq_some_iff.1 hK2).1
 have ne_of: ∀ {j:Nat} {o:Obj},W2.heap[j]? =some o→(∀cur,o≠ .cells cur 3 (0,0))→some j≠v.ownBlock:=fun hj hno=>by
  rcases dJ hrow2 hj hno with e|e
  ·rw [e];simp
  ·exact fun e'=>e e'.symm
 clear hW2
 have hml:24≤maxLen:=by unfold maxLen;omega
 unfold oD
 gi_wp2_with (rw [Oper.semAt_eq _ _ _ (fun c h=>by cases h)];go_simp;try go_bits)
 unfold oE
 gi_wp2_with (first
  |(gi_at_builtin;refine wpListIn_append_own _ rfl _ _ 101 rfl w0.heap.size 3 i0 (.int .i64 0) 1 8 Tryz.underlying101 hi hz0 hz1 hz2 rfl (by decide) _ _ _ rfl (hrow2.alloc _) ⟨W2.heap.size,0,none⟩ 1 1 [bt x] rfl rfl (cell_one_new _ _ _) (by simp [Value.oneCell',bt]) (by omega) (by omega) (by have:=hb2.size;simp;omega) ?_;intro v' w3 hown' hg3 hnil3
    have hv3:w3.heap[Bo]? =some (.cells #[v] 101 (0,0)):=(hg3.block Bo (by simp;omega) (ne_of hv2 (fun cur e=>by cases e))).trans ((Below.heap_alloc _ _ Bo hBlt).trans hv2)
    obtain ⟨hc3,hf3⟩:=d4 hv3
    obtain ⟨g',cap',cur',rfl,hbase',hgb',hr1,hr2,hr3,hr4⟩: ∃g' cap' cur',v'= .slice (some ⟨g',0,none⟩) (ss.length+1) cap'∧w0.heap.size≤g'∧w3.heap[g']? =some (.cells cur' 3 (0,0))∧ss.length+1≤cap'∧cap'≤maxLen∧cur'.size=cap'*1∧cur'.toList.take ((ss.length+1)*1)=ss.map bt++[bt x]:=by
     rcases hown'.2 with ⟨_,h0⟩|h'
     ·exact absurd h0 (by omega)
     ·exact h'
    go_frame)
  |(rw [Oper.semAt_eq _ _ _ (fun c h=>by cases h)];go_simp;try go_bits))
 have hg3':(W2.alloc (.cells #[bt x] 3)).grownBy w3 v.ownBlock:=hg3
 have hL3:w3.heap[l]? =some (.loop {cm fn s0 fv Bo D .ready none with state:= .busy}):=(hg3'.block l (by simp;omega) (ne_of hL2 (fun cur e=>by cases e))).trans ((Below.heap_alloc _ _ l hl2).trans hL2)
 have hK3:w3.heap[D]? =some (.deferred (some [])):=(hg3'.block D (by simp;omega) (ne_of hK2 (fun cur e=>by cases e))).trans ((Below.heap_alloc _ _ D hDlt).trans hK2)
 have hi3:w3.heap[Bi]? =some (.cells #[c] 44 (0,0)):=(hg3'.block Bi (by simp;omega) (ne_of hi2 (fun cur e=>by cases e))).trans ((Below.heap_alloc _ _ Bi hBilt).trans hi2)
 obtain ⟨w4,hw4⟩: ∃w4,w3.setCell ⟨Bo,0,none⟩ (.slice (some ⟨g',0,none⟩) (ss.length+1) cap')=w4:=⟨_,rfl⟩
 rw [hw4]
 have hg4:w3.grownBy w4 (some Bo):=by rw [←hw4];exact pR _ _ _
 have hv4:w4.heap[Bo]? =some (.cells #[.slice (some ⟨g',0,none⟩) (ss.length+1) cap'] 101 (0,0)):=by rw [←hw4];exact lX _ hv3
 have hL4:w4.heap[l]? =some (.loop {cm fn s0 fv Bo D .ready none with state:= .busy}):=(hg4.block l (Array.getElem?_eq_some_iff.1 hL3).1 (fun e=>hBl (by cases e;rfl))).trans hL3
 have hK4:w4.heap[D]? =some (.deferred (some [])):=(hg4.block D (Array.getElem?_eq_some_iff.1 hK3).1 (fun e=>hDB (by cases e;rfl))).trans hK3
 have hi4:w4.heap[Bi]? =some (.cells #[c] 44 (0,0)):=(hg4.block Bi (Array.getElem?_eq_some_iff.1 hi3).1 (fun e=>hBiBo (by cases e;rfl))).trans hi3
 have hrow4:=hown'.kept hg4 (dJ hown' hv3 (fun cur e=>by cases e))
 have hl4:l<w4.heap.size:=(Array.getElem?_eq_some_iff.1 hL4).1
 have hb3:Below w0.heap.size w0 w3:=(hb2.alloc hb2.size _).grown hg3' (by have:=hb2.size;simp;omega) (fun k e=>(hrow2.lt k e).1)
 have hb4:Below w0.heap.size w0 w4:=hb3.grown hg4 hb3.size (fun k e=>by cases e;exact h0B)
 clear hw4
 refine ⟨_,_,run_endRound none hL4,rfl,⟨⟨_,(World.putObj_heap_other hBl).trans hv4, ?_⟩,World.putObj_heap_same hl4,(World.putObj_heap_other hDl).trans hK4,hb4.grown (eZ _ _ _) hb4.size (fun k e=>by cases e;exact h0l)⟩,(World.putObj_heap_other hBil).trans hi4⟩
 have:=hrow4.kept (eZ w4 l (.loop {{cm fn s0 fv Bo D .ready none with state:= .busy} with state:=if (none:Option Code).isNone then .ready else .done,pending:=none})) (dJ hrow4 hL4 (fun cur e=>by cases e))
 simpa using this
def oz (Bi:Nat) (w:World):Nat:=match w.cell? ⟨Bi,0,none⟩ with
 |some v=>(intOf v).toNat
 |none=>0
theorem uH {Bi:Nat} {w:World} {n:Nat} {t:TypeId} (h:w.heap[Bi]? =some (.cells #[.int .u32 (n:Int)] t (0,0))):oz Bi w=n:=by
 unfold oz;rw [(d4 h).1];simp [intOf]
theorem DK {w0 W:World} (hT:TabAt 0 Lib.deBruijn32tab w0) (hb:Below w0.heap.size w0 W):TabAt 0 Lib.deBruijn32tab W:=fun j hj=>by
 have h:=hT j hj
 have h0:0<w0.heap.size:=World.block_lt_of_cell? w0 ⟨0,j,none⟩ h
 exact (hb.cell (p:=⟨0,j,none⟩) h0).trans h
theorem DR (s:Int):bits .and .u32 s 16777215=(((BitVec.ofInt 32 s).toNat&&&16777215:Nat):Int):=by
 have hx:(BitVec.ofInt 32 s).toNat&&&16777215<2^32:=Nat.and_lt_two_pow _ (by omega)
 show IntKind.u32.wrap ((BitVec.ofInt 32 s&&&BitVec.ofInt 32 16777215).toNat:Int)=_
 rw [BitVec.toNat_and,wrap_u32',show (BitVec.ofInt 32 16777215).toNat=16777215 from by decide]
 omega
def ck (s:Int):Nat:=(BitVec.ofInt 32 s).toNat&&&16777215
theorem DS (s:Nat) (h0:s≠0) (h:s<4294967296):bits .and .u32 (s:Int) ((s:Int)-1)=((s&&&(s-1):Nat):Int):=by
 have:(s:Int)-1=((s-1:Nat):Int):=by omega
 rw [this];exact bits_and_u32_nat s (s-1) h (by omega)
set_option maxRecDepth 100000 in
set_option maxHeartbeats 2000000 in
theorem H1 (F:Fence) (n:Nat) (h322:F.fn 322) (h323:F.fn 323) (hro:F.round=none) (hn:1≤n) (w0:World) (fn:FuncId) (hfn:F.fn fn) (s0:Int) (fv:Value) (Bo Bi l D:Nat) (hBl:Bo≠l) (hDl:D≠l) (hDB:D≠Bo) (hBiBo:Bi≠Bo) (hBil:Bi≠l) (hBiD:Bi≠D)
  (h0B:w0.heap.size≤Bo) (h0l:w0.heap.size≤l) (h0i:w0.heap.size≤Bi) (hT:TabAt 0 Lib.deBruijn32tab w0) (s:Int) (W:World) (h:LsAt w0 fn s0 fv Bo l D [] W) (hi0:W.heap[Bi]? =some (.cells #[.int .u32 s] 44 (0,0)))
  (htz: ∀ (x:Nat),x<4294967296→x≠0→ ∀W',TabAt 0 Lib.deBruijn32tab W'→CallsIn F (n-1) Tryz.prog 323 #[.int .u32 x] W' fun e w'=>e= .returned (.int .i64 (Lib.ctz 32 x))∧w'=W'):
  CallsIn F n Tryz.prog 322 #[.func (.yield l) #[] #[],.pointer (some ⟨Bi,0,none⟩)] W fun e W'=>(∃v,e= .returned v)∧LsAt w0 fn s0 fv Bo l D (bk (ck s)) W':=by
 obtain ⟨hc0,hf0⟩:=d4 hi0
 have ha:bits .and .u32 s 16777215=((ck s:Nat):Int):=DR s
 have hsl:ck s<16777216:=Nat.lt_of_le_of_lt Nat.and_le_right (by decide)
 generalize ck s=q at ha hsl ⊢
 refine callsIn_of_wp Tryz.func322 rfl h322 ?_ hro
 simp only [Tryz.ntmps322,List.size_toArray,List.length_cons,List.length_nil,Nat.reduceAdd,Nat.reduceSub,Array.replicate_succ,Array.replicate_zero,List.push_toArray,List.append_toArray,List.nil_append,List.cons_append]
 gi_wp2
 have hi1:=lX (.int .u32 (q:Int)) hi0
 have hA1:LsAt w0 fn s0 fv Bo l D [] (W.setCell ⟨Bi,0,none⟩ (.int .u32 (q:Int))):=by
  obtain ⟨v,hv,hrow⟩:=h.box
  exact ⟨⟨v,(Below.heap_setCell _ _ _ Bo (fun e=>hBiBo e.symm)).trans hv,hrow.kept (pR _ _ _) (dJ hrow hi0 (fun cur e=>by cases e))⟩,(Below.heap_setCell _ _ _ l (fun e=>hBil e.symm)).trans h.L,(Below.heap_setCell _ _ _ D (fun e=>hBiD e.symm)).trans h.K,h.below.setCell h0i _⟩
 gi_loopw [] (fun wr=> ∃ (pre:List Nat) (c:Nat),c<16777216∧pre++bk c=bk q∧LsAt w0 fn s0 fv Bo l D pre wr∧wr.heap[Bi]? =some (.cells #[.int .u32 (c:Int)] 44 (0,0)))
  (fun wr=>oz Bi wr)
 case atStart=>exact ⟨[],q,hsl,rfl,hA1,hi1⟩
 case round=>
  obtain ⟨pre,c,hc,hp,hA,hb⟩:=hrel
  clear hc0 hf0 ha hi1 hA1
  obtain ⟨hc1,hf1⟩:=d4 hb
  by_cases hz:c=0
  ·subst hz
   rw [Mn,List.append_nil] at hp
   gi_wp2
   go_end0
   exact ⟨⟨_,rfl⟩,hp▸hA⟩
  ·have hne:((c:Int)==0)=false:=by simp;omega
   have hne': ¬ ((c:Int)=0):=by omega
   have hstep:=Mp c hz hc
   have hpl:pre.length<24:=by
    have h1:=Mo q
    have h2:=congrArg List.length hp
    rw [hstep.1,List.length_append,List.length_cons] at h2
    omega
   obtain ⟨fn',tmps,assign,body,hy,hR⟩:=H2 F (n-1) w0 fn hfn s0 fv Bo Bi l D hBl hDl hDB hBiBo hBil h0B h0l pre (Lib.ctz 32 c) (.int .u32 (c:Int)) wr hA hb hpl
   have hT1:=DK hT hA.below
   have hap:=DS c hz (by omega)
   unfold bt at hy
   have hyH:Hid (Lib.ctz 32 c=Lib.ctz 32 c):=rfl
   gi_wp2_with (gi_at_call 323;refine (htz c (by omega) hz _ hT1).mono ?_;rintro e w' ⟨rfl,rfl⟩)
   refine hR.mono ?_
   rintro e W3 ⟨rfl,hA3,hb3⟩
   obtain ⟨hc3,hf3⟩:=d4 hb3
   clear hc1 hf1 hA hy hR hT1
   gi_wp2
   have hb4:=lX (.int .u32 ((c&&&(c-1):Nat):Int)) hb3
   have hlt:=hstep.2
   go_roundw
   case rel=>
    refine ⟨pre++[Lib.ctz 32 c],c&&&(c-1),by omega, ?_, ?_,hb4⟩
    ·rw [←hp,hstep.1,List.append_assoc];rfl
    ·obtain ⟨v,hv,hrow⟩:=hA3.box
     exact ⟨⟨v,(Below.heap_setCell _ _ _ Bo (fun e=>hBiBo e.symm)).trans hv,hrow.kept (pR _ _ _) (dJ hrow hb3 (fun cur e=>by cases e))⟩,(Below.heap_setCell _ _ _ l (fun e=>hBil e.symm)).trans hA3.L,(Below.heap_setCell _ _ _ D (fun e=>hBiD e.symm)).trans hA3.K,hA3.below.setCell h0i _⟩
   case measure=>rw [uH hb4,uH hb];exact hlt
set_option maxRecDepth 100000 in
set_option maxHeartbeats 2000000 in
theorem HY (F:Fence) (n:Nat) (h313:F.fn 313) (h319:F.fn 319) (h322:F.fn 322) (h323:F.fn 323) (hro:F.round=none) (hn:3≤n) (s:Int) (w:World) (hT:TabAt 0 Lib.deBruijn32tab w)
  (hin: ∀W,CallsIn F (n-1) Tryz.prog 319 #[.int .u32 s] W fun e w'=>e= .returned (.func (.func 322) #[] #[.pointer (some ⟨W.heap.size,0,none⟩)])∧w'=W.alloc (.cells #[.int .u32 s] 44))
  (htz: ∀ (x:Nat),x<4294967296→x≠0→ ∀W',TabAt 0 Lib.deBruijn32tab W'→CallsIn F (n-1-1) Tryz.prog 323 #[.int .u32 x] W' fun e w'=>e= .returned (.int .i64 (Lib.ctz 32 x))∧w'=W'):
  CallsIn F n Tryz.prog 313 #[.int .u32 s] w fun e w'=> ∃v:Value,e= .returned v∧w'.ownsRow w.heap.size 3 1 v (bk (ck s)).length ((bk (ck s)).map bt)∧Below w.heap.size w w':=by
 have h1:1≤n:=by omega
 have eg: ∀args w,(callFunc 322 args).run Tryz.prog w= .ok (.enter 322 args) w:=enters_of Tryz.func322 (by kernel_rfl) rfl
 refine callsIn_of_wp_marks Tryz.func313 rfl h313 ?_ hro
 simp only [Tryz.ntmps313,List.size_toArray,List.length_cons,List.length_nil,Nat.reduceAdd,Nat.reduceSub,Array.replicate_succ,Array.replicate_zero,List.push_toArray,List.append_toArray,List.nil_append,List.cons_append]
 gi_wp2_with (gi_at_call 319;refine (hin _).mono ?_;rintro e w' ⟨rfl,rfl⟩)
 refine wpIn_rangeFunc ?_
 intro fn hfn
 rw [hro]
 obtain ⟨fv,hfv⟩: ∃fv:Value,fv= .func (.func 322) #[] #[.pointer (some ⟨w.heap.size+1,0,none⟩)]:=⟨_,rfl⟩
 obtain ⟨W0,hW0⟩: ∃W0,(w.alloc (.cells #[.slice none 0 0] 101)).alloc (.cells #[.int .u32 s] 44)=W0:=⟨_,rfl⟩
 have hs0:W0.heap.size=w.heap.size+2:=by rw [←hW0];simp
 have hv0:W0.heap[w.heap.size]? =some (.cells #[.slice none 0 0] 101 (0,0)):=by rw [←hW0];exact (Below.heap_alloc _ _ _ (by simp)).trans (World.alloc_heap_new w _)
 have hi0:W0.heap[w.heap.size+1]? =some (.cells #[.int .u32 s] 44 (0,0)):=by
  rw [←hW0];have:=World.alloc_heap_new (w.alloc (.cells #[.slice none 0 0] 101)) (.cells #[.int .u32 s] 44);rwa [World.size_alloc] at this
 have hb0:Below w.heap.size w W0:=by rw [←hW0];exact ((Below.refl _ w).alloc (Nat.le_refl _) _).alloc (by simp) _
 rw [hW0]
 obtain ⟨W1,hW1⟩: ∃W1,(W0.alloc (.deferred (some []))).alloc (.loop (cm fn s fv w.heap.size W0.heap.size .ready none))=W1:=⟨_,rfl⟩
 have hold: ∀k,k<W0.heap.size→W1.heap[k]? =W0.heap[k]? :=fun k hk=>by
  rw [←hW1];exact (Below.heap_alloc _ _ k (by simp;omega)).trans (Below.heap_alloc _ _ k hk)
 have hb1:Below w.heap.size w W1:=by rw [←hW1];exact (hb0.alloc hb0.size _).alloc (by have:=hb0.size;simp;omega) _
 have hM:LsAt w fn s fv w.heap.size (W0.heap.size+1) W0.heap.size [] W1:=
  ⟨⟨_,(hold w.heap.size (by omega)).trans hv0,⟨rfl,.inl ⟨rfl,rfl⟩⟩⟩,
   by rw [←hW1];have:=World.alloc_heap_new (W0.alloc (.deferred (some []))) (.loop (cm fn s fv w.heap.size W0.heap.size .ready none));rwa [World.size_alloc] at this,
   by rw [←hW1];exact (Below.heap_alloc _ _ _ (by simp)).trans (World.alloc_heap_new W0 _),hb1⟩
 refine ⟨W0.heap.size+1,[{target:= .collected W0.heap.size,args:= #[]}],W1,{target:= .fn (.func 322) #[.pointer (some ⟨w.heap.size+1,0,none⟩)],args:= #[.func (.yield (W0.heap.size+1)) #[] #[]]},W1,322,
  #[.func (.yield (W0.heap.size + 1)) #[] #[]] ++ #[.pointer (some ⟨w.heap.size + 1, 0, none⟩)], W1, ?_, ?_, ?_, ?_, fun _ => h1, ?_⟩
 ·rw [←hW1,hfv];exact run_enterLoop_outer _ _ _ _ _
 ·simp [resolve,go_sem]
 ·intro f' hf';simp [Target.leads] at hf';subst hf';exact h322
 ·simp [invoke,go_sem,eg]
 ·refine (H1 F (n-1) h322 h323 hro (by omega) w fn hfn s fv w.heap.size (w.heap.size+1) (W0.heap.size+1) W0.heap.size (by omega) (by omega) (by omega) (by omega) (by omega) (by omega) (Nat.le_refl _) (by omega) (by omega) hT s W1 hM ((hold _ (by omega)).trans hi0) htz).mono ?_
  rintro e W2 ⟨⟨v0,rfl⟩,h2⟩
  obtain ⟨v,hv,hrow⟩:=h2.box
  have hend:=run_endLoop (P:=Tryz.prog) h2.L (by simp [cm])
  obtain ⟨W3,hW3⟩: ∃W3,W2.putObj (W0.heap.size+1) (.loop {cm fn s fv w.heap.size W0.heap.size .ready none with state:= .exhausted})=W3:=⟨_,rfl⟩
  rw [hW3] at hend
  have hg3:W2.grownBy W3 (some (W0.heap.size+1)):=by rw [←hW3];exact eZ _ _ _
  have hv3:W3.heap[w.heap.size]? =some (.cells #[v] 101 (0,0)):=by rw [←hW3];exact (World.putObj_heap_other (by omega)).trans hv
  have hK3:W3.heap[W0.heap.size]? =some (.deferred (some [])):=by rw [←hW3];exact (World.putObj_heap_other (by omega)).trans h2.K
  have hrow3:=hrow.kept hg3 (dJ hrow h2.L (fun cur e=>by cases e))
  have hb3:Below w.heap.size w W3:=h2.below.grown hg3 h2.below.size (fun k e=>by cases e;omega)
  obtain ⟨hc3,hf3⟩:=d4 hv3
  clear hW3
  refine ⟨none,W3,hend, ?_⟩
  clear hfv
  gi_wp2
  rw [show (w.heap.size+1+1)=W0.heap.size by omega]
  refine ⟨by simp,.inl ⟨_,_,rfl,run_takeDeferred hK3, ?_⟩⟩
  exact ⟨_,results_tmp rfl _ _ _,v,rfl,hrow3.kept (eZ _ _ _) (dJ hrow3 hK3 (fun cur e=>by cases e)),hb3.grown (eZ _ _ _) hb3.size (fun k e=>by cases e;omega)⟩
end Go.Proofs.YtfkkpkhfjpaafaaGreatDoor
namespace Go.Proofs.YtfkkpkhfjpaafaaGreatDoor
open Go PI Go.Shelf Go.RowKit
set_option linter.unusedVariables false
set_option linter.unusedSimpArgs false
set_option maxRecDepth 100000
def ad (o:Obj):Prop:= ∃ (cur:Array Value) (e:TypeId) (fr:Nat×Nat),o= .cells cur e fr∧ ∀j,j<Lib.deBruijn32tab.length→cur[j]? =some (.int .u8 (Lib.deBruijn32tab.getD j 0))
theorem Mc {o:Obj} (ho:ad o) {w:World} (h:w.heap[0]? =some o):TabAt 0 Lib.deBruijn32tab w:=fun j hj=>by
 obtain ⟨cur,e,fr,rfl,hc⟩:=ho
 have:=hc j hj
 simp [World.cell?,h,this]
theorem HX (s:Int) (w:World) (hT:TabAt 0 Lib.deBruijn32tab w):Calls Tryz.prog 313 #[.int .u32 s] w fun e w'=> ∃v:Value,e= .returned v∧w'.ownsRow w.heap.size 3 1 v (bk (ck s)).length ((bk (ck s)).map bt)∧Below w.heap.size w w':=
 callsIn_wide.1 (HY Fence.wide 5 trivial trivial trivial trivial rfl (by omega) s w hT (fun W=>callsIn_wide.2 (GS s W)) fun x hx h0 W' hT'=>callsIn_wide.2 (Tryz.tz32 x hx h0 W' hT'))
theorem H6 (s:Int):jz s=(bk (ck s)).map fun n:Nat=>(n:Int):=by
 unfold jz bk ck
 have:(List.range 24).filter ((BitVec.ofInt 32 s).toNat&&&16777215).testBit=(List.range 24).filter fun i=>(BitVec.ofInt 32 s).getLsbD i:=List.filter_congr fun i hi=>by
  have hi:i<24:=List.mem_range.1 hi
  have h24:(16777215:Nat)=2^24-1:=by decide
  rw [Nat.testBit_and,h24,Nat.testBit_two_pow_sub_one,decide_eq_true hi,Bool.and_true];rfl
 rw [this];rfl
theorem DW {X:Link VV Tryz.prog} {w w':World} {vs:Array Value} {N0:ai} {ν:Nat→Nat} {δ:Nat→Option Nat} {args:List PU} (hg:Given X w vs N0 ν δ args []) (hb:Below w.heap.size w w'):
  Back X w w' N0 ν δ 0 args.length ν (fun _=>none) [] where
 ext:=⟨hb.os,hb.tape,hb.output,hb.size,fun b hlt _=>hb.block b hlt⟩
 le:=Nat.le_refl _
 old:=fun i h=>absurd h (Nat.not_lt_zero i)
 new:=fun i _ h=>absurd h (Nat.not_lt_zero i)
 dnew:=fun j b h=>by cases h
 bnd:={
  inj:=fun i j h=>absurd h (Nat.not_lt_zero i)
  lt:=fun i h=>absurd h (Nat.not_lt_zero i)
  dlt:=fun j b h=>by cases h
  dinj:=fun i j b h=>by cases h
  dν:=fun j b h=>by cases h
  n0:=fun b o h=>⟨Nat.lt_of_lt_of_le (hg.bnd.n0 b o h).1 hb.size,fun i h=>absurd h (Nat.not_lt_zero i),fun j h=>by cases h⟩}
 boxes:=fun k b h=>by simp at h
theorem Mi {S:Type} (o:Obj) (ho:ad o) (vs:List PU) (bs:List (Box UU)) (κ:Out UU→Option S) (x:S) (h:pJ vs bs κ=some x): ∃out,aE (LL o) Gy vs bs out∧κ out=some x:=by
 unfold pJ at h
 split at h
 case h_2=>cases h
 rename_i κ y
 refine ⟨_, ?_,h⟩
 refine ⟨⟨Tryz.f313,Tryz.func313,by kernel_rfl,rfl⟩,fun w vs N0 ν δ hg=> ?_⟩
 have hs:vs.size=1:=hg.size
 have h0:=hg.args 0 _ rfl
 obtain ⟨v0,hv0⟩: ∃v0,vs= #[v0]:=by
  obtain ⟨l⟩:=vs
  match l,hs with
  |[v],_=>exact ⟨v,rfl⟩
 subst hv0
 have h0:Rep (LL o) w _ _ v0 (.int .u32 y):=h0
 cases h0
 have hT:=Mc ho (hg.glob 0 o (by simp [LL])).1
 refine (HX y w hT).mono ?_
 rintro e w' ⟨v,rfl,hrow,hb⟩
 refine ⟨ν,fun _=>none,DW hg hb, ?_⟩
 show Rep (LL o) w' _ _ v (.sl ET.I (jz y) .none)
 rw [H6]
 generalize bk (ck y)=ts at hrow
 obtain ⟨hl,hr⟩:=hrow
 rcases hr with ⟨rfl,hn⟩|⟨g,cap,cur,rfl,hg0,hgb,hc,hc',hsz,htk⟩
 ·have:ts=[]:=List.length_eq_zero_iff.1 hn
  subst this
  exact .sl none 0 0 _ _ _ (fun _ _=>undef) rfl (Nat.le_refl _) trivial (fun j x hx=>by cases hx) (fun j x hx=>by cases hx)
 ·have hcell: ∀j x,(ts.map fun n:Nat=>(n:Int))[j]? =some x→cur.getD j undef= .int .i64 x∧w'.cell? ⟨g,j,none⟩=some (.int .i64 x):=by
   intro j x hx
   rw [List.getElem?_map] at hx
   cases ht:ts[j]? with
   |none=>rw [ht] at hx;cases hx
   |some n=>
    rw [ht] at hx
    injection hx with hx
    have hj:j<ts.length:=(List.getElem?_eq_some_iff.1 ht).1
    have h1:(cur.toList.take (ts.length*1))[j]? =some (bt n):=by rw [htk,List.getElem?_map,ht];rfl
    rw [List.getElem?_take_of_lt (by omega)] at h1
    have h2:cur[j]? =some (.int .i64 x):=by rw [←Array.getElem?_toList,h1,←hx];rfl
    refine ⟨?_,by simp [World.cell?,hgb,h2]⟩
    rw [Array.getD_eq_getD_getElem?,h2];rfl
  refine Rep.sl (X:=LL o) (some ⟨g,0,none⟩) ts.length cap ET.I (show List Int from ts.map fun n:Nat=>(n:Int)) .none (fun j k=>cur.getD (j+k) undef) (List.length_map _) hc trivial (fun j x hx k p hp=> ?_) (fun j x hx k p hp=> ?_)
  ·match k,hp with
   |0,hp=>
    obtain ⟨h1,h2⟩:=hcell j x hx
    refine ⟨_,rfl, ?_, ?_⟩
    ·have:(⟨g,0,none⟩:Addr).add (j*(LL o).esize ET.I+0)=⟨g,j,none⟩:=by
      rw [Addr.add_lit'];show (⟨g,0+(j*1+0),none⟩:Addr)=_;congr 1;omega
     rw [this,h2];rw [Nat.add_zero,h1]
    ·rintro (hN|⟨i,hi,_⟩|⟨i,hi⟩)
     ·have:=(hg.bnd.n0 _ _ hN).1
      simp at this;omega
     ·exact absurd hi (Nat.not_lt_zero i)
     ·cases hi
   |k+1,hp=>simp [VV,a8] at hp
  ·match k,hp with
   |0,hp=>
    obtain ⟨h1,h2⟩:=hcell j x hx
    rw [Nat.add_zero,h1]
    have:p= .int .i64 x:=by simpa [VV,a8] using hp.symm
    subst this
    exact .int _ _
   |k+1,hp=>simp [VV,a8] at hp
end Go.Proofs.YtfkkpkhfjpaafaaGreatDoor
namespace Go.Proofs.YtfkkpkhfjpaafaaGreatDoor
open Go PI Go.Shelf Go.RowKit Go.Sort
set_option linter.unusedVariables false
set_option linter.unusedSimpArgs false
set_option maxRecDepth 100000
def d5 (a b:Int):Int:=if a<b then-1 else if b<a then 1 else 0
def cE (x y:Cl):Int:=if x.pos=y.pos then d5 x.neg y.neg else d5 x.pos y.pos
def bg (x:Cl):List Value:=[.int .u32 x.pos,.int .u32 x.neg]
theorem np (a:Int) (W:World):Calls Tryz.prog 280 #[.int .u32 a] W fun e w'=>e= .returned (.bool false)∧w'=W:=by
 go_enter Tryz.func280,Tryz.ntmps280
 go_wp2
 go_ret
 exact ⟨by simp,rfl⟩
set_option maxHeartbeats 1000000 in
theorem rn (a b:Int) (W:World):Calls Tryz.prog 234 #[.int .u32 a,.int .u32 b] W fun e w'=>e= .returned (.int .i64 (d5 a b))∧w'=W:=by
 unfold d5
 by_cases h1:a<b
 ·rw [if_pos h1]
  go_enter Tryz.func234,Tryz.ntmps234
  go_wp2_with (go_at_call 280;refine (np _ _).mono ?_;rintro e w' ⟨rfl,rfl⟩)
  go_ret
  exact ⟨rfl,rfl⟩
 ·rw [if_neg h1]
  by_cases h2:b<a
  ·rw [if_pos h2]
   go_enter Tryz.func234,Tryz.ntmps234
   go_wp2_with (go_at_call 280;refine (np _ _).mono ?_;rintro e w' ⟨rfl,rfl⟩)
   go_ret
   exact ⟨rfl,rfl⟩
  ·rw [if_neg h2]
   go_enter Tryz.func234,Tryz.ntmps234
   go_wp2_with (go_at_call 280;refine (np _ _).mono ?_;rintro e w' ⟨rfl,rfl⟩)
   go_ret
   exact ⟨rfl,rfl⟩
set_option maxHeartbeats 1000000 in
theorem En (x y:Cl) (W:World):Calls Tryz.prog 171 #[.agg (bg x).toArray,.agg (bg y).toArray] W fun e w'=>e= .returned (.int .i64 (cE x y))∧ ∃q os',w'=grow (W.drewN q) os':=by
 obtain ⟨a,b⟩:=x
 obtain ⟨a',b'⟩:=y
 have h1:=rn a a'
 have h2:=rn b b'
 unfold cE
 simp only [bg]
 generalize d5 a a'=r1 at h1 ⊢
 generalize d5 b b'=r2 at h2 ⊢
 by_cases h:a=a'
 ·rw [if_pos h]
  go_enter Tryz.func171,Tryz.ntmps171
  go_wp2_with (go_at_call 234;refine (h2 _).mono ?_;rintro e w' ⟨rfl,rfl⟩)
  go_ret
  exact ⟨rfl,0,_,by rw [alloc_eq_grow,alloc_eq_grow,grow_grow];rfl⟩
 ·rw [if_neg h]
  go_enter Tryz.func171,Tryz.ntmps171
  go_wp2_with (go_at_call 234;refine (h1 _).mono ?_;rintro e w' ⟨rfl,rfl⟩)
  go_ret
  exact ⟨rfl,0,_,by rw [alloc_eq_grow,alloc_eq_grow,grow_grow];rfl⟩
theorem gj (x y:Cl):ltOf cE x y=(decide (x.pos<y.pos)||(decide (x.pos=y.pos)&&decide (x.neg<y.neg))):=by
 have h:cE x y<0↔(x.pos<y.pos∨x.pos=y.pos∧x.neg<y.neg):=by
  unfold cE d5
  split<;>split<;>first|omega|(split<;>omega)
 rw [Bool.eq_iff_iff]
 simp only [ltOf,decide_eq_true_eq,Bool.or_eq_true,Bool.and_eq_true]
 exact h
theorem J9:SWO (ltOf cE) where
 irrefl x:=by rw [gj];simp
 trans x y z h1 h2:=by rw [gj] at*;simp at*;omega
 ntrans x y z h1 h2:=by rw [gj] at*;simp at*;omega
theorem Mm (x y:Cl) (h1:ltOf cE x y=false) (h2:ltOf cE y x=false):x=y:=by
 rw [gj] at*;simp at*
 obtain ⟨a,b⟩:=x
 obtain ⟨a',b'⟩:=y
 simp at*
 omega
theorem GN:(fun x y:Cl=> !ltOf cE y x)=l9:=by
 funext x y
 rw [gj,Bool.eq_iff_iff]
 simp [l9]
 omega
instance:Inhabited Cl:=⟨⟨0,0⟩⟩
theorem JX (b c:Nat) (d:List Cl) (w:World) (hH:HoldsK bg 2 w b 0 d.toArray) (hb:b<w.heap.size) (hsz:d.length<4611686018427387904):
  Calls Tryz.prog 170 #[.slice (some ⟨b,0,none⟩) d.length c,.func (.func 171) #[] #[]] w fun e w'=>e= .returned (.tuple #[])∧ ∃n os,w'=sortWorldK bg 2 w b 0 n (sortCl d).toArray os:=by
 have eg: ∀args w,(callFunc 171 args).run Tryz.prog w= .ok (.enter 171 args) w:=enters_of Tryz.func171 (by kernel_rfl) rfl
 have h:=AnyQ.slices_SortFunc_total Tryz.sortCl 2 Tryz.isAgg46 Tryz.sizeOf46 bg (fun _=>rfl) (fun x v hv=>by simp [bg] at hv;rcases hv with rfl|rfl<;>rfl) cE J9 171 #[] b 0 c d.toArray w eg (fun _ _ _ _ x y=>En x y _) hH hb hsz Mm
 rw [GN] at h
 exact h
theorem JY (p:Option Addr) (c:Nat) (w:World):Calls Tryz.prog 170 #[.slice p 0 c,.func (.func 171) #[] #[]] w fun e w'=>e= .returned (.tuple #[])∧w'=w:=
 AnyF.slices_SortFunc_none Tryz.sortCl p c _ w
theorem JW {m:Nat} {d:Array Cl} {os:Array Obj} {w:World} {b k:Nat} (hk:k<w.heap.size) (hne:k≠b):(sortWorldK bg 2 w b 0 m d os).heap[k]? =w.heap[k]? :=by
 unfold sortWorldK putRowK putRow mapBlock
 rw [heap_grow_old _ _ (by simpa [ahead] using hk)]
 show (w.heap.modify b _)[k]? =_
 rw [Array.getElem?_modify,if_neg (Ne.symm hne)]
theorem JV {m:Nat} {d:Array Cl} {os:Array Obj} {w:World} {b:Nat} {cur:Array Value} {e:TypeId} {fr:Nat×Nat} (h:w.heap[b]? =some (.cells cur e fr)):
  (sortWorldK bg 2 w b 0 m d os).heap[b]? =some (.cells (putCells id 0 (flatK bg 2 d) cur) e fr):=by
 have hb:b<w.heap.size:=(Array.getElem?_eq_some_iff.1 h).1
 unfold sortWorldK putRowK putRow mapBlock
 rw [heap_grow_old _ _ (by simpa [ahead] using hb)]
 show (w.heap.modify b _)[b]? =_
 rw [Array.getElem?_modify,if_pos rfl,h];rfl
theorem Ej (x:Cl) {k:Nat} {p:PU} (hp:(a8 .C x)[k]? =some p):k<2∧ ∀ (X:Link VV Tryz.prog) (w:World) (N:ai) (g:Gh UU),Rep X w N g (bg x)[k]! p:=by
 match k,hp with
 |0,hp=>cases hp;exact ⟨by omega,fun X w N g=> .int _ _⟩
 |1,hp=>cases hp;exact ⟨by omega,fun X w N g=> .int _ _⟩
 |k+2,hp=>simp [a8] at hp
theorem GP {w:World} {b c:Nat} {l:List Cl} {cur:Array Value} {e:TypeId} (hb:w.heap[b]? =some (.cells cur e (0,0))) (hs:cur.size=c*2) (hl:l.length≤c) (h: ∀ (j:Nat) (x:Cl),l[j]? =some x→ ∀k,k<2→w.cell? ⟨b,j*2+k,none⟩=some (bg x)[k]!):HoldsK bg 2 w b 0 l.toArray:=by
 intro t ht
 rw [size_flatK] at ht
 have ht':t<l.length*2:=by simpa using ht
 have hj:t/2<l.length:=by omega
 have hx:l[t/2]? =some l.toArray[t/2]! :=by simp [hj]
 refine ⟨?_, ?_⟩
 ·rw [get_flatK _ _ _ _ ht]
  have:=h _ _ hx (t%2) (Nat.mod_lt _ (by omega))
  rw [Nat.zero_add]
  rw [show t/2*2+t%2=t by omega] at this
  exact this
 ·simp [World.frozen?,hb]
theorem GV {f:Nat} {ps:List PU} {l l':List Cl} (h:nl f ps l=some l'):f=170∧ps=[.func 171 [] []]∧l'=sortCl l:=by
 unfold nl at h
 split at h
 ·injection h with h
  exact ⟨rfl,rfl,h.symm⟩
 ·cases h
theorem i7 (o:Obj):du (LL o):=by
 intro f ps e l l' h
 have hi:ue f ps e l=some l':=h
 clear h
 cases e with
 |T=>cases hi
 |B=>cases hi
 |I=>cases hi
 |F=>cases hi
 |D=>cases hi
 |G=>cases hi
 |C=>
 obtain ⟨rfl,rfl,rfl⟩:=GV hi
 refine ⟨⟨Tryz.f170,Tryz.func170,by kernel_rfl,rfl⟩,fun w vs N0 δ hg hδ=> ?_⟩
 have hs:vs.size=2:=hg.size
 obtain ⟨v0,v1,rfl⟩: ∃v0 v1,vs= #[v0,v1]:=by
  obtain ⟨l⟩:=vs
  match l,hs with
  |[v,v'],_=>exact ⟨v,v',rfl⟩
 have h0:ObOK (LL o) w (NB N0 0 (fun _=>0) δ) (gB UU 0 fun _=>0) ET.C l v0 .wr (δ 0):=hg.args 0 _ rfl
 have h1:Rep (LL o) w (NB N0 0 (fun _=>0) δ) (gB UU 0 fun _=>0) v1 (.func 171 [] []):=hg.args 1 _ rfl
 cases h1 with
 |func _ _ _ xs ys ha hb _ _=>
 have ha':xs= #[]:=by simpa using ha
 have hb':ys= #[]:=by simpa using hb
 subst ha';subst hb'
 obtain ⟨A,n,c,rfl,hl,hc,hcell,hm⟩:=h0.val
 have hl: @List.length Cl l=n:=hl
 cases hD:δ 0 with
 |none=>
  rw [hD] at hm hcell
  obtain ⟨rfl,rfl,rfl⟩:=hm.1 rfl
  have:l=([]:List Cl):=List.length_eq_zero_iff.1 hl
  subst this
  refine (JY none 0 w).mono ?_
  rintro e w' ⟨rfl,rfl⟩
  refine ⟨rfl,.refl _ _, ?_⟩
  rw [hD] at h0
  have:sortCl []=[]:=by simp [sortCl]
  rw [this]
  exact h0
 |some b=>
  rw [hD] at hm hcell
  obtain ⟨hu,cur,rfl,hblk,hsz,hmax⟩:=hm
  have hbl:b<w.heap.size:=(Array.getElem?_eq_some_iff.1 hblk).1
  have hcs:cur.size=c*2:=hsz
  have hH:HoldsK bg 2 w b 0 l.toArray:=GP hblk hcs (hl▸hc) fun j x hx k hk=>by
   have hp: ∃p,(a8 ET.C x)[k]? =some p∧p= .int .u32 (if k=0 then x.pos else x.neg):=by
    match k,hk with
    |0,_=>exact ⟨_,rfl,rfl⟩
    |1,_=>exact ⟨_,rfl,rfl⟩
   obtain ⟨p,hp,hpe⟩:=hp
   obtain ⟨a,v,ha,hv,hr,_⟩:=hcell j x hx k p hp
   injection ha with ha
   subst ha
   subst hpe
   have hv':w.cell? ⟨b,j*2+k,none⟩=some v:=by
    have:(⟨b,0,none⟩:Addr).add (j*(LL o).esize ET.C+k)=⟨b,j*2+k,none⟩:=by
     rw [Addr.add_lit'];show (⟨b,0+(j*2+k),none⟩:Addr)=_;congr 1;omega
    rw [this] at hv;exact hv
   rw [hv']
   cases hr
   match k,hk with
   |0,_=>rfl
   |1,_=>rfl
  have hlt: @List.length Cl l<4611686018427387904:=by
   have:n≤1099511627776:=hmax.2
   omega
  have hcall:=JX b c l w hH hbl hlt
  have he:(.slice (some ⟨b,0,none⟩) (@List.length Cl l) c:Value)= .slice (some ⟨b,0,none⟩) n c:=by rw [hl]
  rw [he] at hcall
  refine hcall.mono ?_
  rintro e w' ⟨rfl,m,os,rfl⟩
  have hlen:(sortCl l).length= @List.length Cl l:=List.length_mergeSort _
  have hH':=holdsK_sortWorldK_c bg 2 w b 0 l.toArray (sortCl l).toArray m os hH hbl hlen
  refine ⟨rfl,⟨rfl,rfl,rfl,size_sortWorldK_c bg 2 w b 0 m _ os,fun k hk hne=>JW hk fun e=>hne ?_⟩, ?_⟩
  ·subst e
   exact List.mem_append_right _ (List.mem_filterMap.2 ⟨0,by simp,hD⟩)
  ·refine ⟨_,n,c,rfl,hlen.trans hl,hc,fun j x hx k p hp=> ?_, ?_⟩
   ·obtain ⟨hk,hrep⟩:=Ej x hp
    have hj:j<(sortCl l).length:=(List.getElem?_eq_some_iff.1 hx).1
    have:=(hH'.cell (i:=j) (c:=k) (by simpa using hj) hk).1
    have he:(sortCl l).toArray[j]! =x:=by
     have:=List.getElem?_eq_some_iff.1 hx
     rw [getElem!_pos _ j (by simpa using hj)];exact this.2
    rw [he] at this
    refine ⟨_,_,rfl, ?_,hrep _ _ _ _,fun h=>by cases h⟩
    have e:(⟨b,0,none⟩:Addr).add (j*(LL o).esize ET.C+k)=⟨b,0+j*2+k,none⟩:=by
     rw [Addr.add_lit'];show (⟨b,0+(j*2+k),none⟩:Addr)=_;congr 1;omega
    show World.cell? _ (Addr.add _ _)=_
    rw [e];exact this
   ·exact ⟨hu,_,rfl,JV hblk,by simp [putCells];exact hcs,hmax⟩
end Go.Proofs.YtfkkpkhfjpaafaaGreatDoor
namespace Go.Proofs.YtfkkpkhfjpaafaaGreatDoor
open Go PI Go.ChangeShapes Go.WideShapes Go.ChangeAt Go.RowKit
set_option linter.unusedVariables false
set_option linter.unusedSimpArgs false
set_option maxRecDepth 100000
theorem own:ownKnob Tryz.prog.godebug=none:=by kernel_rfl
theorem tW:Tryz.prog.globalNamed "math/bits.deBruijn32tab" =some 0:=by kernel_rfl
section
variable {H:Type} {enc:TypeId×Value→H}
structure Kept (W W':World):Prop where
 os:W'.os=W.os
 output:W'.output=W.output
 size:W.heap.size≤W'.heap.size
 block: ∀b,b<W.heap.size→W'.heap[b]? =W.heap[b]?
theorem Kept.sameAt {W W':World} (h:Kept W W') {p:MemPlace} (hp:p.block<W.heap.size):W.sameAt W' p:=by
 cases p with
 |cell b o=>simp only [World.sameAt,World.cell?];rw [h.block b hp]
 |map b=>exact h.block b hp
theorem Kept.kept {W W':World} (h:Kept W W') (may:MemPlace→Prop):W.keptBut W' may:=by
 refine ⟨h.os,h.output,fun i hi=> ?_⟩
 rw [h.block i hi]
 cases W.heap[i]? with
 |none=>rfl
 |some o=>cases o with
  |cells c t fr=>exact ⟨rfl,rfl,rfl,fun _ _=>rfl⟩
  |map es clock=>exact .inr ⟨rfl,rfl⟩
  |_=>rfl
theorem qc {W W':World} {sp:Nat→Bool} {held:Bool}: ∀ {ts:List TypeId} {vs:List Value} {ds:List (DataW H)} {ps:List MemPlace},
  DataW.TrodAll enc Tryz.prog W 0 sp held ts vs ds ps→(∀p∈ps,W.sameAt W' p)→DataW.TrodAll enc Tryz.prog W' 0 sp held ts vs ds ps
 |[],[],[],_,h,_=>h
 |_::_,_::_,_::_,_,⟨p,q,⟨n,h1⟩,h2,e⟩,hs=>
  ⟨p,q,⟨n,DataW.trod_carry n _ _ _ h1 fun x hx=>hs x (by rw [e];exact List.mem_append_left _ hx)⟩,qc h2 (fun x hx=>hs x (by rw [e];exact List.mem_append_right _ hx)),e⟩
theorem kids:Kids Tryz.prog (· <Tryz.prog.types.size):=kids_rows (by kernel_rfl) (by kernel_rfl)
theorem full: ∀t e,t<Tryz.prog.types.size→Tryz.prog.underlying t=some (.slice e)→0<Tryz.prog.cellsOf e:=slices_full_of Tryz.prog (by kernel_rfl)
theorem IP {f:Func} {s:ChangeSpec} (hv:s.vars=[]) {aX fresh handsOn again:Bool} {W W':World} {args:Array Value} {ds gs:List (DataW H)} {before:List MemPlace} (hf:f.resultTypes= #[4])
  (hT: ∀t∈f.params.toList,t<Tryz.prog.types.size) (hs:s.fn H ds={results:=[.lit (.bool true)],args:=ds})
  (hW:DataW.Whole enc Tryz.prog f.params.toList s.vars aX W args.toList ds gs before) (hk:Kept W W'):s.post enc Tryz.prog f aX fresh handsOn again W args (.bool true) W':=by
 have hold: ∀p∈before,(fun b=>decide (b<W.heap.size)) p.block=true:=fun p hp=>by simpa using hW.lt p hp
 have hlt: ∀p∈before,p.block<W.heap.size:=fun p hp=>by simpa using hW.lt p hp
 have hW0:=hW
 obtain ⟨p,q,hA,hV,rfl,hz,hn⟩:=hW
 rw [hv] at hV
 obtain ⟨rfl,rfl⟩:=trodVars_none hV
 rw [List.append_nil] at hold hlt hz hn hW0
 have hs':s.fn H (ds++[])={results:=[.lit (.bool true)],args:=ds}:=by rw [List.append_nil];exact hs
 have hr:(Value.bool true).resultList f.resultTypes.size=[.bool true]:=by rw [hf];rfl
 have hres: ∀ (b:Nat) (sp:Nat→Bool) (hd:Bool),DataW.TrodAll enc Tryz.prog W' b sp hd f.resultTypes.toList ((Value.bool true).resultList f.resultTypes.size) (s.fn H (ds++[])).results []:=fun b sp hd=>by
  rw [hr,hs',hf]
  exact trodAll_cons_mk (shut_bool Tryz.underlying4 _) trodAll_mk0
 have hargs: ∀sp:Nat→Bool,(∀p'∈p,sp p'.block=true)→DataW.TrodAll enc Tryz.prog W' 0 sp true f.params.toList args.toList (s.fn H (ds++[])).args p:=fun sp hsp=>by
  rw [hs']
  exact DataW.TrodAll.respare kids full hT (qc hA fun x hx=>hk.sameAt (hlt x hx)) hsp
 have hvars: ∀sp:Nat→Bool,DataW.TrodVars enc Tryz.prog W' sp s.vars (s.fn H (ds++[])).vars []:=fun sp=>by rw [hv,hs'];rfl
 refine ⟨ds,[],p,[],p,[],hW0,hres _ _ _,hargs _ hold,hvars _,World.keptBut_mono (fun p' hp=>hp.elim) (hk.kept fun _=>False),fun _=> ?_⟩
 refine ⟨fun j t r h1 h2=> ?_,_,_,([]++p)++[],⟨[]++p,[],trodAll_append (hargs _ (fun _ _=>rfl)) (hres _ _ _),hvars _,rfl, ?_, ?_⟩, ?_⟩
 ·rw [hf] at h1
  rw [hr] at h2
  match j,h1,h2 with
  |0,h1,h2=>cases h1;cases h2;exact okWide_bool_mk Tryz.underlying4 _
  |j+1,h1,h2=>simp at h2
 ·intro b off hp
  have hp':MemPlace.cell b off∈p:=by simpa using hp
  have:=hz b off hp'
  simp only [World.frozen?] at this ⊢
  rw [hk.block b (hlt _ hp')]
  exact this
 ·intro ha
  have:=hn ha
  simpa using this
 ·intro p' hp _
  simpa using hp
variable {w:World} {spare:Nat→Bool} {held:Bool} {o:Obj} {N:ai} {g:Gh UU}
theorem DL {v:Value} {n:Nat} (h:v.cells.toList.length=n+2): ∃vs:Array Value,v= .agg vs∧vs.toList=v.cells.toList:=by
 cases v with
 |agg vs=>exact ⟨vs,rfl,rfl⟩
 |_=>simp [Value.cells] at h
theorem DU (hN: ∀b o,¬N b o) {v:Value} {d:DataW H} {ps:List MemPlace} (h:DataW.Trod enc Tryz.prog w 0 spare held 26 v d ps): ∃t:Tm,Rep (LL o) w N g v (.agg (a8 ET.T t))∧QT t d:=by
 obtain ⟨n,hn⟩:=h
 obtain ⟨t,hr,hq⟩:=(IJ (o:=o) (g:=g) hN n).1 _ _ _ hn
 obtain ⟨_,_,_,_,hl,_,_⟩:=DataW.trod_struct Tryz.underlying26 hn
 have hl6:v.cells.toList.length=6:=hl.trans (by kernel_rfl)
 obtain ⟨vs,rfl,hvs⟩:=DL (n:=4) hl6
 refine ⟨t,Rep.agg (X:=LL o) vs (a8 ET.T t) (by rw [←Array.length_toList,hvs,hl6];rfl) fun j p hp=> ?_,hq⟩
 obtain ⟨v',hv',hr'⟩:=hr j p hp
 have:vs.getD j undef=v':=by
  have h2:vs[j]? =some v':=by rw [←Array.getElem?_toList,hvs];exact hv'
  rw [Array.getD_eq_getD_getElem?,h2];rfl
 rw [this];exact hr'
theorem GO {o:Obj} {W:World} (h0:W.heap[0]? =some o) {vs:Array Value} {ps:List PU} (hs:vs.size=ps.length) (hp:ps.all PV.notFresh=true)
  (h: ∀ (j:Nat) p,ps[j]? =some p→Rep (LL o) W (NB (fun _ _=>False) 0 (fun _=>0) fun _=>none) (gB UU 0 fun _=>0) (vs.getD j undef) p):Given (LL o) W vs (fun _ _=>False) (fun _=>0) (fun _=>none) ps [] where
 bnd:=⟨fun i j hi=>absurd hi (Nat.not_lt_zero i),fun i hi=>absurd hi (Nat.not_lt_zero i),fun j b h=>(by cases h),fun i j b h=>(by cases h),fun j b h=>(by cases h),fun b o h=>h.elim⟩
 size:=hs
 dom:=fun j b h=>by cases h
 glob:=fun b o' hb=>by
  simp [LL] at hb
  obtain ⟨rfl,rfl⟩:=hb
  exact ⟨h0,fun i hi=>absurd hi (Nat.not_lt_zero i),fun j h=>by cases h⟩
 args:=fun j p hj=>RepG.of (h j p hj)
 boxes:=fun k b h=>by simp at h
theorem Ib: ∀b o,¬NB (fun _ _=>False) 0 (fun _=>0) (fun _=>none) b o:=by
 rintro b o (h|⟨k,hk,_⟩|⟨j,h⟩)
 ·exact h
 ·exact absurd hk (Nat.not_lt_zero k)
 ·cases h
theorem Ec {o:Obj} {f:FuncId} {ps:List PU} (hok:aE (LL o) f ps [] (.ret (.bool true) [])) {W:World} {vs:Array Value} (hg:Given (LL o) W vs (fun _ _=>False) (fun _=>0) (fun _=>none) ps []):
  Calls Tryz.prog f vs W fun e W'=>e= .returned (.bool true)∧Kept W W':=by
 refine (hok.2 W vs _ _ _ hg).mono ?_
 rintro e W' he
 cases e with
 |returned rv=>
  obtain ⟨ν',δ',hb,hr⟩:=he
  have hr:Rep (LL o) W' _ _ rv (.bool true):=hr
  cases hr
  refine ⟨rfl,hb.ext.os,hb.ext.output,hb.ext.size,fun b hb'=>hb.ext.block b hb' fun hm=> ?_⟩
  simp [ep] at hm
 |panicked ch=>exact he.elim
 |outgrown=>exact he.elim
theorem Md {H:Type}:(Rows.laid_math_bits_deBruijn32tab:DataW H)=Lib.tabData .u8 (Lib.deBruijn32tab.map fun n:Nat=>(n:Int)):=rfl
theorem Me {W:World} (h:laidMetH Tryz.prog [("math/bits.deBruijn32tab",Rows.laid_math_bits_deBruijn32tab)] W): ∃o,ad o∧W.heap[0]? =some o:=by
 have h':laidMet Tryz.prog [("math/bits.deBruijn32tab",Rows.laid_math_bits_deBruijn32tab)] W:=h
 rw [Md] at h'
 have ht:Lib.TabIs Tryz.prog W "math/bits.deBruijn32tab" .u8 (Lib.deBruijn32tab.map fun n:Nat=>(n:Int)):=
  Lib.tabIs_of_head (rest:=[]) tW (by kernel_rfl) Tryz.underlying240 Tryz.underlying5 (by kernel_rfl) (by kernel_rfl) h'
 have hc: ∀j,j<Lib.deBruijn32tab.length→W.cell? ⟨0,j,none⟩=some (.int .u8 (Lib.deBruijn32tab.getD j 0:Nat)):=fun j hj=>by
  rw [ht.cell tW j (by simpa using hj)]
  simp [List.getD,hj]
 have h0:=hc 0 (by decide)
 cases hh:W.heap[0]? with
 |none=>simp [World.cell?,hh] at h0
 |some o=>
  cases o with
  |cells cur e fr=>
   refine ⟨_,⟨cur,e,fr,rfl,fun j hj=> ?_⟩,rfl⟩
   have:=hc j hj
   simpa [World.cell?,hh] using this
  |_=>simp [World.cell?,hh] at h0
end
end Go.Proofs.YtfkkpkhfjpaafaaGreatDoor
namespace Go.Proofs.YtfkkpkhfjpaafaaGreatDoor
open Go PI
set_option linter.unusedVariables false
set_option linter.unusedSimpArgs false
set_option maxRecDepth 100000
noncomputable section
abbrev Rw (S:Type):=List PU→List (Box UU)→(Out UU→Option S)→Option S
abbrev Kn (S:Type):=(Out UU→Option S)→Option S
noncomputable def iI (n:Int):PU:= .int .i64 n
noncomputable def iU (n:Int):PU:= .int .u32 n
noncomputable def pt (i:Nat):PU:= .ptr i 0
noncomputable def aT (t:Tm):PU:= .agg [.int .i64 t.kind,.int .i64 t.n,.str t.name,aA t.r .none,a7 t.kids .none,aZ t.sys .none]
noncomputable def aC (c:Cl):PU:= .agg [.int .u32 c.pos,.int .u32 c.neg]
noncomputable def aB (b:Br Tm):PU:= .agg [aA b.face .none,a7 b.kids .none]
noncomputable def bT (t:Tm):Box UU:= .cells [.int .i64 t.kind,.int .i64 t.n,.str t.name,aA t.r .none,a7 t.kids .none,aZ t.sys .none]
noncomputable def bC (c:Cl):Box UU:= .cells [.int .u32 c.pos,.int .u32 c.neg]
noncomputable def bI (n:Int):Box UU:= .cells [.int .i64 n]
noncomputable def bb (b:Bool):Box UU:= .cells [.bool b]
noncomputable def sC (l:List Cl):PU:=aA l .none
noncomputable def sT (l:List Tm):PU:=a7 l .none
noncomputable def sB (l:List (Br Tm)):PU:=aZ l .none
structure Cd where
 D:Type→Type
 k:{ρ:Type}→ρ→D ρ
 dec:{ρ:Type}→D ρ→PU→Option ρ
 A:{ρ:Type}→D ρ→(PU→ρ→Prop)→Prop
 law: ∀ {ρ:Type} (f:D ρ) (v:PU) (r:ρ) (Q:PU→ρ→Prop),A f Q→dec f v=some r→Q v r
structure Cs where
 D:Type→Type
 n:Nat
 k:{ρ:Type}→ρ→D ρ
 dec:{ρ:Type}→D ρ→List PU→Option ρ
 A:{ρ:Type}→D ρ→(List PU→ρ→Prop)→Prop
 law: ∀ {ρ:Type} (f:D ρ) (v:List PU) (r:ρ) (Q:List PU→ρ→Prop),A f Q→dec f v=some r→Q v r
 len: ∀ {ρ:Type} (f:D ρ) (v:List PU) (r:ρ),dec f v=some r→v.length=n
structure Bs where
 D:Type→Type
 n:Nat
 k:{ρ:Type}→ρ→D ρ
 dec:{ρ:Type}→D ρ→List (Box UU)→Option ρ
 A:{ρ:Type}→D ρ→(List (Box UU)→ρ→Prop)→Prop
 law: ∀ {ρ:Type} (f:D ρ) (v:List (Box UU)) (r:ρ) (Q:List (Box UU)→ρ→Prop),A f Q→dec f v=some r→Q v r
 len: ∀ {ρ:Type} (f:D ρ) (v:List (Box UU)) (r:ρ),dec f v=some r→v.length=n
noncomputable def cn:Cs where
 D ρ:=ρ
 n:=0
 k r:=r
 dec f:=fun|[]=>some f|_=> .none
 A f Q:=Q [] f
 law f v r Q h e:=by split at e<;>cases e;exact h
 len f v r e:=by split at e<;>cases e;rfl
noncomputable def cc (c:Cd) (s:Cs):Cs where
 D ρ:=c.D (s.D ρ)
 n:=s.n+1
 k r:=c.k (s.k r)
 dec f:=fun|v::l=>(c.dec f v).bind fun g=>s.dec g l|[]=> .none
 A f Q:=c.A f fun v g=>s.A g fun l r=>Q (v::l) r
 law f v r Q h e:=by
  split at e
  ·obtain ⟨g,h1,h2⟩:=Option.bind_eq_some_iff.1 e
   have:=s.law g _ r _ (c.law f _ g _ h h1) h2;exact this
  ·cases e
 len f v r e:=by
  split at e
  ·obtain ⟨g,h1,h2⟩:=Option.bind_eq_some_iff.1 e
   simp [s.len g _ r h2]
  ·cases e
noncomputable def xn:Bs where
 D ρ:=ρ
 n:=0
 k r:=r
 dec f:=fun|[]=>some f|_=> .none
 A f Q:=Q [] f
 law f v r Q h e:=by split at e<;>cases e;exact h
 len f v r e:=by split at e<;>cases e;rfl
noncomputable def xc (c:Cs) (s:Bs):Bs where
 D ρ:=c.D (s.D ρ)
 n:=s.n+1
 k r:=c.k (s.k r)
 dec f:=fun| .cells v::l=>(c.dec f v).bind fun g=>s.dec g l|_=> .none
 A f Q:=c.A f fun v g=>s.A g fun l r=>Q (.cells v::l) r
 law f v r Q h e:=by
  split at e
  ·obtain ⟨g,h1,h2⟩:=Option.bind_eq_some_iff.1 e
   have:=s.law g _ r _ (c.law f _ g _ h h1) h2;exact this
  ·cases e
 len f v r e:=by
  split at e
  ·obtain ⟨g,h1,h2⟩:=Option.bind_eq_some_iff.1 e
   simp [s.len g _ r h2]
  ·cases e
noncomputable def cI:Cd where
 D ρ:=Int→ρ
 k r:=fun _=>r
 dec f:=fun| .int .i64 n=>some (f n)|_=> .none
 A f Q:= ∀n:Int,Q (iI n) (f n)
 law f v r Q h e:=by split at e<;>cases e;exact h _
noncomputable def cU:Cd where
 D ρ:=Int→ρ
 k r:=fun _=>r
 dec f:=fun| .int .u32 n=>some (f n)|_=> .none
 A f Q:= ∀n:Int,Q (iU n) (f n)
 law f v r Q h e:=by split at e<;>cases e;exact h _
noncomputable def cN (kd:IntKind):Cd where
 D ρ:=Int→ρ
 k r:=fun _=>r
 dec f:=fun| .int q n=>(match decEq q kd with| .isTrue _=>some (f n)| .isFalse _=> .none)|_=> .none
 A f Q:= ∀n:Int,Q (.int kd n) (f n)
 law f v r Q h e:=by
  split at e
  ·split at e
   ·rename_i hq _;subst hq;cases e;exact h _
   ·cases e
  ·cases e
noncomputable def cb:Cd where
 D ρ:=Bool→ρ
 k r:=fun _=>r
 dec f:=fun| .bool n=>some (f n)|_=> .none
 A f Q:= ∀n:Bool,Q (.bool n) (f n)
 law f v r Q h e:=by split at e<;>cases e;exact h _
noncomputable def cs:Cd where
 D ρ:=ByteArray→ρ
 k r:=fun _=>r
 dec f:=fun| .str n=>some (f n)|_=> .none
 A f Q:= ∀n:ByteArray,Q (.str n) (f n)
 law f v r Q h e:=by split at e<;>cases e;exact h _
noncomputable def lC:Cd where
 D ρ:=List Cl→ρ
 k r:=fun _=>r
 dec f:=fun| .sl .C n .none=>some (f n)|_=> .none
 A f Q:= ∀n:List Cl,Q (sC n) (f n)
 law f v r Q h e:=by split at e<;>cases e;exact h _
noncomputable def lT:Cd where
 D ρ:=List Tm→ρ
 k r:=fun _=>r
 dec f:=fun| .sl .T n .none=>some (f n)|_=> .none
 A f Q:= ∀n:List Tm,Q (sT n) (f n)
 law f v r Q h e:=by split at e<;>cases e;exact h _
noncomputable def lB:Cd where
 D ρ:=List (Br Tm)→ρ
 k r:=fun _=>r
 dec f:=fun| .sl .B n .none=>some (f n)|_=> .none
 A f Q:= ∀n:List (Br Tm),Q (sB n) (f n)
 law f v r Q h e:=by split at e<;>cases e;exact h _
noncomputable def lI:Cd where
 D ρ:=List Int→ρ
 k r:=fun _=>r
 dec f:=fun| .sl .I n .none=>some (f n)|_=> .none
 A f Q:= ∀n:List Int,Q (dP n .none) (f n)
 law f v r Q h e:=by split at e<;>cases e;exact h _
noncomputable def lF:Cd where
 D ρ:=List (List Cl)→ρ
 k r:=fun _=>r
 dec f:=fun| .sl .F n .none=>some (f n)|_=> .none
 A f Q:= ∀n:List (List Cl),Q (pS n .none) (f n)
 law f v r Q h e:=by split at e<;>cases e;exact h _
noncomputable def lD:Cd where
 D ρ:=List Df→ρ
 k r:=fun _=>r
 dec f:=fun| .sl .D n .none=>some (f n)|_=> .none
 A f Q:= ∀n:List Df,Q (gV n .none) (f n)
 law f v r Q h e:=by split at e<;>cases e;exact h _
noncomputable def hC:Cd where
 D ρ:=List Cl→ρ
 k r:=fun _=>r
 dec f:=fun| .fresh .C n=>some (f n)|_=> .none
 A f Q:= ∀n:List Cl,Q (nc n) (f n)
 law f v r Q h e:=by split at e<;>cases e;exact h _
noncomputable def hT:Cd where
 D ρ:=List Tm→ρ
 k r:=fun _=>r
 dec f:=fun| .fresh .T n=>some (f n)|_=> .none
 A f Q:= ∀n:List Tm,Q (GH n) (f n)
 law f v r Q h e:=by split at e<;>cases e;exact h _
noncomputable def hB:Cd where
 D ρ:=List (Br Tm)→ρ
 k r:=fun _=>r
 dec f:=fun| .fresh .B n=>some (f n)|_=> .none
 A f Q:= ∀n:List (Br Tm),Q (GG n) (f n)
 law f v r Q h e:=by split at e<;>cases e;exact h _
noncomputable def cT:Cd where
 D ρ:=Tm→ρ
 k r:=fun _=>r
 dec f:=fun| .agg [.int .i64 a,.int .i64 b,.str c,.sl .C d .none,.sl .T e .none,.sl .B g .none]=>some (f (Tm.mk a b c d e g))|_=> .none
 A f Q:= ∀t:Tm,Q (aT t) (f t)
 law f v r Q h e:=by split at e<;>cases e;exact h (Tm.mk _ _ _ _ _ _)
noncomputable def cC:Cd where
 D ρ:=Cl→ρ
 k r:=fun _=>r
 dec f:=fun| .agg [.int .u32 a,.int .u32 b]=>some (f ⟨a,b⟩)|_=> .none
 A f Q:= ∀t:Cl,Q (aC t) (f t)
 law f v r Q h e:=by split at e<;>cases e;exact h (⟨_,_⟩)
noncomputable def cB:Cd where
 D ρ:=Br Tm→ρ
 k r:=fun _=>r
 dec f:=fun| .agg [.sl .C a .none,.sl .T b .none]=>some (f (Br.mk a b))|_=> .none
 A f Q:= ∀t:Br Tm,Q (aB t) (f t)
 law f v r Q h e:=by split at e<;>cases e;exact h (Br.mk _ _)
noncomputable def xT (s:Bs):Bs where
 D ρ:=Tm→s.D ρ
 n:=s.n+1
 k r:=fun _=>s.k r
 dec f:=fun| .cells [.int .i64 a,.int .i64 b,.str c,.sl .C d .none,.sl .T e .none,.sl .B g .none]::l=>s.dec (f (Tm.mk a b c d e g)) l|_=> .none
 A f Q:= ∀t:Tm,s.A (f t) fun l r=>Q (bT t::l) r
 law f v r Q h e:=by
  split at e
  ·have:=s.law _ _ r _ (h (Tm.mk _ _ _ _ _ _)) e;exact this
  ·cases e
 len f v r e:=by
  split at e
  ·simp [s.len _ _ r e]
  ·cases e
noncomputable def xC (s:Bs):Bs where
 D ρ:=Cl→s.D ρ
 n:=s.n+1
 k r:=fun _=>s.k r
 dec f:=fun| .cells [.int .u32 a,.int .u32 b]::l=>s.dec (f ⟨a,b⟩) l|_=> .none
 A f Q:= ∀t:Cl,s.A (f t) fun l r=>Q (bC t::l) r
 law f v r Q h e:=by
  split at e
  ·have:=s.law _ _ r _ (h (⟨_,_⟩)) e;exact this
  ·cases e
 len f v r e:=by
  split at e
  ·simp [s.len _ _ r e]
  ·cases e
noncomputable def xI (s:Bs):Bs where
 D ρ:=Int→s.D ρ
 n:=s.n+1
 k r:=fun _=>s.k r
 dec f:=fun| .cells [.int .i64 a]::l=>s.dec (f a) l|_=> .none
 A f Q:= ∀t:Int,s.A (f t) fun l r=>Q (bI t::l) r
 law f v r Q h e:=by
  split at e
  ·have:=s.law _ _ r _ (h _) e;exact this
  ·cases e
 len f v r e:=by
  split at e
  ·simp [s.len _ _ r e]
  ·cases e
noncomputable def cp (i:Nat):Cd where
 D ρ:=ρ
 k r:=r
 dec f:=fun| .ptr j 0=>(match decEq j i with| .isTrue _=>some f| .isFalse _=> .none)|_=> .none
 A f Q:=Q (pt i) f
 law f v r Q h e:=by
  split at e
  ·split at e
   ·rename_i hq _;subst hq;cases e;exact h
   ·cases e
  ·cases e
noncomputable def cg (s:Cs):Cd where
 D ρ:=s.D ρ
 k r:=s.k r
 dec f:=fun| .agg l=>s.dec f l|_=> .none
 A f Q:=s.A f fun l r=>Q (.agg l) r
 law f v r Q h e:=by
  split at e
  ·have:=s.law f _ r _ h e;exact this
  ·cases e
noncomputable def cf (i:Nat) (s:Cs) (u:Cs):Cd where
 D ρ:=s.D (u.D ρ)
 k r:=s.k (u.k r)
 dec f:=fun| .func j l m=>(match decEq j i with| .isTrue _=>(s.dec f l).bind fun g=>u.dec g m| .isFalse _=> .none)|_=> .none
 A f Q:=s.A f fun l g=>u.A g fun m r=>Q (.func i l m) r
 law f v r Q h e:=by
  split at e
  ·split at e
   ·rename_i hq _
    subst hq
    obtain ⟨g,h1,h2⟩:=Option.bind_eq_some_iff.1 e
    have:=u.law g _ r _ (s.law f _ g _ h h1) h2;exact this
   ·cases e
  ·cases e
noncomputable def ae {S:Type} (K:Cs) (B:Bs) (F:K.D (B.D (Kn S))):Rw S:=fun vs bs κ=>(K.dec F vs).bind fun g=>(B.dec g bs).bind fun h=>h κ
noncomputable def fS (K:Cs) (B:Bs) (vs:List PU) (bs:List (Box UU)):Bool:=((K.dec (K.k (B.k ())) vs).bind fun g=>B.dec g bs).isSome
noncomputable def AA {S:Type} (K:Cs) (B:Bs) (F:K.D (B.D (Kn S))) (Q:List PU→List (Box UU)→Kn S→Prop):Prop:=K.A F fun vs g=>B.A g fun bs h=>Q vs bs h
theorem jB {S:Type} {K:Cs} {B:Bs} {F:K.D (B.D (Kn S))} {Q:List PU→List (Box UU)→Kn S→Prop} (hA:AA K B F Q) {vs:List PU} {bs:List (Box UU)} {κ:Out UU→Option S} {x:S} (h:ae K B F vs bs κ=some x):
  ∃g,Q vs bs g∧g κ=some x∧vs.length=K.n∧bs.length=B.n:=by
 obtain ⟨g,h1,h2⟩:=Option.bind_eq_some_iff.1 h
 obtain ⟨u,h3,h4⟩:=Option.bind_eq_some_iff.1 h2
 have:=K.law F vs g _ hA h1
 have:=B.law g bs u _ this h3
 exact ⟨u,this,h4,K.len _ _ _ h1,B.len _ _ _ h3⟩
noncomputable def Tl {S:Type} (o:Obj) (f:Nat) (r:Rw S):Prop:= ∀vs bs κ x,r vs bs κ=some x→ ∃out,aE (LL o) f vs bs out∧κ out=some x
noncomputable def gD {S:Type}:List (Nat×Rw S)→Oracle UU S
 |[],_,_,_,_=> .none
 |(g,r)::l,f,vs,bs,κ=>bif Nat.beq f g then r vs bs κ else gD l f vs bs κ
noncomputable def TA {S:Type} (o:Obj):List (Nat×Rw S)→Prop
 |[]=>True
 |(f,r)::l=>Tl o f r∧TA o l
theorem TA.tells {S:Type} {o:Obj}: ∀ {l:List (Nat×Rw S)},TA o l→(gD l).Tells (aE (LL o))
 |[],_,f,vs,bs,κ,x,h=>by cases h
 |(g,r)::l,hl,f,vs,bs,κ,x,h=>by
  unfold gD at h
  cases hb:Nat.beq f g with
  |true=>
   rw [hb] at h
   have:=Nat.eq_of_beq_eq_true hb
   subst this
   exact hl.1 _ _ _ _ h
  |false=>
   rw [hb] at h
   exact TA.tells hl.2 _ _ _ _ _ h
noncomputable def ew {S:Type} (b:List PU→List (Box UU)→Bool) (r q:Rw S):Rw S:=fun vs bs κ=>bif b vs bs then r vs bs κ else q vs bs κ
theorem gG {S:Type} {o:Obj} {f:Nat} {b:List PU→List (Box UU)→Bool} {r q:Rw S} (h1:Tl o f r) (h2:Tl o f q):Tl o f (ew b r q):=fun vs bs κ x h=>by
 unfold ew at h
 rcases D0 h with h|h
 ·exact h1 _ _ _ _ h
 ·exact h2 _ _ _ _ h
structure Fx (S:Type) where
 sd:Side UU
 rows:List (Nat×Rw S)
 loops:List (Nat×Ann×List Bool)
 k:Nat
 fn:Func
 kp:Bool
 hn:List Bool
 nb:Nat
 cd:Option (PU→Oracle UU S)
noncomputable def qe:List (Nat×Ann×List Bool)→Nat→Option Ann
 |[],_=> .none
 |(i,a,_)::l,n=>bif Nat.beq n i then some a else qe l n
noncomputable def oC:List (Nat×Ann×List Bool)→Nat→Ann×List Bool
 |[],_=>(⟨[],[]⟩,[])
 |(i,a)::l,n=>bif Nat.beq n i then a else oC l n
noncomputable def ay (rs:List Nat) (bs:List (Nat×Nat)):Ann:=⟨rs.map fun n=>(n,.none),bs.map fun p=>(p.1,List.replicate p.2 .none)⟩
noncomputable def aj:Nat→Nat→List Bool
 |0,_=>[]
 |n+1,b=>Nat.beq (b%2) 1::aj n (b/2)
noncomputable def fx {S:Type} (nt:Nat) (gv:Nat→List Bool) (ip:Nat→Bool) (rows:List (Nat×Rw S)) (loops:List (Nat×Ann×List Bool)) (k:Nat) (fn:Func) (kp:Bool) (hn:List Bool) (nb:Nat):Fx S:=
 ⟨⟨nt,gv,ip,.none,fun _=>false⟩,rows,loops,k,fn,kp,hn,nb,.none⟩
noncomputable def fp {S:Type} (nt:Nat) (rows:List (Nat×Rw S)) (loops:List (Nat×Ann×List Bool)) (k:Nat) (fn:Func) (nb:Nat):Fx S:=fx nt (fun _=>[]) (fun _=>false) rows loops k fn false [] nb
variable {S:Type}
noncomputable def Fx.oc (F:Fx S):Oracle UU S:=gD F.rows
noncomputable def Fx.an (F:Fx S):Nat→Option Ann:=qe F.loops
noncomputable def Fx.go (F:Fx S) (c:Code) (σ:St UU) (κ:Ex UU→St UU→Option S):Option S:=PI.run VV F.sd F.oc F.an F.k c σ κ
noncomputable def Fx.kt (F:Fx S) (κ:Out UU→Option S) (p:List Bool) (κs:List (St UU→Option S)):Ex UU→St UU→Option S:=match F.cd with
 | .none=>dq VV F.sd F.oc F.an F.k (bN F.fn) p κs F.an (kF VV F.oc F.kp F.hn F.fn F.nb κ)
 |some C=>uB VV F.sd F.oc F.an F.k (bN F.fn) p κs F.an (kF VV F.oc F.kp F.hn F.fn F.nb κ) (kD VV F.oc C F.kp F.hn F.fn F.nb κ)
noncomputable def Fx.run (F:Fx S) (vs:List PU) (bs:List (Box UU)) (κ:Out UU→Option S):Option S:=match F.cd with
 | .none=>fh VV F.sd F.oc F.an F.k F.kp F.hn F.fn vs bs κ
 |some C=>pL VV F.sd F.oc F.an F.k C F.kp F.hn F.fn vs bs κ
noncomputable def Fx.A (F:Fx S) (i:Nat):Ann:=(oC F.loops i).1
noncomputable def Fx.p (F:Fx S) (i:Nat):List Bool:=(oC F.loops i).2
noncomputable def Fx.lp (F:Fx S) (κ:Out UU→Option S) (i:Nat) (κs:List (St UU→Option S)) (n:Nat) (σ:St UU):Option S:=
 gi (a6 (F.A i)) (fun σ κ=>F.go (bY (bN F.fn) (F.p i++[false])) σ κ) n σ (F.kt κ (F.p i) κs)
noncomputable def Fx.st (F:Fx S) (κ:Out UU→Option S) (i:Nat) (κs:List (St UU→Option S)) (r:St UU→Option S) (σ:St UU):Option S:=
 F.go (bY (bN F.fn) (F.p i++[false])) σ (back (a6 (F.A i)) r (F.kt κ (F.p i) κs))
noncomputable def Fx.jn (F:Fx S) (κ:Out UU→Option S) (i:Nat) (κs:List (St UU→Option S)) (n:Nat) (σ:St UU):Option S:=
 nr (fun σ κ=>F.go (bY (bN F.fn) (F.p i)) σ κ) n σ (F.kt κ (F.p i) κs)
noncomputable def Fx.sj (F:Fx S) (κ:Out UU→Option S) (i:Nat) (κs:List (St UU→Option S)) (σ:St UU):Option S:=F.go (bY (bN F.fn) (F.p i)) σ (F.kt κ (F.p i) κs)
theorem Fx.lp_succ (F:Fx S) (κ:Out UU→Option S) (i:Nat) (κs:List (St UU→Option S)) (n:Nat) (σ:St UU):F.lp κ i κs (n+1) σ=F.st κ i κs (fun τ=>F.lp κ i κs n τ) σ:=rfl
theorem Fx.jn_succ (F:Fx S) (κ:Out UU→Option S) (i:Nat) (κs:List (St UU→Option S)) (n:Nat) (σ:St UU):F.jn κ i κs (n+1) σ=F.sj κ i κs σ:=rfl
noncomputable def gE (F:Fx S) (n m:Nat):Bool:=(F.fn.name== "runtime.NumGoroutine")==false&&(F.fn.body.isNone==false&&(Nat.beq F.fn.ntmps F.sd.nt&&(Nat.ble F.sd.nt 1000000&&(Nat.ble n F.sd.nt&&Nat.ble m 1000000))))
theorem oU {F:Fx S} {n m:Nat} (h:gE F n m=true):(F.fn.name== "runtime.NumGoroutine")=false∧F.fn.body.isNone=false∧F.fn.ntmps=F.sd.nt∧F.sd.nt≤1000000∧n≤F.sd.nt∧m≤1000000:=by
 unfold gE at h
 simp only [Bool.and_eq_true,beq_iff_eq] at h
 obtain ⟨h1,h2,h3,h4,h5,h6⟩:=h
 exact ⟨h1,h2,Nat.eq_of_beq_eq_true h3,Nat.le_of_ble_eq_true h4,Nat.le_of_ble_eq_true h5,Nat.le_of_ble_eq_true h6⟩
theorem af {o:Obj} {K:Cs} {B:Bs} {R:K.D (B.D (Kn S))} (F:Fx S) {f:FuncId} (ht:TA o F.rows) (hf:Tryz.prog.funcs[f]? =some F.fn) (hb:gE F K.n B.n=true) (run:AA K B R fun vs bs g=> ∀κ x,g κ=some x→F.run vs bs κ=some x)
  (h1:F.sd.rcv= .none:=by rfl) (h2:F.sd.pin=(fun _=>false):=by rfl) (h3:F.cd= .none:=by rfl):Tl o f (ae K B R):=fun vs bs κ x h=>by
 obtain ⟨g,hg,hx,hl,hm⟩:=jB run h
 have hr:=hg κ x hx
 unfold Fx.run at hr
 rw [h3] at hr
 obtain ⟨b1,b2,b3,b4,b5,b6⟩:=oU hb
 exact sw (yu jA (i7 o) h1 h2 ht.tells hf b1 b2 b3 b4 (by omega) hr)
open Classical in
noncomputable def ic {S:Type} (bs:List (Box UU)) (κ:Out UU→Option S):Out UU→Option S
 | .ret v cs=>if cs=bs then κ (.ret v []) else .none
 | .panic .. => .none
theorem zQ {S:Type} {o:Obj} {K:Cs} {B:Bs} {R:K.D (B.D (Kn S))} {f:FuncId} {r:Rw S} (h:Tl o f r) (run:AA K B R fun vs bs g=> ∀κ x,g κ=some x→r vs bs (ic bs κ)=some x):Tl o f (ae K B R):=fun vs bs κ x hx=>by
 obtain ⟨g,hg,hx,_⟩:=jB run hx
 obtain ⟨out,hok,hκ⟩:=h _ _ _ _ (hg κ x hx)
 cases out with
 |panic v cs=>cases hκ
 |ret v cs=>
  simp only [ic] at hκ
  split at hκ
  case isFalse=>cases hκ
  rename_i hc
  subst hc
  refine ⟨.ret v [], ?_,hκ⟩
  have e:Out.full cs (.ret v [])=Out.full cs (.ret v cs):=by
   have hb:Nat.ble cs.length cs.length=true:=by simp
   simp only [Out.full,hb,cond_true]
   cases cs<;>rfl
  unfold aE
  rw [e]
  exact hok
theorem cv {o:Obj} {K:Cs} {B:Bs} {R:K.D (B.D (Kn S))} {f:FuncId} (h0:AA K B R fun vs bs g=> ∀κ x,g κ=some x→False):Tl o f (ae K B R):=fun vs bs κ x h=>by
 obtain ⟨g,hg,hx,_⟩:=jB h0 h
 exact (hg κ x hx).elim
noncomputable def eK (nt f:Nat) (fn:Func) (k:Nat):PU→Oracle UU S:=fun v g vs bs κ=>bif Nat.beq g f&&Nat.ble vs.length nt then pM VV ⟨nt,fun _=>[],fun _=>false,.none,fun _=>false⟩ (gD []) (fun _=> .none) k true [] fn v vs bs κ else .none
theorem hX (o:Obj) {nt f:Nat} {fn:Func} {k:Nat} (hf:Tryz.prog.funcs[f]? =some fn) (hb:gE (fp nt [] [] k fn 0:Fx S) 0 0=true): ∀v u u',RcvOK v u u'→(eK (S:=S) nt f fn k v).Tells (de (LL o) (c8 Tryz.prog u u')):=by
 intro v u u' hv g vs bs κ x h
 unfold eK at h
 cases hc:Nat.beq g f&&Nat.ble vs.length nt with
 |false=>rw [hc] at h;cases h
 |true=>
  rw [hc] at h
  rw [Bool.and_eq_true] at hc
  have:=Nat.eq_of_beq_eq_true hc.1
  subst this
  obtain ⟨b1,b2,b3,b4,_,_⟩:=oU hb
  exact sw (JA jA (i7 o) rfl rfl (TA.tells (l:=[]) (o:=o) trivial) hf b1 b2 b3 b4 hv (Nat.le_of_ble_eq_true hc.2) h)
theorem kn {o:Obj} {K:Cs} {B:Bs} {R:K.D (B.D (Kn S))} (F:Fx S) {f:FuncId} {C:PU→Oracle UU S} (h3:F.cd=some C) (hC: ∀v u u',RcvOK v u u'→(C v).Tells (de (LL o) (c8 Tryz.prog u u'))) (ht:TA o F.rows) (hf:Tryz.prog.funcs[f]? =some F.fn) (hb:gE F K.n B.n=true)
  (run:AA K B R fun vs bs g=> ∀κ x,g κ=some x→F.run vs bs κ=some x) (h1:F.sd.rcv= .none:=by rfl):Tl o f (ae K B R):=fun vs bs κ x h=>by
 obtain ⟨g,hg,hx,hl,hm⟩:=jB run h
 have hr:=hg κ x hx
 unfold Fx.run at hr
 rw [h3] at hr
 obtain ⟨b1,b2,b3,b4,b5,b6⟩:=oU hb
 exact sw (Jy jA (i7 o) h1 ht.tells hC hf b1 b2 b3 b4 (by omega) (by omega) hr)
theorem i9 {F:Fx S} {κ:Out UU→Option S} {i:Nat} {κs:List (St UU→Option S)} {mk:St UU} {l:Nat→Option S} (b:Option S) (h0:l 0= .none) (hs: ∀n,l (n+1)=b) (B:F.sj κ i κs mk=b): ∀ (n:Nat),F.jn κ i κs n mk=l n:=by
 intro n
 cases n with
 |zero=>intros;rw [h0];rfl
 |succ n=>intros;rw [hs,Fx.jn_succ];exact B
theorem bo {F:Fx S} {κ:Out UU→Option S} {i:Nat} {κs:List (St UU→Option S)} {α0:Type} {mk:α0→St UU} {l:Nat→α0→Option S} (b:(α0→Option S)→α0→Option S) (h0:l 0=fun x0=> .none) (hs: ∀n,l (n+1)=b (l n)) (B: ∀ (r:St UU→Option S) x0,F.st κ i κs r (mk x0)=b (fun x0=>r (mk x0)) x0): ∀ (n:Nat) x0,F.lp κ i κs n (mk x0)=l n x0:=by
 intro n
 induction n with
 |zero=>intros;rw [h0];rfl
 |succ n ih=>
  intros
  rw [hs,Fx.lp_succ,B]
  exact congrArg (fun g=>b g _) (funext fun x0=>ih x0)
theorem nq {F:Fx S} {κ:Out UU→Option S} {i:Nat} {κs:List (St UU→Option S)} {α0:Type} {mk:α0→St UU} {l:Nat→α0→Option S} (b:α0→Option S) (h0:l 0=fun x0=> .none) (hs: ∀n,l (n+1)=b) (B: ∀x0,F.sj κ i κs (mk x0)=b x0): ∀ (n:Nat) x0,F.jn κ i κs n (mk x0)=l n x0:=by
 intro n
 cases n with
 |zero=>intros;rw [h0];rfl
 |succ n=>intros;rw [hs,Fx.jn_succ];exact B _
theorem ax {F:Fx S} {κ:Out UU→Option S} {i:Nat} {κs:List (St UU→Option S)} {α0 α1:Type} {mk:α0→α1→St UU} {l:Nat→α0→α1→Option S} (b:(α0→α1→Option S)→α0→α1→Option S) (h0:l 0=fun x0 x1=> .none) (hs: ∀n,l (n+1)=b (l n)) (B: ∀ (r:St UU→Option S) x0 x1,F.st κ i κs r (mk x0 x1)=b (fun x0 x1=>r (mk x0 x1)) x0 x1): ∀ (n:Nat) x0 x1,F.lp κ i κs n (mk x0 x1)=l n x0 x1:=by
 intro n
 induction n with
 |zero=>intros;rw [h0];rfl
 |succ n ih=>
  intros
  rw [hs,Fx.lp_succ,B]
  exact congrArg (fun g=>b g _ _) (funext fun x0=>funext fun x1=>ih x0 x1)
theorem GZ {F:Fx S} {κ:Out UU→Option S} {i:Nat} {κs:List (St UU→Option S)} {α0 α1:Type} {mk:α0→α1→St UU} {l:Nat→α0→α1→Option S} (b:α0→α1→Option S) (h0:l 0=fun x0 x1=> .none) (hs: ∀n,l (n+1)=b) (B: ∀x0 x1,F.sj κ i κs (mk x0 x1)=b x0 x1): ∀ (n:Nat) x0 x1,F.jn κ i κs n (mk x0 x1)=l n x0 x1:=by
 intro n
 cases n with
 |zero=>intros;rw [h0];rfl
 |succ n=>intros;rw [hs,Fx.jn_succ];exact B _ _
theorem bQ {F:Fx S} {κ:Out UU→Option S} {i:Nat} {κs:List (St UU→Option S)} {α0 α1 α2:Type} {mk:α0→α1→α2→St UU} {l:Nat→α0→α1→α2→Option S} (b:(α0→α1→α2→Option S)→α0→α1→α2→Option S) (h0:l 0=fun x0 x1 x2=> .none) (hs: ∀n,l (n+1)=b (l n)) (B: ∀ (r:St UU→Option S) x0 x1 x2,F.st κ i κs r (mk x0 x1 x2)=b (fun x0 x1 x2=>r (mk x0 x1 x2)) x0 x1 x2): ∀ (n:Nat) x0 x1 x2,F.lp κ i κs n (mk x0 x1 x2)=l n x0 x1 x2:=by
 intro n
 induction n with
 |zero=>intros;rw [h0];rfl
 |succ n ih=>
  intros
  rw [hs,Fx.lp_succ,B]
  exact congrArg (fun g=>b g _ _ _) (funext fun x0=>funext fun x1=>funext fun x2=>ih x0 x1 x2)
theorem H0 {F:Fx S} {κ:Out UU→Option S} {i:Nat} {κs:List (St UU→Option S)} {α0 α1 α2 α3 α4 α5 α6 α7 α8:Type} {mk:α0→α1→α2→α3→α4→α5→α6→α7→α8→St UU} {l:Nat→α0→α1→α2→α3→α4→α5→α6→α7→α8→Option S} (b:(α0→α1→α2→α3→α4→α5→α6→α7→α8→Option S)→α0→α1→α2→α3→α4→α5→α6→α7→α8→Option S) (h0:l 0=fun x0 x1 x2 x3 x4 x5 x6 x7 x8=> .none) (hs: ∀n,l (n+1)=b (l n)) (B: ∀ (r:St UU→Option S) x0 x1 x2 x3 x4 x5 x6 x7 x8,F.st κ i κs r (mk x0 x1 x2 x3 x4 x5 x6 x7 x8)=b (fun x0 x1 x2 x3 x4 x5 x6 x7 x8=>r (mk x0 x1 x2 x3 x4 x5 x6 x7 x8)) x0 x1 x2 x3 x4 x5 x6 x7 x8): ∀ (n:Nat) x0 x1 x2 x3 x4 x5 x6 x7 x8,F.lp κ i κs n (mk x0 x1 x2 x3 x4 x5 x6 x7 x8)=l n x0 x1 x2 x3 x4 x5 x6 x7 x8:=by
 intro n
 induction n with
 |zero=>intros;rw [h0];rfl
 |succ n ih=>
  intros
  rw [hs,Fx.lp_succ,B]
  exact congrArg (fun g=>b g _ _ _ _ _ _ _ _ _) (funext fun x0=>funext fun x1=>funext fun x2=>funext fun x3=>funext fun x4=>funext fun x5=>funext fun x6=>funext fun x7=>funext fun x8=>ih x0 x1 x2 x3 x4 x5 x6 x7 x8)
end
end Go.Proofs.YtfkkpkhfjpaafaaGreatDoor
namespace Go.Proofs.YtfkkpkhfjpaafaaGreatDoor
open Go PI
set_option linter.unusedVariables false
set_option maxRecDepth 100000
noncomputable def g7:Side UU:=⟨8,fun _=>[],fun _=>false,.none,fun _=>false⟩
noncomputable def jD {S:Type}:Oracle UU S:=fun _ _ _ _=> .none
theorem c1 {S:Type} (κ:Out UU→Option S):fh VV g7 jD (fun _=> .none) 5 false [] Tryz.f48 [.sl (U:=UU) ET.C [] .void] [] κ=κ (.ret (aA [] .none) []):=by kernel_rfl
theorem c2 {S:Type} (l:List Cl) (κ:Out UU→Option S):fh VV g7 jD (fun _=> .none) 5 false [] Tryz.f48 [.sl (U:=UU) ET.C l .sure] [] κ=Option.bind (ak 1099511627776 0 l.length) fun _=>κ (.ret (aA l .none) []):=by kernel_rfl
theorem IM {S:Type} (o:Obj):(jD (S:=S)).Tells (aE (LL o)):=fun _ _ _ _ _ h=>by cases h
theorem rm (o:Obj) {args:List PU} (hl:args.length=1) {out:Out UU} (h:fh VV g7 jD (fun _=> .none) 5 false [] Tryz.f48 args [] some=some out):aE (LL o) 48 args [] out:=by
 obtain ⟨out',h1,h2⟩:=yu jA (i7 o) (S:=g7) rfl rfl (IM o) (f:=48) Tryz.func48 (by kernel_rfl) rfl rfl (by decide) (by rw [hl];decide) h
 injection h1 with h1
 exact h1▸h2
theorem tZ {X:Link VV Tryz.prog} {w:World} {vs:Array Value} {N0:ai} {ν:Nat→Nat} {δ:Nat→Option Nat} {p q:PU} (h:Given X w vs N0 ν δ [p] [])
  (hr:RepG X w (NB N0 0 ν δ) (gB UU 0 ν) (vs.getD 0 undef) (δ 0) p→RepG X w (NB N0 0 ν δ) (gB UU 0 ν) (vs.getD 0 undef) (δ 0) q):Given X w vs N0 ν δ [q] []:=
 {h with
  args:=fun j r hj=>by
   cases j with
   |zero=>
    injection hj with hj
    subst hj
    exact hr (h.args 0 p rfl)
   |succ j=>simp at hj}
theorem Em (o:Obj) (l:List Cl) {u:Unit} (hroom:ak 1099511627776 0 l.length=some u):aE (LL o) 48 [aA l .none] [] (.ret (aA l .none) []):=by
 refine ⟨⟨Tryz.f48,Tryz.func48,by kernel_rfl,rfl⟩,fun w vs N0 ν δ hg=> ?_⟩
 have h0:Rep (LL o) w (NB N0 0 ν δ) (gB UU 0 ν) (vs.getD 0 undef) (aA l .none):=hg.args 0 _ rfl
 generalize hv:vs.getD 0 undef=v at h0
 cases h0 with
 |sl A n c _ _ _ val hl hc _ h1 h2=>
 cases A with
 |none=>
  have hl0:l=[]:=by
   cases l with
   |nil=>rfl
   |cons x r=>
    obtain ⟨a,ha,_⟩:=h1 0 x rfl 0 _ rfl
    cases ha
  subst hl0
  exact (rm o (args:=[aA [] .void]) rfl (c1 some)).2 w vs N0 ν δ (tZ hg fun _=>by
   rw [hv];exact Rep.sl (X:=LL o) none n c ET.C (show List Cl from []) .void val hl hc rfl h1 h2)
 |some a=>
  refine (rm o (args:=[aA l .sure]) rfl (out:= .ret (aA l .none) []) ((c2 l some).trans (by rw [hroom];rfl))).2 w vs N0 ν δ (tZ hg fun _=> ?_)
  rw [hv]
  exact Rep.sl (X:=LL o) (some a) n c ET.C l .sure val hl hc (fun h=>by cases h) h1 h2
theorem Mj {S:Type} (o:Obj) (ho:ad o) (vs:List PU) (bs:List (Box UU)) (κ:Out UU→Option S) (x:S) (h:pK vs bs κ=some x): ∃out,aE (LL o) Gz vs bs out∧κ out=some x:=by
 unfold pK at h
 split at h
 case h_2=>cases h
 rename_i κ y
 unfold jH at h
 obtain ⟨u,hr,h⟩:=Option.bind_eq_some_iff.1 h
 exact ⟨_,Em o y hr,h⟩
end Go.Proofs.YtfkkpkhfjpaafaaGreatDoor
namespace Go.Proofs.YtfkkpkhfjpaafaaGreatDoor
open Go PI
set_option linter.unusedVariables false
set_option maxRecDepth 100000
noncomputable section
noncomputable def ns:Cs:=cc cT (cc cI cn)
noncomputable def be:Cs:=cc cT cn
noncomputable def nx:Cs:=cc cI (cc lT cn)
noncomputable def G_:Cs:=cc cI (cc cI cn)
noncomputable def jb:Cs:=cc cT (cc cI (cc cI (cc (cp 0) cn)))
noncomputable def aD:Bs:=xI xn
noncomputable def Ht:Cs:=cc cT (cc (cf 115 cn (cc (cp 0) cn)) cn)
noncomputable def Hw:Cs:=cc cT (cc (cf 117 cn (cc (cp 0) cn)) cn)
noncomputable def z_:Bs:=xc (cc (cf 116 cn (cc (cp 1) (cc (cp 0) cn))) cn) (xI xn)
noncomputable def HH:Cs:=cc cT (cc (cp 0) (cc (cp 1) cn))
noncomputable def Mw:Bs:=xI (xc (cc (cf 116 cn (cc (cp 0) (cc (cp 1) cn))) cn) xn)
noncomputable def dp:Cs:=cc cI cn
noncomputable def G5:Cs:=cc cs cn
noncomputable def nu:Cs:=cc cU cn
noncomputable def i_:Cs:=cc cC cn
noncomputable def ui:Cs:=cc cC (cc cC cn)
noncomputable def nw:Cs:=cc cC (cc (cp 0) cn)
noncomputable def g0:Bs:=xC xn
noncomputable def uj:Cs:=cc lC (cc (cf 168 cn (cc (cp 0) cn)) cn)
noncomputable def Mx:Bs:=xc (cc lC cn) xn
noncomputable def cP:Cs:=cc lC cn
noncomputable def fV:Cs:=cc lC (cc lC cn)
noncomputable def ja:Cs:=cc cU (cc cI cn)
noncomputable def G6:Cs:=cc lC (cc cI cn)
noncomputable def uk:Cs:=cc lC (cc (cf 160 cn cn) cn)
noncomputable def fW:Cs:=cc cT (cc cI (cc cI cn))
noncomputable def G7:Cs:=cc cT (cc cI (cc cI (cc cb cn)))
noncomputable def G8:Cs:=cc cT (cc cI (cc cI (cc (cp 0) (cc (cp 1) (cc (cp 2) cn)))))
noncomputable def zZ:Bs:=xI (xI (xc (cc cb cn) xn))
noncomputable def G9:Cs:=cc cT (cc (cf 72 cn (cc (cp 0) (cc (cp 1) (cc (cp 2) cn)))) cn)
noncomputable def ul:Cs:=cc lT cn
noncomputable def fX:Cs:=cc (cp 0) cn
noncomputable def um:Cs:=cc lB cn
noncomputable def Ha:Cs:=cc (cp 0) (cc cI cn)
noncomputable def Hb:Cs:=cc lF cn
noncomputable def Hc:Cs:=cc cU (cc cI (cc cI cn))
noncomputable def He:Cs:=cc cC (cc cI (cc cI cn))
noncomputable def Hf:Cs:=cc hC (cc cC (cc (cp 0) (cc (cp 1) cn)))
noncomputable def ku:Bs:=xI (xI xn)
noncomputable def Hg:Cs:=cc lC (cc hC (cc (cf 127 cn (cc (cp 0) (cc (cp 1) cn))) cn))
noncomputable def Hh:Cs:=cc lC (cc cI (cc cI cn))
noncomputable def Hi:Cs:=cc (cg (cc cI (cc cI cn))) (cc lC (cc cI cn))
noncomputable def Hj:Cs:=cc (cg (cc cI (cc cI cn))) (cc cT (cc cI (cc cI cn)))
noncomputable def ny:Cs:=cc (cp 0) (cc (cp 1) (cc (cp 2) cn))
noncomputable def z6:Bs:=xI (xI (xT xn))
noncomputable def Hk:Cs:=cc cT (cc lI (cc (cf 97 cn (cc (cp 0) (cc (cp 1) (cc (cp 2) cn)))) cn))
noncomputable def nz:Cs:=cc (cp 0) (cc cT (cc cI (cc cI cn)))
noncomputable def dH:Cs:=cc (cp 0) (cc cT cn)
noncomputable def Hl:Cs:=cc (cp 0) (cc lC cn)
noncomputable def kw:Bs:=xI (xT (xI xn))
noncomputable def Hm:Cs:=cc cT (cc lI (cc (cf 91 cn (cc (cp 0) (cc (cp 1) (cc (cp 2) cn)))) cn))
noncomputable def uo:Cs:=cc cT (cc cI (cc lC cn))
noncomputable def up:Cs:=cc (cf 221 cn cn) (cc (cp 0) (cc (cp 1) cn))
noncomputable def g4:Bs:=xI (xc (cc lC cn) xn)
noncomputable def Hn:Cs:=cc (cf 222 cn cn) (cc (cp 0) (cc (cp 1) cn))
noncomputable def Ho:Cs:=cc cI (cc lC cn)
noncomputable def Hp:Cs:=cc lC (cc (cf 295 cn cn) cn)
noncomputable def Hq:Cs:=cc lC (cc (cf 296 cn (cc (cp 0) cn)) cn)
noncomputable def Hr:Cs:=cc lC (cc cC cn)
noncomputable def Hs:Cs:=cc lC (cc lC (cc (cf 292 cn cn) cn))
noncomputable def uq:Cs:=cc lC (cc cI (cc lC cn))
noncomputable def nA:Cs:=cc lC (cc cI (cc (cp 0) (cc (cp 1) (cc (cp 2) cn))))
noncomputable def My:Bs:=xI (xc (cc lC cn) (xc (cc (cf 222 cn cn) cn) xn))
noncomputable def Hu:Cs:=cc lC (cc cC (cc (cp 0) (cc (cp 1) cn)))
noncomputable def Hv:Cs:=cc lC (cc lC (cc (cf 261 cn (cc (cp 0) (cc (cp 1) cn))) cn))
noncomputable def z7:Bs:=xI (xc (cc lC cn) (xc (cc (cf 221 cn cn) cn) xn))
noncomputable def nB:Cs:=cc (cg (cc (cf 218 cn (cc (cp 0) (cc (cp 1) (cc (cp 2) cn)))) (cc (cf 218 cn (cc (cp 0) (cc (cp 1) (cc (cp 3) cn)))) cn))) (cc cT (cc cI cn))
noncomputable def p4:Bs:=xI (xc (cc lC cn) (xc (cc (cf 221 cn cn) cn) (xc (cc (cf 222 cn cn) cn) xn)))
noncomputable def ur:Cs:=cc cI (cc (cp 0) cn)
noncomputable def Mz:Bs:=xT xn
noncomputable def ut:Cs:=cc (cg (cc (cf 218 cn (cc (cp 0) (cc (cp 1) (cc (cp 2) cn)))) (cc (cf 218 cn (cc (cp 0) (cc (cp 1) (cc (cp 3) cn)))) cn))) (cc lT (cc cI (cc (cf 226 cn (cc (cp 4) cn)) cn)))
noncomputable def z8:Bs:=xI (xc (cc lC cn) (xc (cc (cf 221 cn cn) cn) (xc (cc (cf 222 cn cn) cn) (xI xn))))
noncomputable def Hx:Cs:=cc (cg (cc (cf 218 cn (cc (cp 0) (cc (cp 1) (cc (cp 2) cn)))) (cc (cf 218 cn (cc (cp 0) (cc (cp 1) (cc (cp 3) cn)))) cn))) (cc lT (cc cI (cc (cf 225 cn (cc (cp 4) cn)) cn)))
noncomputable def MA:Bs:=xI (xc (cc lC cn) (xc (cc (cf 221 cn cn) cn) (xc (cc (cf 222 cn cn) cn) (xT xn))))
noncomputable def Hy:Cs:=cc lC (cc cI (cc (cp 0) cn))
noncomputable def uu:Cs:=cc (cg (cc (cf 227 cn (cc (cp 0) cn)) (cc (cf 227 cn (cc (cp 0) cn)) cn))) (cc cT (cc cI cn))
noncomputable def uw:Cs:=cc (cg (cc (cf 227 cn (cc (cp 0) cn)) (cc (cf 227 cn (cc (cp 0) cn)) cn))) (cc lT (cc cI (cc (cf 226 cn (cc (cp 1) cn)) cn)))
noncomputable def Hz:Cs:=cc (cg (cc (cf 227 cn (cc (cp 0) cn)) (cc (cf 227 cn (cc (cp 0) cn)) cn))) (cc lT (cc cI (cc (cf 225 cn (cc (cp 1) cn)) cn)))
noncomputable def MB:Bs:=xI (xT xn)
noncomputable def ux:Cs:=cc (cp 0) (cc cT (cc lC cn))
noncomputable def uy:Cs:=cc cT (cc cT (cc lB cn))
noncomputable def nC:Cs:=cc (cp 0) (cc cT (cc cI cn))
noncomputable def uz:Cs:=cc (cp 0) (cc cT (cc cT (cc lB cn)))
noncomputable def HA:Cs:=cc cT (cc lI (cc (cf 89 cn (cc (cp 0) (cc (cp 1) (cc (cp 2) cn)))) cn))
noncomputable def HB:Cs:=cc cT (cc (cf 143 cn (cc (cp 0) cn)) cn)
noncomputable def HC:Cs:=cc cT (cc cI (cc cT (cc cI (cc cI cn))))
noncomputable def HD:Cs:=cc cT (cc (cf 145 cn (cc (cp 0) cn)) cn)
noncomputable def HE:Cs:=cc cT (cc cI (cc cT cn))
noncomputable def HF:Cs:=cc (cp 0) (cc cT (cc cT cn))
noncomputable def HG:Cs:=cc cT (cc cI (cc cT (cc (cp 0) (cc (cp 1) (cc (cp 2) cn)))))
noncomputable def MC:Bs:=xT (xI (xc (cc (cp 3) cn) (xI xn)))
noncomputable def HI:Cs:=cc lC (cc lT cn)
noncomputable def HJ:Cs:=cc cI (cc lC (cc lT cn))
noncomputable def HK:Cs:=cc (cp 0) (cc lC (cc cI cn))
noncomputable def HL:Cs:=cc cI (cc lB (cc lT cn))
noncomputable def G3:Cs:=cc cB cn
noncomputable def G4:Cs:=cc lB (cc (cf 282 cn cn) cn)
noncomputable def uh:Cs:=cc lD (cc cT cn)
noncomputable def kr:Bs:=xc (cc cI (cc lC (cc cI (cc cI (cc cs (cc lC (cc lT (cc lB cn)))))))) xn
noncomputable def ap {S:Type} (κ:Out UU→Option S):Int→Option S:=fun r=>κ (.ret (iI r) [])
noncomputable def ar {S:Type} (κ:Out UU→Option S):Bool→Option S:=fun r=>κ (.ret (.bool r) [])
noncomputable def o8 {S:Type} (κ:Out UU→Option S):Int×Int×ByteArray×List Tm→Option S:=fun r=>κ (.ret (.agg [(iI r.1),(iI r.2.1),(.str r.2.2.1),(aA [] .nil),(sT r.2.2.2),(aZ [] .nil)]) [])
noncomputable def IY {S:Type} (κ:Out UU→Option S):Int×Int→Option S:=fun r=>κ (.ret (.tuple [(iI r.1),(iI r.2)]) [])
noncomputable def bh {S:Type} (c0:Int) (κ:Out UU→Option S):Bool→Option S:=fun r=>κ (.ret (.bool r) [bI c0])
noncomputable def bK {S:Type} (κ:Out UU→Option S):Bool×Int→Option S:=fun r=>κ (.ret (.bool r.1) [.cells [(.func 116 [] [(pt 1),(pt 0)])],bI r.2])
noncomputable def Jc {S:Type} (κ:Out UU→Option S):Bool×Int→Option S:=fun r=>κ (.ret (.bool r.1) [bI r.2,.cells [(.func 116 [] [(pt 0),(pt 1)])]])
noncomputable def Jh {S:Type} (κ:Out UU→Option S):Cl→Option S:=fun r=>κ (.ret (aC r) [])
noncomputable def vY {S:Type} (c0:Cl) (κ:Out UU→Option S):Bool→Option S:=fun r=>κ (.ret (.bool r) [bC c0])
noncomputable def jV {S:Type} (c0:Cl) (κ:Out UU→Option S):Int→Option S:=fun r=>κ (.ret (iI r) [bC c0])
noncomputable def IQ {S:Type} (c0:List Cl) (κ:Out UU→Option S):Bool→Option S:=fun r=>κ (.ret (.bool r) [.cells [(sC c0)]])
noncomputable def al {S:Type} (κ:Out UU→Option S):List Cl×Int→Option S:=fun r=>κ (.ret (.tuple [(sC r.1),(iI r.2)]) [])
noncomputable def dK {S:Type} (κ:Out UU→Option S):Int→Option S:=fun r=>κ (.ret (iU r) [])
noncomputable def bH {S:Type} (c0 c1:Int) (c2:Bool) (κ:Out UU→Option S):Bool→Option S:=fun r=>κ (.ret (.bool r) [bI c0,bI c1,.cells [(.bool c2)]])
noncomputable def jI {S:Type} (κ:Out UU→Option S):Tm→Option S:=fun r=>κ (.ret (aT r) [])
noncomputable def jJ {S:Type} (κ:Out UU→Option S):List Tm→Option S:=fun r=>κ (.ret (sT r) [])
noncomputable def vU {S:Type} (κ:Out UU→Option S):Int×Int×ByteArray×List Tm×List (Br Tm)→Option S:=fun r=>κ (.ret (.agg [(iI r.1),(iI r.2.1),(.str r.2.2.1),(aA [] .nil),(sT r.2.2.2.1),(sB r.2.2.2.2)]) [])
noncomputable def IR {S:Type} (κ:Out UU→Option S):Int→Option S:=fun r=>κ (.ret (.tuple []) [bI r])
noncomputable def jK {S:Type} (κ:Out UU→Option S):Int→Option S:=fun r=>κ (.ret (pt 0) [bI r])
noncomputable def IS {S:Type} (κ:Out UU→Option S):List Cl→Option S:=fun r=>κ (.ret (nc r) [])
noncomputable def IT {S:Type} (κ:Out UU→Option S):Int×Int→Option S:=fun r=>κ (.ret (.tuple [(iU r.1),(iI r.2)]) [])
noncomputable def IU {S:Type} (κ:Out UU→Option S):Cl×Int→Option S:=fun r=>κ (.ret (.tuple [(aC r.1),(iI r.2)]) [])
noncomputable def IV {S:Type} (c0 c1:Int) (κ:Out UU→Option S):List Cl×Int→Option S:=fun r=>κ (.ret (.tuple [(nc r.1),(iI r.2)]) [bI c0,bI c1])
noncomputable def jL {S:Type} (c0 c1:Int) (κ:Out UU→Option S):List Cl×Int→Option S:=fun r=>κ (.ret (.tuple [(sC r.1),(iI r.2)]) [bI c0,bI c1])
noncomputable def IW {S:Type} (κ:Out UU→Option S):Pan Int (List Cl)→Option S:=fun r=>Pan.elim r (fun r=>κ (.ret (sC r) [])) (fun e=>κ (.panic (.iface 30 (iI e)) []))
noncomputable def aH {S:Type} (κ:Out UU→Option S):Pan Int Tm→Option S:=fun r=>Pan.elim r (fun r=>κ (.ret (aT r) [])) (fun e=>κ (.panic (.iface 30 (iI e)) []))
noncomputable def IX {S:Type} (c0 c1:Int) (c2:Tm) (κ:Out UU→Option S):Pan Int Tm→Option S:=fun r=>Pan.elim r (fun r=>κ (.ret (aT r) [bI c0,bI c1,bT c2])) (fun e=>κ (.panic (.iface 30 (iI e)) [bI c0,bI c1,bT c2]))
noncomputable def jM {S:Type} (c0 c1:Int) (c2:Tm) (κ:Out UU→Option S):Tm×Int→Option S:=fun r=>κ (.ret (.tuple [(aT r.1),(iI r.2)]) [bI c0,bI c1,bT c2])
noncomputable def bJ {S:Type} (κ:Out UU→Option S):Tm×Int→Option S:=fun r=>κ (.ret (.tuple [(aT r.1),(iI r.2)]) [])
noncomputable def bR {S:Type} (κ:Out UU→Option S):Tm×Int→Option S:=fun r=>κ (.ret (aT r.1) [bI r.2])
noncomputable def IZ {S:Type} (κ:Out UU→Option S):Tm×Int×Int→Option S:=fun r=>κ (.ret (.tuple [(aT r.1),(iI r.2.1)]) [bI r.2.2])
noncomputable def vV {S:Type} (κ:Out UU→Option S):List Cl×Int→Option S:=fun r=>κ (.ret (sC r.1) [bI r.2])
noncomputable def vW {S:Type} (c0:Int) (c1:Tm) (c2:Int) (κ:Out UU→Option S):Pan Int Tm→Option S:=fun r=>Pan.elim r (fun r=>κ (.ret (aT r) [bI c0,bT c1,bI c2])) (fun e=>κ (.panic (.iface 30 (iI e)) [bI c0,bT c1,bI c2]))
noncomputable def dL {S:Type} (c0:Int) (c1:Tm) (c2:Int) (κ:Out UU→Option S):Tm×Int→Option S:=fun r=>κ (.ret (.tuple [(aT r.1),(iI r.2)]) [bI c0,bT c1,bI c2])
noncomputable def I0 {S:Type} (c0:Int) (c1:List Cl) (κ:Out UU→Option S):Unit→Option S:=fun r=>κ (.ret (.func 218 [] [(pt 0),(pt 1),(pt 2)]) [bI c0,.cells [(sC c1)],.cells [(.func 221 [] [])]])
noncomputable def I1 {S:Type} (c0:Int) (c1:List Cl) (κ:Out UU→Option S):Unit→Option S:=fun r=>κ (.ret (.func 218 [] [(pt 0),(pt 1),(pt 2)]) [bI c0,.cells [(sC c1)],.cells [(.func 222 [] [])]])
noncomputable def I2 {S:Type} (κ:Out UU→Option S):Int×List Cl→Option S:=fun r=>κ (.ret (.agg [(.func 218 [] [(pt 0),(pt 1),(pt 2)]),(.func 218 [] [(pt 0),(pt 1),(pt 3)])]) [bI r.1,.cells [(sC r.2)],.cells [(.func 221 [] [])],.cells [(.func 222 [] [])]])
noncomputable def e_ {S:Type} (κ:Out UU→Option S):List Cl→Option S:=fun r=>κ (.ret (sC r) [])
noncomputable def I3 {S:Type} (κ:Out UU→Option S):Cl×Bool→Option S:=fun r=>κ (.ret (.tuple [(aC r.1),(.bool r.2)]) [])
noncomputable def I4 {S:Type} (c0:Cl) (κ:Out UU→Option S):Cl×Bool→Option S:=fun r=>κ (.ret (.tuple [(aC r.1),(.bool r.2)]) [bC c0])
noncomputable def jN {S:Type} (c0:Cl) (κ:Out UU→Option S):List Cl→Option S:=fun r=>κ (.ret (sC r) [bC c0])
noncomputable def I5 {S:Type} (c0:Int) (c1:List Cl) (κ:Out UU→Option S):List Cl×Int→Option S:=fun r=>κ (.ret (.tuple [(sC r.1),(iI r.2)]) [bI c0,.cells [(sC c1)],.cells [(.func 222 [] [])]])
noncomputable def gH {S:Type} (c0:Int) (c1:List Cl) (κ:Out UU→Option S):List Cl×Int→Option S:=fun r=>κ (.ret (.tuple [(sC r.1),(iI r.2)]) [bI c0,.cells [(sC c1)]])
noncomputable def I6 {S:Type} (c0:Int) (c1:List Cl) (κ:Out UU→Option S):List Cl×Int→Option S:=fun r=>κ (.ret (.tuple [(sC r.1),(iI r.2)]) [bI c0,.cells [(sC c1)],.cells [(.func 221 [] [])]])
noncomputable def I7 {S:Type} (c0:Int) (c1:List Cl) (κ:Out UU→Option S):List Cl×Int→Option S:=fun r=>κ (.ret (.tuple [(sC r.1),(iI r.2)]) [bI c0,.cells [(sC c1)],.cells [(.func 221 [] [])],.cells [(.func 222 [] [])]])
noncomputable def I8 {S:Type} (c0:Tm) (κ:Out UU→Option S):Int→Option S:=fun r=>κ (.ret (iI r) [bT c0])
noncomputable def I9 {S:Type} (c0:Int) (κ:Out UU→Option S):Int→Option S:=fun r=>κ (.ret (iI r) [bI c0])
noncomputable def jO {S:Type} (c0:Int) (c1:List Cl) (κ:Out UU→Option S):Tm×Int→Option S:=fun r=>κ (.ret (.tuple [(aT r.1),(iI r.2)]) [bI c0,.cells [(sC c1)],.cells [(.func 221 [] [])],.cells [(.func 222 [] [])]])
noncomputable def jP {S:Type} (c0:Int) (c1:List Cl) (c4:Int) (κ:Out UU→Option S):List Tm×Int→Option S:=fun r=>κ (.ret (.tuple [(sT r.1),(iI r.2)]) [bI c0,.cells [(sC c1)],.cells [(.func 221 [] [])],.cells [(.func 222 [] [])],bI c4])
noncomputable def jQ {S:Type} (c0:Int) (c1:List Cl) (c4:Tm) (κ:Out UU→Option S):List Tm×Int→Option S:=fun r=>κ (.ret (.tuple [(sT r.1),(iI r.2)]) [bI c0,.cells [(sC c1)],.cells [(.func 221 [] [])],.cells [(.func 222 [] [])],bT c4])
noncomputable def I_ {S:Type} (κ:Out UU→Option S):Int→Option S:=fun r=>κ (.ret (.agg [(.func 227 [] [(pt 0)]),(.func 227 [] [(pt 0)])]) [bI r])
noncomputable def gI {S:Type} (c0:Int) (κ:Out UU→Option S):List Cl×Int→Option S:=fun r=>κ (.ret (.tuple [(sC r.1),(iI r.2)]) [bI c0])
noncomputable def jR {S:Type} (c0:Int) (κ:Out UU→Option S):Tm×Int→Option S:=fun r=>κ (.ret (.tuple [(aT r.1),(iI r.2)]) [bI c0])
noncomputable def jS {S:Type} (c0 c1:Int) (κ:Out UU→Option S):List Tm×Int→Option S:=fun r=>κ (.ret (.tuple [(sT r.1),(iI r.2)]) [bI c0,bI c1])
noncomputable def jT {S:Type} (c0:Int) (c1:Tm) (κ:Out UU→Option S):List Tm×Int→Option S:=fun r=>κ (.ret (.tuple [(sT r.1),(iI r.2)]) [bI c0,bT c1])
noncomputable def aL {S:Type} (κ:Out UU→Option S):Bool×Int→Option S:=fun r=>κ (.ret (.bool r.1) [bI r.2])
noncomputable def jU {S:Type} (c0:Tm) (c1:Int) (κ:Out UU→Option S):Int×Int×ByteArray×List Tm×Int→Option S:=fun r=>κ (.ret (.agg [(iI r.1),(iI r.2.1),(.str r.2.2.1),(aA [] .nil),(sT r.2.2.2.1),(aZ [] .nil)]) [bT c0,bI c1,.cells [(pt 3)],bI r.2.2.2.2])
noncomputable def Ja {S:Type} (κ:Out UU→Option S):(Br Tm)→Option S:=fun r=>κ (.ret (aB r) [])
noncomputable def Jb {S:Type} (κ:Out UU→Option S):Tm×Bool×Int×Int→Option S:=fun r=>κ (.ret (.tuple [(aT r.1),(.bool r.2.1),(iI r.2.2.1)]) [bI r.2.2.2])
noncomputable def aQ {S:Type} (κ:Out UU→Option S):Tm×Bool×Int→Option S:=fun r=>κ (.ret (.tuple [(aT r.1),(.bool r.2.1),(iI r.2.2)]) [])
noncomputable def Jd {S:Type} (κ:Out UU→Option S):Int×Int×ByteArray×List Cl×List Tm→Option S:=fun r=>κ (.ret (.agg [(iI r.1),(iI r.2.1),(.str r.2.2.1),(sC r.2.2.2.1),(sT r.2.2.2.2),(aZ [] .nil)]) [])
noncomputable def o9 {S:Type} (κ:Out UU→Option S):Tm×Bool×Int→Option S:=fun r=>κ (.ret (.tuple [(aT r.1),(.bool r.2.1)]) [bI r.2.2])
noncomputable def ez {S:Type} (κ:Out UU→Option S):Tm×Bool→Option S:=fun r=>κ (.ret (.tuple [(aT r.1),(.bool r.2)]) [])
noncomputable def Je {S:Type} (κ:Out UU→Option S):Tm×Int×List Cl×Int×Int×ByteArray×List Cl×List Tm×List (Br Tm)→Option S:=fun r=>κ (.ret (aT r.1) [.cells [(iI r.2.1),(sC r.2.2.1),(iI r.2.2.2.1),(iI r.2.2.2.2.1),(.str r.2.2.2.2.2.1),(sC r.2.2.2.2.2.2.1),(sT r.2.2.2.2.2.2.2.1),(sB r.2.2.2.2.2.2.2.2)]])
noncomputable def vX {S:Type} (c0_0:Int) (c0_1:List Cl) (c0_2 c0_3:Int) (c0_4:ByteArray) (c0_5:List Cl) (c0_6:List Tm) (c0_7:List (Br Tm)) (κ:Out UU→Option S):Bool→Option S:=fun r=>κ (.ret (.bool r) [.cells [(iI c0_0),(sC c0_1),(iI c0_2),(iI c0_3),(.str c0_4),(sC c0_5),(sT c0_6),(sB c0_7)]])
noncomputable def Jf {S:Type} (κ:Out UU→Option S):Tm×Bool×Int×Int×List Cl×Int×Int×ByteArray×List Cl×List Tm×List (Br Tm)→Option S:=fun r=>κ (.ret (.tuple [(aT r.1),(.bool r.2.1),(iI r.2.2.1)]) [.cells [(iI r.2.2.2.1),(sC r.2.2.2.2.1),(iI r.2.2.2.2.2.1),(iI r.2.2.2.2.2.2.1),(.str r.2.2.2.2.2.2.2.1),(sC r.2.2.2.2.2.2.2.2.1),(sT r.2.2.2.2.2.2.2.2.2.1),(sB r.2.2.2.2.2.2.2.2.2.2)]])
noncomputable def Jg {S:Type} (κ:Out UU→Option S):Int×Int×ByteArray×Bool×Int→Option S:=fun r=>κ (.ret (.tuple [(.agg [(iI r.1),(iI r.2.1),(.str r.2.2.1),(aA [] .nil),(a7 [] .nil),(aZ [] .nil)]),(.bool r.2.2.2.1),(iI r.2.2.2.2)]) [])
end
end Go.Proofs.YtfkkpkhfjpaafaaGreatDoor
namespace Go.Proofs.YtfkkpkhfjpaafaaGreatDoor
open Go PI
set_option linter.unusedVariables false
set_option maxRecDepth 100000
noncomputable section
section
variable {S:Type} (hd:Cm S) (k:Nat) (t:Tm) (most:Int) (κ:Out UU→Option S)
end
def cY {S:Type} (k:Nat):Rw S:=ae G_ xn fun kind kid κ=>aa k (cJ k kind kid) (IY κ)
def Bk {S:Type} (k:Nat):Fx S:=fp 26 [] [] k Tryz.f36 0
theorem dj {S:Type} (o:Obj) (ho:ad o) (k:Nat):Tl o 36 (cY k:Rw S):=af (Bk k) trivial Tryz.func36 (by kernel_rfl) fun kind kid κ x h=>Eq.trans (by kernel_rfl) (ag h)
def gN {S:Type} (hd:aW S):Rw S:=ae ns xn fun t left κ=>hd t left (ar κ)
def xu {S:Type} (hd:aW S) (k:Nat):Rw S:=ae jb aD fun a_k p p' c0 κ=>aa k (mJ hd k a_k p p' c0) (bh c0 κ)
def BD {S:Type} (hd:aW S) (k:Nat):Fx S:=fp 12 [(68,gN hd)] [] k Tryz.f115 1
theorem FN {S:Type} (o:Obj) (ho:ad o) (hd:aW S) (Hd:Tl o 68 (gN hd)) (k:Nat):Tl o 115 (xu hd k:Rw S):=af (BD hd k) ⟨Hd,trivial⟩ Tryz.func115 (by kernel_rfl) fun a_k p p' c0 κ x h=>Eq.trans (by kernel_rfl) (ag h)
def xD {S:Type} (hd:aW S) (k:Nat):Rw S:=ae Ht aD fun t c0 κ=>aa k (s9 hd k t c0) (bh c0 κ)
def dX {S:Type} (hd:aW S) (k:Nat):Fx S:=fp 60 [(36,cY k),(115,xu hd k)] [(2,ay [1,2,15,16,17] [(2,6),(1000000,1)],aj 4 5),(12,ay [1,9,40,41,42] [(1000000,1)],aj 7 47),(15,ay [1,9,40,41,42,47,48,49] [(1000000,1)],aj 15 13103)] k Tryz.f71 1
def oN (c0:Int) (t:Tm) (v17:Int):St UU:=⟨[(1,(.func 115 [] [(pt 1000000)])),(2,(pt 2)),(15,(sT t.kids)),(16,(.int .i64 (t.kids.length:Int))),(17,(iI v17))],[(2,bT t),(1000000,bI c0)],[],[]⟩
def gx (c0:Int) (t:Tm) (v42 more9:Int):St UU:=⟨[(1,(.func 115 [] [(pt 1000000)])),(9,(iI more9)),(40,(sB t.sys)),(41,(.int .i64 (t.sys.length:Int))),(42,(iI v42))],[(1000000,bI c0)],[],[]⟩
def vr (c0:Int) (t:Tm) (v42:Int) (x4:(Br Tm)) (more9:Int) (v49:Int):St UU:=⟨[(1,(.func 115 [] [(pt 1000000)])),(9,(iI more9)),(40,(sB t.sys)),(41,(.int .i64 (t.sys.length:Int))),(42,(iI v42)),(47,(sT x4.kids)),(48,(.int .i64 (x4.kids.length:Int))),(49,(iI v49))],[(1000000,bI c0)],[],[]⟩
section
variable {S:Type} (hd:aW S) (k:Nat) (t:Tm) (c0:Int) (κ:Out UU→Option S)
theorem Du (v42 x4 more9 κ1): ∀n v49,(dX hd k).lp κ 15 [κ1] n (vr c0 t v42 x4 more9 v49)=jq hd k (bh c0 κ) (fun v42 more9=>κ1 (gx c0 t v42 more9)) c0 t v42 x4 more9 n v49:=bo (q_ hd k (bh c0 κ) c0 t v42 x4 more9 (fun v42 more9=>κ1 (gx c0 t v42 more9))) rfl (fun _=>rfl) fun r v49=>by kernel_rfl
theorem Dt: ∀n v42 more9,(dX hd k).lp κ 12 [] n (gx c0 t v42 more9)=ga hd k (bh c0 κ) c0 t n v42 more9:=ax (fun own=>lP hd k (bh c0 κ) c0 t (fun v42 x4 more9 v49=>jq hd k (bh c0 κ) own c0 t v42 x4 more9 k v49) own) rfl (fun _=>rfl) fun r v42 more9=>Eq.trans (b:=lP hd k (bh c0 κ) c0 t (fun v42 x4 more9 v49=>(dX hd k).lp κ 15 [r] k (vr c0 t v42 x4 more9 v49)) (fun v42 more9=>r (gx c0 t v42 more9)) v42 more9) (by kernel_rfl) (by simp only [Du])
theorem Ds: ∀n v17,(dX hd k).lp κ 2 [] n (oN c0 t v17)=ot hd k (bh c0 κ) c0 t n v17:=bo (fun own=>lO hd k (bh c0 κ) c0 t (fun v42 more9=>ga hd k (bh c0 κ) c0 t k v42 more9) own) rfl (fun _=>rfl) fun r v17=>Eq.trans (b:=lO hd k (bh c0 κ) c0 t (fun v42 more9=>(dX hd k).lp κ 12 [] k (gx c0 t v42 more9)) (fun v17=>r (oN c0 t v17)) v17) (by kernel_rfl) (by simp only [Dt])
end
theorem FV {S:Type} (o:Obj) (ho:ad o) (hd:aW S) (Hd:Tl o 68 (gN hd)) (k:Nat):Tl o 71 (xD hd k:Rw S):=af (dX hd k) ⟨dj o ho k,FN o ho hd Hd k,trivial⟩ Tryz.func71 (by kernel_rfl) fun t c0 κ x h=>Eq.trans (b:=zK hd k (bh c0 κ) (fun v17=>(dX hd k).lp κ 2 [] k (oN c0 t v17)) t c0) (by kernel_rfl) (Eq.trans (by simp only [Ds];rfl) (ag h))
def Bv {S:Type} (hd:aW S) (k:Nat):Fx S:=fp 12 [(71,xD hd k)] [] k Tryz.f68 0
theorem ua {S:Type} (o:Obj) (ho:ad o): ∀k:Nat,Tl o 68 (gN (eO k:aW S))
 |0=>cv fun t left κ x h=>by cases h
 |k+1=>af (Bv (eO k) k) ⟨FV o ho (eO k) (ua o ho k) k,trivial⟩ Tryz.func68 (by kernel_rfl) fun t left κ x h=>Eq.trans (by kernel_rfl) h
def j9 {S:Type} (hd:aV S):Rw S:=ae Hw z_ fun t c1 κ=>hd t c1 (bK κ)
def pC {S:Type} (hd:aV S) (k:Nat):Rw S:=ae HH Mw fun t c0 κ=>aa k (mM hd k t c0) (Jc κ)
def B4 {S:Type} (hd:aV S) (k:Nat):Fx S:=fp 14 [(71,j9 hd)] [] k Tryz.f116 2
theorem tI {S:Type} (o:Obj) (ho:ad o) (hd:aV S) (Hd:Tl o 71 (j9 hd)) (k:Nat):Tl o 116 (pC hd k:Rw S):=af (B4 hd k) ⟨Hd,trivial⟩ Tryz.func116 (by kernel_rfl) fun t c0 κ x h=>Eq.trans (by kernel_rfl) (ag h)
def xZ {S:Type} (hd:aV S) (k:Nat):Rw S:=ae jb z_ fun a_k p p' c1 κ=>aa k (mL hd k a_k p p' c1) (bK κ)
def B_ {S:Type} (hd:aV S) (k:Nat):Fx S:=fp 11 [(116,pC hd k)] [] k Tryz.f117 2
theorem Gg {S:Type} (o:Obj) (ho:ad o) (hd:aV S) (Hd:Tl o 71 (j9 hd)) (k:Nat):Tl o 117 (xZ hd k:Rw S):=af (B_ hd k) ⟨tI o ho hd Hd k,trivial⟩ Tryz.func117 (by kernel_rfl) fun a_k p p' c1 κ x h=>Eq.trans (by kernel_rfl) (ag h)
def dY {S:Type} (hd:aV S) (k:Nat):Fx S:=fp 60 [(36,cY k),(117,xZ hd k)] [(2,ay [1,2,15,16,17] [(2,6),(1000000,1),(1000001,1)],aj 4 5),(12,ay [1,9,40,41,42] [(1000000,1),(1000001,1)],aj 7 47),(15,ay [1,9,40,41,42,47,48,49] [(1000000,1),(1000001,1)],aj 15 13103)] k Tryz.f71 2
def oO (t:Tm) (e1_0 v17:Int):St UU:=⟨[(1,(.func 117 [] [(pt 1000000)])),(2,(pt 2)),(15,(sT t.kids)),(16,(.int .i64 (t.kids.length:Int))),(17,(iI v17))],[(2,bT t),(1000000,.cells [(.func 116 [] [(pt 1000001),(pt 1000000)])]),(1000001,bI e1_0)],[],[]⟩
def gy (t:Tm) (e1_0' v42 more9:Int):St UU:=⟨[(1,(.func 117 [] [(pt 1000000)])),(9,(iI more9)),(40,(sB t.sys)),(41,(.int .i64 (t.sys.length:Int))),(42,(iI v42))],[(1000000,.cells [(.func 116 [] [(pt 1000001),(pt 1000000)])]),(1000001,bI e1_0')],[],[]⟩
def vu (t:Tm) (v42:Int) (x4:(Br Tm)) (more9:Int) (e1_0'' v49:Int):St UU:=⟨[(1,(.func 117 [] [(pt 1000000)])),(9,(iI more9)),(40,(sB t.sys)),(41,(.int .i64 (t.sys.length:Int))),(42,(iI v42)),(47,(sT x4.kids)),(48,(.int .i64 (x4.kids.length:Int))),(49,(iI v49))],[(1000000,.cells [(.func 116 [] [(pt 1000001),(pt 1000000)])]),(1000001,bI e1_0'')],[],[]⟩
section
variable {S:Type} (hd:aV S) (k:Nat) (t:Tm) (c1:Int) (κ:Out UU→Option S)
theorem Dy (v42 x4 more9 κ1): ∀n e1_0'' v49,(dY hd k).lp κ 15 [κ1] n (vu t v42 x4 more9 e1_0'' v49)=jo hd k (bK κ) (fun e1_0' v42 more9=>κ1 (gy t e1_0' v42 more9)) t v42 x4 more9 n e1_0'' v49:=ax (qY hd k (bK κ) t v42 x4 more9 (fun e1_0' v42 more9=>κ1 (gy t e1_0' v42 more9))) rfl (fun _=>rfl) fun r e1_0'' v49=>by kernel_rfl
theorem Dx: ∀n e1_0' v42 more9,(dY hd k).lp κ 12 [] n (gy t e1_0' v42 more9)=f8 hd k (bK κ) t n e1_0' v42 more9:=bQ (fun own=>lL hd k (bK κ) t (fun v42 x4 more9 e1_0'' v49=>jo hd k (bK κ) own t v42 x4 more9 k e1_0'' v49) own) rfl (fun _=>rfl) fun r e1_0' v42 more9=>Eq.trans (b:=lL hd k (bK κ) t (fun v42 x4 more9 e1_0'' v49=>(dY hd k).lp κ 15 [r] k (vu t v42 x4 more9 e1_0'' v49)) (fun e1_0' v42 more9=>r (gy t e1_0' v42 more9)) e1_0' v42 more9) (by kernel_rfl) (by simp only [Dy])
theorem Dw: ∀n e1_0 v17,(dY hd k).lp κ 2 [] n (oO t e1_0 v17)=om hd k (bK κ) t n e1_0 v17:=ax (fun own=>lK hd k (bK κ) t (fun e1_0' v42 more9=>f8 hd k (bK κ) t k e1_0' v42 more9) own) rfl (fun _=>rfl) fun r e1_0 v17=>Eq.trans (b:=lK hd k (bK κ) t (fun e1_0' v42 more9=>(dY hd k).lp κ 12 [] k (gy t e1_0' v42 more9)) (fun e1_0 v17=>r (oO t e1_0 v17)) e1_0 v17) (by kernel_rfl) (by simp only [Dx])
end
theorem ub {S:Type} (o:Obj) (ho:ad o): ∀k:Nat,Tl o 71 (j9 (cK k:aV S))
 |0=>cv fun t c1 κ x h=>by cases h
 |k+1=>af (dY (cK k) k) ⟨dj o ho k,Gg o ho (cK k) (ub o ho k) k,trivial⟩ Tryz.func71 (by kernel_rfl) fun t c1 κ x h=>Eq.trans (b:=zI (cK k) k (bK κ) (fun e1_0 v17=>(dY (cK k) k).lp κ 2 [] k (oO t e1_0 v17)) t c1) (by kernel_rfl) (Eq.trans (by simp only [Dw];rfl) h)
def vZ {S:Type} (k:Nat):Rw S:=ae ns xn fun t most κ=>aa k (tc k t most) (ar κ)
def Ac {S:Type} (k:Nat):Fx S:=fp 10 [(116,pC (cK k) k)] [] k Tryz.f69 0
theorem Ew {S:Type} (o:Obj) (ho:ad o) (k:Nat):Tl o 69 (vZ k:Rw S):=af (Ac k) ⟨tI o ho (cK k) (ub o ho k) k,trivial⟩ Tryz.func69 (by kernel_rfl) fun t most κ x h=>Eq.trans (by kernel_rfl) (ag h)
def pc {S:Type} (k:Nat):Rw S:=ae be xn fun t κ=>aa k (mK k t) (ap κ)
def Aj {S:Type} (k:Nat):Fx S:=fp 11 [(68,gN (eO k)),(69,vZ k)] [] k Tryz.f37 0
theorem tk {S:Type} (o:Obj) (ho:ad o) (k:Nat):Tl o 37 (pc k:Rw S):=af (Aj k) ⟨ua o ho k,Ew o ho k,trivial⟩ Tryz.func37 (by kernel_rfl) fun t κ x h=>Eq.trans (by kernel_rfl) (ag h)
def pe {S:Type} (k:Nat):Rw S:=ae dp xn fun kind κ=>aa k (fO k kind) (ap κ)
def Ap {S:Type} (k:Nat):Fx S:=fp 38 [] [] k Tryz.f44 0
theorem tn {S:Type} (o:Obj) (ho:ad o) (k:Nat):Tl o 44 (pe k:Rw S):=af (Ap k) trivial Tryz.func44 (by kernel_rfl) fun kind κ x h=>Eq.trans (by kernel_rfl) (ag h)
def ww {S:Type} (k:Nat):Rw S:=ae dp xn fun kind κ=>aa k (eN k kind) (ap κ)
def Ay {S:Type} (k:Nat):Fx S:=fp 10 [] [] k Tryz.f118 0
theorem ER {S:Type} (o:Obj) (ho:ad o) (k:Nat):Tl o 118 (ww k:Rw S):=af (Ay k) trivial Tryz.func118 (by kernel_rfl) fun kind κ x h=>Eq.trans (by kernel_rfl) (ag h)
def wE {S:Type} (k:Nat):Rw S:=ae G5 xn fun s κ=>aa k (tb k s) (ar κ)
def fm {S:Type} (k:Nat):Fx S:=fp 49 [] [(2,ay [0,7,8] [],aj 4 5),(1000006,ay [0,3,4,5,7,8] [],aj 12 3685)] k Tryz.f119 0
def gr (s:ByteArray) (v8:Int):St UU:=⟨[(0,(.str s)),(7,(.int .i64 (s.size:Int))),(8,(iI v8))],[],[],[]⟩
def u4 (s:ByteArray) (v8:Int) (x1:UInt8) (letter5:Bool):St UU:=⟨[(0,(.str s)),(3,(iI v8)),(4,(.int .u8 (x1.toNat:Int))),(5,(.bool letter5)),(7,(.int .i64 (s.size:Int))),(8,(iI v8))],[],[],[]⟩
section
variable {S:Type} (k:Nat) (s:ByteArray) (κ:Out UU→Option S)
theorem CY (v8 x1 κ0): ∀n letter5,(fm k).jn κ 1000006 [κ0] n (u4 s v8 x1 letter5)=ow k (ar κ) (fun v8=>κ0 (gr s v8)) s v8 x1 n letter5:=nq (rd k (ar κ) s v8 x1 (fun v8=>κ0 (gr s v8))) rfl (fun _=>rfl) (fun letter5=>by kernel_rfl)
theorem CX: ∀n v8,(fm k).lp κ 2 [] n (gr s v8)=jt k (ar κ) s n v8:=bo (fun own=>lV k (ar κ) s (fun v8 x1 letter5=>ow k (ar κ) own s v8 x1 k letter5) own) rfl (fun _=>rfl) fun r v8=>Eq.trans (b:=lV k (ar κ) s (fun v8 x1 letter5=>(fm k).jn κ 1000006 [r] k (u4 s v8 x1 letter5)) (fun v8=>r (gr s v8)) v8) (by kernel_rfl) (by simp only [CY])
end
theorem E0 {S:Type} (o:Obj) (ho:ad o) (k:Nat):Tl o 119 (wE k:Rw S):=af (fm k) trivial Tryz.func119 (by kernel_rfl) fun s κ x h=>Eq.trans (b:=zN k (ar κ) (fun v8=>(fm k).lp κ 2 [] k (gr s v8)) s) (by kernel_rfl) (Eq.trans (by simp only [CX];rfl) (ag h))
def wK {S:Type} (k:Nat):Rw S:=ae nu xn fun s κ=>aa k (mw k s) (ar κ)
def AO {S:Type} (k:Nat):Fx S:=fp 6 [] [] k Tryz.f229 0
theorem E6 {S:Type} (o:Obj) (ho:ad o) (k:Nat):Tl o 229 (wK k:Rw S):=af (AO k) trivial Tryz.func229 (by kernel_rfl) fun s κ x h=>Eq.trans (by kernel_rfl) (ag h)
def pm {S:Type} (k:Nat):Rw S:=ae i_ xn fun c κ=>aa k (me k c) (ar κ)
def AQ {S:Type} (k:Nat):Fx S:=fp 11 [(229,wK k)] [] k Tryz.f165 0
theorem tu {S:Type} (o:Obj) (ho:ad o) (k:Nat):Tl o 165 (pm k:Rw S):=af (AQ k) ⟨E6 o ho k,trivial⟩ Tryz.func165 (by kernel_rfl) fun c κ x h=>Eq.trans (by kernel_rfl) (ag h)
def jZ {S:Type} (k:Nat):Rw S:=ae ui xn fun a b κ=>aa k (ij k a b) (Jh κ)
def AR {S:Type} (k:Nat):Fx S:=fp 16 [] [] k Tryz.f231 0
theorem mT {S:Type} (o:Obj) (ho:ad o) (k:Nat):Tl o 231 (jZ k:Rw S):=af (AR k) trivial Tryz.func231 (by kernel_rfl) fun a b κ x h=>Eq.trans (by kernel_rfl) (ag h)
def wM {S:Type} (k:Nat):Rw S:=ae ui xn fun a b κ=>aa k (rD k a b) (ar κ)
def AS {S:Type} (k:Nat):Fx S:=fp 10 [(231,jZ k)] [] k Tryz.f169 0
theorem E8 {S:Type} (o:Obj) (ho:ad o) (k:Nat):Tl o 169 (wM k:Rw S):=af (AS k) ⟨mT o ho k,trivial⟩ Tryz.func169 (by kernel_rfl) fun a b κ x h=>Eq.trans (by kernel_rfl) (ag h)
def wN {S:Type} (k:Nat):Rw S:=ae nw g0 fun d c0 κ=>aa k (rF k d c0) (vY c0 κ)
def AT {S:Type} (k:Nat):Fx S:=fp 12 [(169,wM k)] [] k Tryz.f168 1
theorem E9 {S:Type} (o:Obj) (ho:ad o) (k:Nat):Tl o 168 (wN k:Rw S):=af (AT k) ⟨E8 o ho k,trivial⟩ Tryz.func168 (by kernel_rfl) fun d c0 κ x h=>Eq.trans (by kernel_rfl) (ag h)
def wO {S:Type} (k:Nat):Rw S:=ae uj g0 fun s c0 κ=>aa k (sU k s c0) (jV c0 κ)
def kO {S:Type} (k:Nat):Fx S:=fp 19 [(168,wN k)] [(2,ay [0,1,7,8] [(1000000,2)],aj 4 5)] k Tryz.f215 1
def u5 (c0:Cl) (s:List Cl) (v8:Int):St UU:=⟨[(0,(sC s)),(1,(.func 168 [] [(pt 1000000)])),(7,(.int .i64 (s.length:Int))),(8,(iI v8))],[(1000000,bC c0)],[],[]⟩
section
variable {S:Type} (k:Nat) (s:List Cl) (c0:Cl) (κ:Out UU→Option S)
theorem CZ: ∀n v8,(kO k).lp κ 2 [] n (u5 c0 s v8)=n_ k (jV c0 κ) c0 s n v8:=bo (qR k (jV c0 κ) c0 s) rfl (fun _=>rfl) fun r v8=>by kernel_rfl
end
theorem E_ {S:Type} (o:Obj) (ho:ad o) (k:Nat):Tl o 215 (wO k:Rw S):=af (kO k) ⟨E9 o ho k,trivial⟩ Tryz.func215 (by kernel_rfl) fun s c0 κ x h=>Eq.trans (b:=zA k (jV c0 κ) (fun v8=>(kO k).lp κ 2 [] k (u5 c0 s v8)) s c0) (by kernel_rfl) (Eq.trans (by simp only [CZ];rfl) (ag h))
def wP {S:Type} (k:Nat):Rw S:=ae uj g0 fun s c0 κ=>aa k (sQ k s c0) (vY c0 κ)
def AU {S:Type} (k:Nat):Fx S:=fp 9 [(215,wO k)] [] k Tryz.f159 1
theorem Fa {S:Type} (o:Obj) (ho:ad o) (k:Nat):Tl o 159 (wP k:Rw S):=af (AU k) ⟨E_ o ho k,trivial⟩ Tryz.func159 (by kernel_rfl) fun s c0 κ x h=>Eq.trans (by kernel_rfl) (ag h)
def wQ {S:Type} (k:Nat):Rw S:=ae nw Mx fun c c0 κ=>aa k (rE k c c0) (IQ c0 κ)
def AV {S:Type} (k:Nat):Fx S:=fp 7 [(159,wP k)] [] k Tryz.f167 1
theorem Fb {S:Type} (o:Obj) (ho:ad o) (k:Nat):Tl o 167 (wQ k:Rw S):=af (AV k) ⟨Fa o ho k,trivial⟩ Tryz.func167 (by kernel_rfl) fun c c0 κ x h=>Eq.trans (by kernel_rfl) (ag h)
def cX {S:Type} (k:Nat):Rw S:=ae cP xn fun l κ=>aa k (cF k l) (al κ)
def fw {S:Type} (k:Nat):Fx S:=fx 55 (fun _=>[]) (fun|53=>true|_=>false) [(165,pm k),(167,wQ k)] [(4,⟨[(4,.none),(5,.none),(13,.none),(14,.none),(15,.none)],[(5,[some (200320,true)]),(12,[])]⟩,aj 6 23),(15,⟨[(8,.none),(9,some (100009,true)),(34,.none),(35,.none),(36,.none)],[(5,[.none])]⟩,aj 9 191)] k Tryz.f129 false [] 0
def oJ (l:List Cl) (b12_0:List (Cl×Bool)) (b5_0:List Cl) (v15:Int):St UU:=⟨[(4,(.mp 12)),(5,(pt 5)),(13,(sC l)),(14,(.int .i64 (l.length:Int))),(15,(iI v15))],[(5,.cells [(.own 200320 0)]),(12,.map ET.C b12_0)],[(200320,⟨0,ET.C,b5_0⟩)],[(200320,.wr)]⟩
def u9 (b5_0:List Cl) (v36:Int) (kept9:List Cl):St UU:=⟨[(8,(.func 167 [] [(pt 5)])),(9,(.own 100009 0)),(34,(sC b5_0)),(35,(.int .i64 (b5_0.length:Int))),(36,(iI v36))],[(5,.cells [(sC b5_0)])],[(100009,⟨0,ET.C,kept9⟩)],[(100009,.wr)]⟩
section
variable {S:Type} (k:Nat) (l:List Cl) (κ:Out UU→Option S)
theorem C3 (b5_0): ∀n v36 kept9,(fw k).lp κ 15 [] n (u9 b5_0 v36 kept9)=jc k (al κ) b5_0 n v36 kept9:=ax (qj k (al κ) b5_0) rfl (fun _=>rfl) fun r v36 kept9=>by kernel_rfl
theorem C2: ∀n b12_0 b5_0 v15,(fw k).lp κ 4 [] n (oJ l b12_0 b5_0 v15)=nH k (al κ) l n b12_0 b5_0 v15:=bQ (fun own=>ln k (al κ) l (fun b5_0 v36 kept9=>jc k (al κ) b5_0 k v36 kept9) own) rfl (fun _=>rfl) fun r b12_0 b5_0 v15=>Eq.trans (b:=ln k (al κ) l (fun b5_0 v36 kept9=>(fw k).lp κ 15 [] k (u9 b5_0 v36 kept9)) (fun b12_0 b5_0 v15=>r (oJ l b12_0 b5_0 v15)) b12_0 b5_0 v15) (by kernel_rfl) (by simp only [C3])
end
theorem di {S:Type} (o:Obj) (ho:ad o) (k:Nat):Tl o 129 (cX k:Rw S):=af (fw k) ⟨tu o ho k,Fb o ho k,trivial⟩ Tryz.func129 (by kernel_rfl) fun l κ x h=>Eq.trans (b:=yX k (al κ) (fun b12_0 b5_0 v15=>(fw k).lp κ 4 [] k (oJ l b12_0 b5_0 v15)) l) (by kernel_rfl) (Eq.trans (by simp only [C2];rfl) (ag h))
def wY {S:Type} (k:Nat):Rw S:=ae fV xn fun s1 s2 κ=>aa k (sS k s1 s2) (ar κ)
def kR {S:Type} (k:Nat):Fx S:=fp 26 [] [(4,ay [0,1,12,13] [],aj 5 11)] k Tryz.f157 0
def va (s1 s2:List Cl) (v13:Int):St UU:=⟨[(0,(sC s1)),(1,(sC s2)),(12,(.int .i64 (s1.length:Int))),(13,(iI v13))],[],[],[]⟩
section
variable {S:Type} (k:Nat) (s1 s2:List Cl) (κ:Out UU→Option S)
theorem C5: ∀n v13,(kR k).lp κ 4 [] n (va s1 s2 v13)=n9 k (ar κ) s1 s2 n v13:=bo (qQ k (ar κ) s1 s2) rfl (fun _=>rfl) fun r v13=>by kernel_rfl
end
theorem Fk {S:Type} (o:Obj) (ho:ad o) (k:Nat):Tl o 157 (wY k:Rw S):=af (kR k) trivial Tryz.func157 (by kernel_rfl) fun s1 s2 κ x h=>Eq.trans (b:=zz k (ar κ) (fun v13=>(kR k).lp κ 4 [] k (va s1 s2 v13)) s1 s2) (by kernel_rfl) (Eq.trans (by simp only [C5];rfl) (ag h))
def eA {S:Type} (k:Nat):Rw S:=ae cP xn fun f κ=>aa k (dg k f) (ar κ)
def Ba {S:Type} (k:Nat):Fx S:=fp 17 [(129,cX k),(157,wY k)] [] k Tryz.f120 0
theorem eR {S:Type} (o:Obj) (ho:ad o) (k:Nat):Tl o 120 (eA k:Rw S):=af (Ba k) ⟨di o ho k,Fk o ho k,trivial⟩ Tryz.func120 (by kernel_rfl) fun f κ x h=>Eq.trans (by kernel_rfl) (ag h)
def gM {S:Type} (k:Nat):Rw S:=ae dp xn fun i κ=>aa k (fL k i) (ar κ)
def Bg {S:Type} (k:Nat):Fx S:=fp 9 [] [] k Tryz.f257 0
theorem iJ {S:Type} (o:Obj) (ho:ad o) (k:Nat):Tl o 257 (gM k:Rw S):=af (Bg k) trivial Tryz.func257 (by kernel_rfl) fun i κ x h=>Eq.trans (by kernel_rfl) (ag h)
def j1 {S:Type} (k:Nat):Rw S:=ae ja xn fun s i κ=>aa k (eL k s i) (dK κ)
def Bh {S:Type} (k:Nat):Fx S:=fp 16 [(257,gM k)] [] k Tryz.f214 0
theorem mV {S:Type} (o:Obj) (ho:ad o) (k:Nat):Tl o 214 (j1 k:Rw S):=af (Bh k) ⟨iJ o ho k,trivial⟩ Tryz.func214 (by kernel_rfl) fun s i κ x h=>Eq.trans (by kernel_rfl) (ag h)
def j3 {S:Type} (k:Nat):Rw S:=ae cP xn fun f κ=>aa k (io k f) (dK κ)
def kT {S:Type} (k:Nat):Fx S:=fp 22 [(214,j1 k)] [(3,ay [3,6,7,8] [],aj 5 11)] k Tryz.f158 0
def vd (f:List Cl) (s3 v8:Int):St UU:=⟨[(3,(iU s3)),(6,(sC f)),(7,(.int .i64 (f.length:Int))),(8,(iI v8))],[],[],[]⟩
section
variable {S:Type} (k:Nat) (f:List Cl) (κ:Out UU→Option S)
theorem C8: ∀n s3 v8,(kT k).lp κ 3 [] n (vd f s3 v8)=nT k (dK κ) f n s3 v8:=ax (qA k (dK κ) f) rfl (fun _=>rfl) fun r s3 v8=>by kernel_rfl
end
theorem mW {S:Type} (o:Obj) (ho:ad o) (k:Nat):Tl o 158 (j3 k:Rw S):=af (kT k) ⟨mV o ho k,trivial⟩ Tryz.func158 (by kernel_rfl) fun f κ x h=>Eq.trans (b:=ze k (dK κ) (fun s3 v8=>(kT k).lp κ 3 [] k (vd f s3 v8)) f) (by kernel_rfl) (Eq.trans (by simp only [C8];rfl) (ag h))
def xk {S:Type} (k:Nat):Rw S:=ae G6 xn fun f dims κ=>aa k (eP k f dims) (ar κ)
def Bj {S:Type} (k:Nat):Fx S:=fp 15 [(158,j3 k)] [] k Tryz.f121 0
theorem FF {S:Type} (o:Obj) (ho:ad o) (k:Nat):Tl o 121 (xk k:Rw S):=af (Bj k) ⟨mW o ho k,trivial⟩ Tryz.func121 (by kernel_rfl) fun f dims κ x h=>Eq.trans (by kernel_rfl) (ag h)
def po {S:Type} (k:Nat):Rw S:=ae i_ xn fun c κ=>aa k (md k c) (ar κ)
def Bm {S:Type} (k:Nat):Fx S:=fp 9 [] [] k Tryz.f160 0
theorem tw {S:Type} (o:Obj) (ho:ad o) (k:Nat):Tl o 160 (po k:Rw S):=af (Bm k) trivial Tryz.func160 (by kernel_rfl) fun c κ x h=>Eq.trans (by kernel_rfl) (ag h)
def xl {S:Type} (k:Nat):Rw S:=ae uk xn fun s κ=>aa k (sV k s) (ap κ)
def kU {S:Type} (k:Nat):Fx S:=fp 19 [(160,po k)] [(2,ay [0,1,7,8] [],aj 4 5)] k Tryz.f215 0
def ve (s:List Cl) (v8:Int):St UU:=⟨[(0,(sC s)),(1,(.func 160 [] [])),(7,(.int .i64 (s.length:Int))),(8,(iI v8))],[],[],[]⟩
section
variable {S:Type} (k:Nat) (s:List Cl) (κ:Out UU→Option S)
theorem C9: ∀n v8,(kU k).lp κ 2 [] n (ve s v8)=oa k (ap κ) s n v8:=bo (qS k (ap κ) s) rfl (fun _=>rfl) fun r v8=>by kernel_rfl
end
theorem FG {S:Type} (o:Obj) (ho:ad o) (k:Nat):Tl o 215 (xl k:Rw S):=af (kU k) ⟨tw o ho k,trivial⟩ Tryz.func215 (by kernel_rfl) fun s κ x h=>Eq.trans (b:=zB k (ap κ) (fun v8=>(kU k).lp κ 2 [] k (ve s v8)) s) (by kernel_rfl) (Eq.trans (by simp only [C9];rfl) (ag h))
def xm {S:Type} (k:Nat):Rw S:=ae uk xn fun s κ=>aa k (sR k s) (ar κ)
def Bn {S:Type} (k:Nat):Fx S:=fp 9 [(215,xl k)] [] k Tryz.f159 0
theorem FH {S:Type} (o:Obj) (ho:ad o) (k:Nat):Tl o 159 (xm k:Rw S):=af (Bn k) ⟨FG o ho k,trivial⟩ Tryz.func159 (by kernel_rfl) fun s κ x h=>Eq.trans (by kernel_rfl) (ag h)
def pq {S:Type} (k:Nat):Rw S:=ae cP xn fun f κ=>aa k (im k f) (ar κ)
def Bp {S:Type} (k:Nat):Fx S:=fp 10 [(120,eA k),(159,xm k)] [] k Tryz.f122 0
theorem tx {S:Type} (o:Obj) (ho:ad o) (k:Nat):Tl o 122 (pq k:Rw S):=af (Bp k) ⟨eR o ho k,FH o ho k,trivial⟩ Tryz.func122 (by kernel_rfl) fun f κ x h=>Eq.trans (by kernel_rfl) (ag h)
def xo {S:Type} (k:Nat):Rw S:=ae fW xn fun t vars dims κ=>aa k (mI k t vars dims) (ar κ)
def fz {S:Type} (k:Nat):Fx S:=fp 138 [(44,pe k),(118,ww k),(119,wE k),(120,eA k),(121,xk k),(122,pq k)] [(1000003,ay [1,2,3] [(3,6)],aj 2 3),(15,ay [2,3,107,108,109] [(3,6)],aj 6 23)] k Tryz.f70 0
def vf (t:Tm) (vars dims:Int):St UU:=⟨[(1,(iI vars)),(2,(iI dims)),(3,(pt 3))],[(3,bT t)],[],[]⟩
def vg (t:Tm) (dims:Int) (v109:Int):St UU:=⟨[(2,(iI dims)),(3,(pt 3)),(107,(sB t.sys)),(108,(.int .i64 (t.sys.length:Int))),(109,(iI v109))],[(3,bT t)],[],[]⟩
section
variable {S:Type} (k:Nat) (t:Tm) (vars dims:Int) (κ:Out UU→Option S)
theorem Da: ∀n v109,(fz k).lp κ 15 [] n (vg t dims v109)=ju k (ar κ) t dims n v109:=bo (re k (ar κ) t dims) rfl (fun _=>rfl) fun r v109=>by kernel_rfl
theorem C_: ∀n,(fz k).jn κ 1000003 [] n (vf t vars dims)=uF k (ar κ) t vars dims n:=i9 (lW k (ar κ) t vars dims (fun v109=>ju k (ar κ) t dims k v109)) rfl (fun _=>rfl) (Eq.trans (b:=lW k (ar κ) t vars dims (fun v109=>(fz k).lp κ 15 [] k (vg t dims v109))) (by kernel_rfl) (by simp only [Da]))
end
theorem FI {S:Type} (o:Obj) (ho:ad o) (k:Nat):Tl o 70 (xo k:Rw S):=af (fz k) ⟨tn o ho k,ER o ho k,E0 o ho k,eR o ho k,FF o ho k,tx o ho k,trivial⟩ Tryz.func70 (by kernel_rfl) fun t vars dims κ x h=>Eq.trans (b:=zO k (ar κ) ((fz k).jn κ 1000003 [] k (vf t vars dims)) t vars dims) (by kernel_rfl) (Eq.trans (by simp only [C_];rfl) (ag h))
def fe {S:Type} (hd:aU S):Rw S:=ae G7 xn fun t vars dims bound κ=>hd t vars dims bound (ar κ)
def xp {S:Type} (hd:aU S) (k:Nat):Rw S:=ae G8 zZ fun a_k v d c0 c1 c2 κ=>aa k (mF hd k a_k v d c0 c1 c2) (bH c0 c1 c2 κ)
def Bt {S:Type} (hd:aU S) (k:Nat):Fx S:=fp 21 [(38,fe hd)] [] k Tryz.f72 3
theorem FJ {S:Type} (o:Obj) (ho:ad o) (hd:aU S) (Hd:Tl o 38 (fe hd)) (k:Nat):Tl o 72 (xp hd k:Rw S):=af (Bt hd k) ⟨Hd,trivial⟩ Tryz.func72 (by kernel_rfl) fun a_k v d c0 c1 c2 κ x h=>Eq.trans (by kernel_rfl) (ag h)
def xq {S:Type} (hd:aU S) (k:Nat):Rw S:=ae G9 zZ fun t c0 c1 c2 κ=>aa k (mH hd k t c0 c1 c2) (bH c0 c1 c2 κ)
def dW {S:Type} (hd:aU S) (k:Nat):Fx S:=fp 60 [(36,cY k),(72,xp hd k)] [(2,ay [1,2,15,16,17] [(2,6),(1000000,1),(1000001,1),(1000002,1)],aj 4 5),(12,ay [1,9,40,41,42] [(1000000,1),(1000001,1),(1000002,1)],aj 7 47),(15,ay [1,9,40,41,42,47,48,49] [(1000000,1),(1000001,1),(1000002,1)],aj 15 13103)] k Tryz.f71 3
def oL (c0 c1:Int) (c2:Bool) (t:Tm) (v17:Int):St UU:=⟨[(1,(.func 72 [] [(pt 1000000),(pt 1000001),(pt 1000002)])),(2,(pt 2)),(15,(sT t.kids)),(16,(.int .i64 (t.kids.length:Int))),(17,(iI v17))],[(2,bT t),(1000000,bI c0),(1000001,bI c1),(1000002,.cells [(.bool c2)])],[],[]⟩
def gu (c0 c1:Int) (c2:Bool) (t:Tm) (v42 more9:Int):St UU:=⟨[(1,(.func 72 [] [(pt 1000000),(pt 1000001),(pt 1000002)])),(9,(iI more9)),(40,(sB t.sys)),(41,(.int .i64 (t.sys.length:Int))),(42,(iI v42))],[(1000000,bI c0),(1000001,bI c1),(1000002,.cells [(.bool c2)])],[],[]⟩
def vh (c0 c1:Int) (c2:Bool) (t:Tm) (v42:Int) (x4:(Br Tm)) (more9:Int) (v49:Int):St UU:=⟨[(1,(.func 72 [] [(pt 1000000),(pt 1000001),(pt 1000002)])),(9,(iI more9)),(40,(sB t.sys)),(41,(.int .i64 (t.sys.length:Int))),(42,(iI v42)),(47,(sT x4.kids)),(48,(.int .i64 (x4.kids.length:Int))),(49,(iI v49))],[(1000000,bI c0),(1000001,bI c1),(1000002,.cells [(.bool c2)])],[],[]⟩
section
variable {S:Type} (hd:aU S) (k:Nat) (t:Tm) (c0 c1:Int) (c2:Bool) (κ:Out UU→Option S)
theorem Dd (v42 x4 more9 κ1): ∀n v49,(dW hd k).lp κ 15 [κ1] n (vh c0 c1 c2 t v42 x4 more9 v49)=jp hd k (bH c0 c1 c2 κ) (fun v42 more9=>κ1 (gu c0 c1 c2 t v42 more9)) c0 c1 c2 t v42 x4 more9 n v49:=bo (qZ hd k (bH c0 c1 c2 κ) c0 c1 c2 t v42 x4 more9 (fun v42 more9=>κ1 (gu c0 c1 c2 t v42 more9))) rfl (fun _=>rfl) fun r v49=>by kernel_rfl
theorem Dc: ∀n v42 more9,(dW hd k).lp κ 12 [] n (gu c0 c1 c2 t v42 more9)=f_ hd k (bH c0 c1 c2 κ) c0 c1 c2 t n v42 more9:=ax (fun own=>lN hd k (bH c0 c1 c2 κ) c0 c1 c2 t (fun v42 x4 more9 v49=>jp hd k (bH c0 c1 c2 κ) own c0 c1 c2 t v42 x4 more9 k v49) own) rfl (fun _=>rfl) fun r v42 more9=>Eq.trans (b:=lN hd k (bH c0 c1 c2 κ) c0 c1 c2 t (fun v42 x4 more9 v49=>(dW hd k).lp κ 15 [r] k (vh c0 c1 c2 t v42 x4 more9 v49)) (fun v42 more9=>r (gu c0 c1 c2 t v42 more9)) v42 more9) (by kernel_rfl) (by simp only [Dd])
theorem Db: ∀n v17,(dW hd k).lp κ 2 [] n (oL c0 c1 c2 t v17)=oq hd k (bH c0 c1 c2 κ) c0 c1 c2 t n v17:=bo (fun own=>lM hd k (bH c0 c1 c2 κ) c0 c1 c2 t (fun v42 more9=>f_ hd k (bH c0 c1 c2 κ) c0 c1 c2 t k v42 more9) own) rfl (fun _=>rfl) fun r v17=>Eq.trans (b:=lM hd k (bH c0 c1 c2 κ) c0 c1 c2 t (fun v42 more9=>(dW hd k).lp κ 12 [] k (gu c0 c1 c2 t v42 more9)) (fun v17=>r (oL c0 c1 c2 t v17)) v17) (by kernel_rfl) (by simp only [Dc])
end
theorem FK {S:Type} (o:Obj) (ho:ad o) (hd:aU S) (Hd:Tl o 38 (fe hd)) (k:Nat):Tl o 71 (xq hd k:Rw S):=af (dW hd k) ⟨dj o ho k,FJ o ho hd Hd k,trivial⟩ Tryz.func71 (by kernel_rfl) fun t c0 c1 c2 κ x h=>Eq.trans (b:=zJ hd k (bH c0 c1 c2 κ) (fun v17=>(dW hd k).lp κ 2 [] k (oL c0 c1 c2 t v17)) t c0 c1 c2) (by kernel_rfl) (Eq.trans (by simp only [Db];rfl) (ag h))
def Bq {S:Type} (hd:aU S) (k:Nat):Fx S:=fp 24 [(70,xo k),(71,xq hd k)] [] k Tryz.f38 0
theorem nk {S:Type} (o:Obj) (ho:ad o): ∀k:Nat,Tl o 38 (fe (dC k:aU S))
 |0=>cv fun t vars dims bound κ x h=>by cases h
 |k+1=>af (Bq (dC k) k) ⟨FI o ho k,FK o ho (dC k) (nk o ho k) k,trivial⟩ Tryz.func38 (by kernel_rfl) fun t vars dims bound κ x h=>Eq.trans (by kernel_rfl) h
def bi {S:Type} (k:Nat):Rw S:=ae be xn fun t κ=>aa k (ba k t) (ap κ)
def Bu {S:Type} (k:Nat):Fx S:=fp 12 [(37,pc k),(38,fe (dC k))] [] k Tryz.f21 0
theorem bn {S:Type} (o:Obj) (ho:ad o) (k:Nat):Tl o 21 (bi k:Rw S):=af (Bu k) ⟨tk o ho k,nk o ho k,trivial⟩ Tryz.func21 (by kernel_rfl) fun t κ x h=>Eq.trans (by kernel_rfl) (ag h)
def bS {S:Type} (hd:bm S):Rw S:=ae be xn fun t κ=>hd t (jI κ)
def xt {S:Type} (hd:bm S) (k:Nat):Rw S:=ae ul xn fun l κ=>aa k (mG hd k l) (jJ κ)
def kW {S:Type} (hd:bm S) (k:Nat):Fx S:=fp 19 [(22,bS hd)] [(3,⟨[(3,some (100003,true)),(6,.none),(7,.none),(8,.none)],[]⟩,aj 5 11)] k Tryz.f49 0
def vj (l:List Tm) (out3:List Tm) (v8:Int):St UU:=⟨[(3,(.own 100003 0)),(6,(sT l)),(7,(.int .i64 (l.length:Int))),(8,(iI v8))],[],[(100003,⟨0,ET.T,out3⟩)],[(100003,.wr)]⟩
section
variable {S:Type} (hd:bm S) (k:Nat) (l:List Tm) (κ:Out UU→Option S)
theorem Dg: ∀n out3 v8,(kW hd k).lp κ 3 [] n (vj l out3 v8)=ol hd k (jJ κ) l n out3 v8:=ax (qX hd k (jJ κ) l) rfl (fun _=>rfl) fun r out3 v8=>by kernel_rfl
end
theorem FL {S:Type} (o:Obj) (ho:ad o) (hd:bm S) (Hd:Tl o 22 (bS hd)) (k:Nat):Tl o 49 (xt hd k:Rw S):=af (kW hd k) ⟨Hd,trivial⟩ Tryz.func49 (by kernel_rfl) fun l κ x h=>Eq.trans (b:=zH hd k (jJ κ) (fun out3 v8=>(kW hd k).lp κ 3 [] k (vj l out3 v8)) l) (by kernel_rfl) (Eq.trans (by simp only [Dg];rfl) (ag h))
def kV {S:Type} (hd:bm S) (k:Nat):Fx S:=fp 40 [(48,pK),(49,xt hd k)] [(3,⟨[(2,.none),(3,.none),(20,.none),(21,.none),(22,.none)],[(2,[.none,.none,.none,some (200131,true),some (200132,true),some (200133,true)]),(3,[.none,.none,.none,.none,.none,some (200197,true)])]⟩,aj 5 11)] k Tryz.f22 0
def vi (t:Tm) (r1:List Cl) (r2:List Tm) (b3_5:List (Br Tm)) (v22:Int):St UU:=⟨[(2,(pt 2)),(3,(pt 3)),(20,(sB t.sys)),(21,(.int .i64 (t.sys.length:Int))),(22,(iI v22))],[(2,.cells [(iI 0),(iI 0),(.str ByteArray.empty),(.own 200131 0),(.own 200132 0),(.own 200133 0)]),(3,.cells [(iI t.kind),(iI t.n),(.str t.name),(sC r1),(sT r2),(.own 200197 0)])],[(200197,⟨0,ET.B,b3_5⟩),(200133,⟨0,ET.B,([]:List (Br Tm))⟩),(200132,⟨0,ET.T,([]:List Tm)⟩),(200131,⟨0,ET.C,([]:List Cl)⟩)],[(200197,.wr),(200133,.wr),(200132,.wr),(200131,.wr)]⟩
section
variable {S:Type} (hd:bm S) (k:Nat) (t:Tm) (κ:Out UU→Option S)
theorem De (r1 r2): ∀n b3_5 v22,(kV hd k).lp κ 3 [] n (vi t r1 r2 b3_5 v22)=oj hd k (jI κ) t r1 r2 n b3_5 v22:=ax (qW hd k (jI κ) t r1 r2) rfl (fun _=>rfl) fun r b3_5 v22=>by kernel_rfl
end
theorem cO {S:Type} (o:Obj) (ho:ad o): ∀k:Nat,Tl o 22 (bS (aJ k:bm S))
 |0=>cv fun t κ x h=>by cases h
 |k+1=>af (kV (aJ k) k) ⟨Mj o ho,FL o ho (aJ k) (cO o ho k) k,trivial⟩ Tryz.func22 (by kernel_rfl) fun t κ x h=>Eq.trans (b:=zF (aJ k) k (jI κ) (fun r1 r2 b3_5 v22=>(kV (aJ k) k).lp κ 3 [] k (vi t r1 r2 b3_5 v22)) t) (by kernel_rfl) (Eq.trans (by simp only [De];rfl) h)
def Jj {S:Type} (k:Nat):Rw S:=ae fX aD fun c0 κ=>aa k (bq k c0) (bh c0 κ)
def cZ {S:Type} (k:Nat):Rw S:=ae fX aD fun c0 κ=>aa k (bq k c0) (ar κ)
def Bw {S:Type} (k:Nat):Fx S:=fp 8 [] [] k Tryz.f50 1
theorem FM {S:Type} (o:Obj) (ho:ad o) (k:Nat):Tl o 50 (Jj k:Rw S):=af (Bw k) trivial Tryz.func50 (by kernel_rfl) fun c0 κ x h=>Eq.trans (by kernel_rfl) (ag h)
theorem dk {S:Type} (o:Obj) (ho:ad o) (k:Nat):Tl o 50 (cZ k:Rw S):=zQ (FM o ho k) fun c0 κ x h=>Eq.trans (b:=aa k (bq k c0) (bh c0 (ic _ κ))) (by kernel_rfl) (Eq.trans (congrArg (aa k (bq k c0)) (funext fun r=>if_pos rfl)) h)
def j4 {S:Type} (k:Nat):Rw S:=ae nx xn fun kind kids κ=>aa k (d8 k kind kids) (o8 κ)
def Bx {S:Type} (k:Nat):Fx S:=fx 8 (fun _=>[]) (fun _=>false) [] [] k Tryz.f82 true [] 0
theorem mX {S:Type} (o:Obj) (ho:ad o) (k:Nat):Tl o 82 (j4 k:Rw S):=af (Bx k) trivial Tryz.func82 (by kernel_rfl) fun kind kids κ x h=>Eq.trans (by kernel_rfl) (ag h)
def pr {S:Type} (k:Nat):Rw S:=ae um xn fun sys κ=>aa k (ig k sys) (vU κ)
def By {S:Type} (k:Nat):Fx S:=fx 8 (fun _=>[]) (fun _=>false) [(82,j4 k)] [] k Tryz.f81 true [] 0
theorem tz {S:Type} (o:Obj) (ho:ad o) (k:Nat):Tl o 81 (pr k:Rw S):=af (By k) ⟨mX o ho k,trivial⟩ Tryz.func81 (by kernel_rfl) fun sys κ x h=>Eq.trans (by kernel_rfl) (ag h)
end
end Go.Proofs.YtfkkpkhfjpaafaaGreatDoor
