/- Part 4 of a proof: the sources, with their names and remarks, lie in wip/. -/
import Derived.Test.YtapmagaejigpnaaGreatDoorX3
import Derived.Test.YtapmagaejigpnaaGreatDoorRows
import Derived.ProofKit
import Derived.OpenShut
import Derived.ChangeArms
import Derived.Deep.Slices
namespace Go.Proofs.YtapmagaejigpnaaGreatDoor
open Go PI
set_option linter.unusedVariables false
set_option maxRecDepth 100000
noncomputable section
abbrev JW (S:Type):=Tm→Int→Int→Int→Int→(Tm→Option S)→Option S
abbrev JX (S:Type):=Tm→Int→(List Cl)→Int→Bool→(Tm→Option S)→Option S
noncomputable def Gl {S:Type} (k:Nat) (ret:Tm×Int→Option S) (line:Tm) (phi:List Cl) (a:Tm):Option S:=
 aa k (nS k (ac line) phi (ac a) (Cl.mk 1 0) [(Cl.mk 0 1),(Cl.mk 2 0)]) fun r1=>
 ret ((ac r1.1),r1.2)
noncomputable def rk {S:Type} (k:Nat) (line:Tm) (phi:List Cl) (a:Tm) (ret:Tm×Int→Option S):Option S:=Gl k ret line phi a
abbrev zR (S:Type):=Tm→Tm→(Bool→Option S)→Option S
abbrev JT (S:Type):=Tm→(Tm→Option S)→Option S
abbrev dQ (S:Type):=Tm→(Tm→Option S)→Option S
def qS {S:Type} (hd:dQ S) (k:Nat) (ret:List Tm→Option S) (l:List Tm) (rec0:(List Tm)→Int→Option S) (out3:List Tm) (v8:Int):Option S:=
 ab (decide ((v8:Int)<(l.length:Int))) (
 Option.bind (av l v8) fun x1=>
 hd (ac x1) fun r2=>
 Option.bind (aP 1099511627776 out3.length [(ac r2)].length) fun x3=>
  rec0 (out3++[(ac r2)]) (IntKind.wrap .i64 (v8+1))) (
 ret out3)
noncomputable def mn {S:Type} (hd:dQ S) (k:Nat) (ret:List Tm→Option S) (l:List Tm):Nat→(List Tm)→Int→Option S
 |0=>fun _ _=> .none
 |m+1=>fun out3 v8=>qS hd k ret l (mn hd k ret l m) out3 v8
noncomputable def zu {S:Type} (hd:dQ S) (k:Nat) (ret:List Tm→Option S) (J0:(List Tm)→Int→Option S) (l:List Tm):Option S:=
 J0 ([]:List Tm) 0
noncomputable def og {S:Type} (hd:dQ S) (k:Nat) (l:List Tm) (ret:List Tm→Option S):Option S:=zu hd k ret (fun out3 v8=>mn hd k ret l k out3 v8) l
def qR {S:Type} (hd:dQ S) (k:Nat) (ret:Tm→Option S) (t:Tm) (r1:List Cl) (r2:List Tm) (rec0:(List (Br Tm))→Int→Option S) (b3_5:List (Br Tm)) (v22:Int):Option S:=
 ab (decide ((v22:Int)<(t.sys.length:Int))) (
 Option.bind (av t.sys v22) fun x3=>
 mF x3.face fun r4=>
 aa k (og hd k x3.kids) fun r5=>
 Option.bind (aP 1099511627776 b3_5.length [(Br.mk r4 r5)].length) fun x6=>
  rec0 (b3_5++[(Br.mk r4 r5)]) (IntKind.wrap .i64 (v22+1))) (
 ret (Tm.mk t.kind t.n t.name r1 r2 b3_5))
noncomputable def mm {S:Type} (hd:dQ S) (k:Nat) (ret:Tm→Option S) (t:Tm) (r1:List Cl) (r2:List Tm):Nat→(List (Br Tm))→Int→Option S
 |0=>fun _ _=> .none
 |m+1=>fun b3_5 v22=>qR hd k ret t r1 r2 (mm hd k ret t r1 r2 m) b3_5 v22
noncomputable def zt {S:Type} (hd:dQ S) (k:Nat) (ret:Tm→Option S) (J0:(List Cl)→(List Tm)→(List (Br Tm))→Int→Option S) (t:Tm):Option S:=
 mF t.r fun r1=>
 aa k (og hd k t.kids) fun r2=>
 J0 r1 r2 ([]:List (Br Tm)) 0
noncomputable def dl {S:Type}:Nat→Tm→(Tm→Option S)→Option S
 |0=>fun _ _=> .none
 |k+1=>fun t ret=>zt (dl k) k ret (fun r1 r2 b3_5 v22=>mm (dl k) k ret t r1 r2 k b3_5 v22) t
def Gt {S:Type} (k:Nat) (ret:Tm×Int→Option S) (line:Tm) (c0:Int):Option S:=
 aa k (ca k c0) fun r1=>
 ab (!r1) (
 ret ((Tm.mk 0 0 ByteArray.empty [] [] []),c0)) (
 aa k (n7 k) fun r2=>
 aa k (lr k (ac line) 0 r2) fun r3=>
 aa k (fb k r3.2 c0) fun r4=>
 ret ((ac r3.1),r4))
noncomputable def rq {S:Type} (k:Nat) (line:Tm) (c0:Int) (ret:Tm×Int→Option S):Option S:=Gt k ret line c0
def lc {S:Type} (k:Nat) (ret:Tm×Int→Option S) (r3:Tm) (r9:Int×Int×ByteArray×List Tm) (r6:Tm) (rec0:Int→(List (Br Tm))→Int→Option S) (b19000_0:Int) (b9_5:List (Br Tm)) (v38:Int):Option S:=
 ab (decide ((v38:Int)<(r6.sys.length:Int))) (
 Option.bind (av r6.sys v38) fun x10=>
 aa k (ca k b19000_0) fun r11=>
 ab (!r11) (
  aa k (cE k (Tm.mk r9.1 r9.2.1 r9.2.2.1 [] r9.2.2.2 b9_5) b19000_0) fun r12=>
  ret ((ac r12.1),r12.2.1)) (
  aa k (fI k (ac r3) [(Cl.mk 1 0),(Cl.mk 2 0)] b19000_0) fun r13=>
  Option.bind (av x10.kids 0) fun x14=>
  aa k (bh k 14 [(ac r13.1),(ac x14)]) fun r15=>
  Option.bind (aP 1099511627776 b9_5.length [(Br.mk x10.face [(Tm.mk r15.1 r15.2.1 r15.2.2.1 [(Cl.mk 1 0)] r15.2.2.2 [])])].length) fun x16=>
   rec0 r13.2 (b9_5++[(Br.mk x10.face [(Tm.mk r15.1 r15.2.1 r15.2.2.1 [(Cl.mk 1 0)] r15.2.2.2 [])])]) (IntKind.wrap .i64 (v38+1)))) (
 aa k (cE k (Tm.mk r9.1 r9.2.1 r9.2.2.1 [] r9.2.2.2 b9_5) b19000_0) fun r17=>
 ret ((ac r17.1),r17.2.1))
noncomputable def h9 {S:Type} (k:Nat) (ret:Tm×Int→Option S) (r3:Tm) (r9:Int×Int×ByteArray×List Tm) (r6:Tm):Nat→Int→(List (Br Tm))→Int→Option S
 |0=>fun _ _ _=> .none
 |m+1=>fun b19000_0 b9_5 v38=>lc k ret r3 r9 r6 (h9 k ret r3 r9 r6 m) b19000_0 b9_5 v38
noncomputable def yF {S:Type} (k:Nat) (ret:Tm×Int→Option S) (J0:Tm→(Int×Int×ByteArray×List Tm)→Tm→Int→(List (Br Tm))→Int→Option S) (line a:Tm) (sys:List (Br Tm)):Option S:=
 aa k (ln k sys) fun r1=>
 aa k (gn k [(ac line),(ac a),(Tm.mk r1.1 r1.2.1 r1.2.2.1 [] r1.2.2.2.1 r1.2.2.2.2)]) fun r2=>
 dl k (ac line) fun r3=>
 dl k (ac a) fun r4=>
 aa k (ln k sys) fun r5=>
 dl k (Tm.mk r5.1 r5.2.1 r5.2.2.1 [] r5.2.2.2.1 r5.2.2.2.2) fun r6=>
 aa k (rq k (ac r3) r2) fun r7=>
 aa k (bh k 14 [(ac r3),(ac r4)]) fun r8=>
 aa k (bh k 15 [(ac r7.1),(Tm.mk r8.1 r8.2.1 r8.2.2.1 [] r8.2.2.2 [])]) fun r9=>
 J0 r3 r9 r6 r7.2 ([]:List (Br Tm)) 0
noncomputable def rl {S:Type} (k:Nat) (line a:Tm) (sys:List (Br Tm)) (ret:Tm×Int→Option S):Option S:=yF k ret (fun r3 r9 r6 b19000_0 b9_5 v38=>h9 k ret r3 r9 r6 k b19000_0 b9_5 v38) line a sys
noncomputable def Gu {S:Type} (k:Nat) (ret:Int×Int×ByteArray×List Tm×Int→Option S) (t a f y:Tm) (c0:Int):Option S:=
 aa k (bZ k (ac a) 1 1 c0) fun r1=>
 aa k (bZ k (ac y) 1 0 r1.2) fun r2=>
 aa k (bZ k (ac f) 1 0 r2.2) fun r3=>
 aa k (dR k 0) fun r4=>
 aa k (bh k 6 [(ac r3.1),(Tm.mk r4.1 r4.2.1 r4.2.2 [] [] [])]) fun r5=>
 aa k (bh k 11 [(ac r1.1),(ac r2.1),(Tm.mk r5.1 r5.2.1 r5.2.2.1 [] r5.2.2.2 [])]) fun r6=>
 aa k (bh k 7 [(ac t),(Tm.mk r6.1 r6.2.1 r6.2.2.1 [] r6.2.2.2 [])]) fun r7=>
 ret (r7.1,r7.2.1,r7.2.2.1,r7.2.2.2,r3.2)
noncomputable def lm {S:Type} (k:Nat) (t a f y:Tm) (c0:Int) (ret:Int×Int×ByteArray×List Tm×Int→Option S):Option S:=Gu k ret t a f y c0
noncomputable def Gn {S:Type} (k:Nat) (ret:Tm×Int→Option S) (t a f y:Tm):Option S:=
 aa k (gn k [(ac t),(ac a),(ac f),(ac y)]) fun r1=>
 dl k (ac t) fun r2=>
 aa k (lm k (ac r2) (ac a) (ac f) (ac y) r1) fun r3=>
 aa k (cE k (Tm.mk r3.1 r3.2.1 r3.2.2.1 [] r3.2.2.2.1 []) r3.2.2.2.2) fun r4=>
 ret ((ac r4.1),r4.2.1)
noncomputable def rp {S:Type} (k:Nat) (t a f y:Tm) (ret:Tm×Int→Option S):Option S:=Gn k ret t a f y
noncomputable def Gs {S:Type} (k:Nat) (ret:Int×Int×ByteArray×List Tm×Int→Option S) (t:Tm) (c0:Int):Option S:=
 aa k (bZ k (ac t) 1 0 c0) fun r1=>
 aa k (bZ k (ac t) 2 1 r1.2) fun r2=>
 aa k (dR k 1) fun r3=>
 aa k (dR k 0) fun r4=>
 aa k (bh k 11 [(ac r2.1),(Tm.mk r3.1 r3.2.1 r3.2.2 [] [] []),(Tm.mk r4.1 r4.2.1 r4.2.2 [] [] [])]) fun r5=>
 aa k (bh k 4 [(ac r1.1),(Tm.mk r5.1 r5.2.1 r5.2.2.1 [] r5.2.2.2 [])]) fun r6=>
 aa k (bh k 7 [(ac t),(Tm.mk r6.1 r6.2.1 r6.2.2.1 [] r6.2.2.2 [])]) fun r7=>
 ret (r7.1,r7.2.1,r7.2.2.1,r7.2.2.2,r2.2)
noncomputable def nT {S:Type} (k:Nat) (t:Tm) (c0:Int) (ret:Int×Int×ByteArray×List Tm×Int→Option S):Option S:=Gs k ret t c0
noncomputable def Gm {S:Type} (k:Nat) (ret:Tm×Int→Option S) (t a:Tm):Option S:=
 aa k (gn k [(ac t),(ac a)]) fun r1=>
 dl k (ac t) fun r2=>
 aa k (bZ k (ac a) 1 0 r1) fun r3=>
 aa k (bh k 4 [(ac r2),(ac r3.1)]) fun r4=>
 aa k (bZ k (ac a) 1 0 r3.2) fun r5=>
 aa k (bZ k (ac t) 2 0 r5.2) fun r6=>
 aa k (bZ k (ac a) 2 0 r6.2) fun r7=>
 aa k (dR k 1) fun r8=>
 aa k (dR k 0) fun r9=>
 aa k (lm k (ac r6.1) (ac r7.1) (Tm.mk r8.1 r8.2.1 r8.2.2 [] [] []) (Tm.mk r9.1 r9.2.1 r9.2.2 [] [] []) r7.2) fun r10=>
 aa k (nT k (Tm.mk r10.1 r10.2.1 r10.2.2.1 [] r10.2.2.2.1 []) r10.2.2.2.2) fun r11=>
 aa k (bh k 4 [(ac r5.1),(Tm.mk r11.1 r11.2.1 r11.2.2.1 [] r11.2.2.2.1 [])]) fun r12=>
 aa k (bh k 7 [(Tm.mk r4.1 r4.2.1 r4.2.2.1 [] r4.2.2.2 []),(Tm.mk r12.1 r12.2.1 r12.2.2.1 [] r12.2.2.2 [])]) fun r13=>
 aa k (cE k (Tm.mk r13.1 r13.2.1 r13.2.2.1 [] r13.2.2.2 []) r11.2.2.2.2) fun r14=>
 ret ((ac r14.1),r14.2.1)
noncomputable def rn {S:Type} (k:Nat) (t a:Tm) (ret:Tm×Int→Option S):Option S:=Gm k ret t a
abbrev JR (S:Type):=Tm→(Bool→Option S)→Option S
noncomputable def zj {S:Type} (k:Nat) (ret:Int×Int×ByteArray×List Tm×List (Br Tm)→Option S) (sys:List (Br Tm)):Option S:=
 ret (15,0,ByteArray.empty,[(Tm.mk 3 0 ByteArray.empty [] [] []),(Tm.mk 3 0 ByteArray.empty [] [] [])],sys)
noncomputable def n_ {S:Type} (k:Nat) (sys:List (Br Tm)) (ret:Int×Int×ByteArray×List Tm×List (Br Tm)→Option S):Option S:=zj k ret sys
abbrev fE (S:Type):=Tm→(Int→Option S)→Option S
def qJ {S:Type} (hd:fE S) (k:Nat) (ret:Int→Option S) (t:Tm) (v37:Int) (x4:(Br Tm)) (rec1:Int→Int→Option S) (rec2:Int→Int→Option S) (most3'' v44:Int):Option S:=
 ab (decide ((v44:Int)<(x4.kids.length:Int))) (
 Option.bind (av x4.kids v44) fun x5=>
 hd (ac x5) fun r6=>
  rec2 (if IntKind.wrap .i64 (1+r6)>most3'' then IntKind.wrap .i64 (1+r6) else most3'') (IntKind.wrap .i64 (v44+1))) (
  rec1 most3'' (IntKind.wrap .i64 (v37+1)))
noncomputable def kn {S:Type} (hd:fE S) (k:Nat) (ret:Int→Option S) (rec1:Int→Int→Option S) (t:Tm) (v37:Int) (x4:(Br Tm)):Nat→Int→Int→Option S
 |0=>fun _ _=> .none
 |m+1=>fun most3'' v44=>qJ hd k ret t v37 x4 rec1 (kn hd k ret rec1 t v37 x4 m) most3'' v44
def nz {S:Type} (hd:fE S) (k:Nat) (ret:Int→Option S) (t:Tm) (J2:Int→(Br Tm)→Int→Int→Option S) (rec1:Int→Int→Option S) (most3' v37:Int):Option S:=
 ab (decide ((v37:Int)<(t.sys.length:Int))) (
 Option.bind (av t.sys v37) fun x4=>
  J2 v37 x4 most3' 0) (
 ret most3')
noncomputable def h_ {S:Type} (hd:fE S) (k:Nat) (ret:Int→Option S) (t:Tm):Nat→Int→Int→Option S
 |0=>fun _ _=> .none
 |m+1=>fun most3' v37=>nz hd k ret t (fun v37 x4 most3'' v44=>kn hd k ret (h_ hd k ret t m) t v37 x4 k most3'' v44) (h_ hd k ret t m) most3' v37
def ny {S:Type} (hd:fE S) (k:Nat) (ret:Int→Option S) (t:Tm) (J1:Int→Int→Option S) (rec0:Int→Int→Option S) (v15 most3:Int):Option S:=
 ab (decide ((v15:Int)<(t.kids.length:Int))) (
 Option.bind (av t.kids v15) fun x1=>
 aa k (gZ k t.kind v15) fun r2=>
 hd (ac x1) fun r3=>
  rec0 (IntKind.wrap .i64 (v15+1)) (if IntKind.wrap .i64 (r2.2+r3)>most3 then IntKind.wrap .i64 (r2.2+r3) else most3)) (
  J1 most3 0)
noncomputable def mh {S:Type} (hd:fE S) (k:Nat) (ret:Int→Option S) (t:Tm):Nat→Int→Int→Option S
 |0=>fun _ _=> .none
 |m+1=>fun v15 most3=>ny hd k ret t (fun most3' v37=>h_ hd k ret t k most3' v37) (mh hd k ret t m) v15 most3
noncomputable def zi {S:Type} (hd:fE S) (k:Nat) (ret:Int→Option S) (J0:Int→Int→Option S) (t:Tm):Option S:=
 J0 0 0
noncomputable def d7 {S:Type}:Nat→Tm→(Int→Option S)→Option S
 |0=>fun _ _=> .none
 |k+1=>fun t ret=>zi (d7 k) k ret (fun v15 most3=>mh (d7 k) k ret t k v15 most3) t
def G8 {S:Type} (k:Nat) (ret:Bool→Option S) (a b:Tm) (sys:List (Br Tm)):Option S:=
 d7 k (ac a) fun r1=>
 ab (decide ((r1:Int)>8)) (
 ret true) (
 d7 k (ac b) fun r2=>
 ab (decide ((r2:Int)>8)) (
  ret true) (
  aa k (n_ k sys) fun r3=>
  d7 k (Tm.mk r3.1 r3.2.1 r3.2.2.1 [] r3.2.2.2.1 r3.2.2.2.2) fun r4=>
  ret (decide ((r4:Int)>8))))
noncomputable def gX {S:Type} (k:Nat) (a b:Tm) (sys:List (Br Tm)) (ret:Bool→Option S):Option S:=G8 k ret a b sys
def vd {S:Type} (k:Nat) (ret:Bool→Option S) (t:Tm) (vars many:Int):Option S:=
 aa k (rp k (ac t) (ac t) (ac t) (ac t)) fun r24=>
 ab (!(r24.2==0)) (
 ret true) (
 aa k (d8 k (ac r24.1) vars many) fun r25=>
 ab (r25==0) (
  ret true) (
  aa k (gX k (ac t) (ac t) ([]:List (Br Tm))) fun r26=>
  ret r26))
noncomputable def mg {S:Type} (k:Nat) (ret:Bool→Option S) (t:Tm) (vars many:Int):Nat→Option S
 |0=> .none
 |_+1=>vd k ret t vars many
def qI {S:Type} (k:Nat) (ret:Bool→Option S) (t:Tm) (vars many:Int) (J4:Option S):Option S:=
 aa k (rn k (ac t) (ac t)) fun r21=>
 ab (r21.2==0) (
 aa k (d8 k (ac r21.1) vars many) fun r22=>
 ab (!(r22==0)) (
  aa k (gX k (ac t) (ac t) ([]:List (Br Tm))) fun r23=>
  ab (!r23) (
  ret false) (
    J4)) (
   J4)) (
  J4)
noncomputable def mf {S:Type} (k:Nat) (ret:Bool→Option S) (t:Tm) (vars many:Int):Nat→Option S
 |0=> .none
 |_+1=>qI k ret t vars many (mg k ret t vars many k)
def qH {S:Type} (k:Nat) (ret:Bool→Option S) (line t:Tm) (phi:List Cl) (vars many:Int) (J3:Option S):Option S:=
 aa k (rk k (ac line) phi (ac t)) fun r18=>
 ab (r18.2==0) (
 aa k (d8 k (ac r18.1) vars (IntKind.wrap .i64 (many+1))) fun r19=>
 ab (!(r19==0)) (
  aa k (gX k (ac line) (ac t) ([]:List (Br Tm))) fun r20=>
  ab (!r20) (
  ret false) (
    J3)) (
   J3)) (
  J3)
noncomputable def me {S:Type} (k:Nat) (ret:Bool→Option S) (line t:Tm) (phi:List Cl) (vars many:Int):Nat→Option S
 |0=> .none
 |_+1=>qH k ret line t phi vars many (mf k ret t vars many k)
def qG {S:Type} (k:Nat) (ret:Bool→Option S) (line t:Tm) (phi:List Cl) (vars many:Int) (J2:Option S):Option S:=
 aa k (nR k (ac line) phi (ac t)) fun r15=>
 ab (r15.2==0) (
 aa k (d8 k (ac r15.1) vars (IntKind.wrap .i64 (many+1))) fun r16=>
 ab (!(r16==0)) (
  aa k (gX k (ac line) (ac t) ([]:List (Br Tm))) fun r17=>
  ab (!r17) (
  ret false) (
    J2)) (
   J2)) (
  J2)
noncomputable def md {S:Type} (k:Nat) (ret:Bool→Option S) (line t:Tm) (phi:List Cl) (vars many:Int):Nat→Option S
 |0=> .none
 |_+1=>qG k ret line t phi vars many (me k ret line t phi vars many k)
def qF {S:Type} (k:Nat) (ret:Bool→Option S) (line t:Tm) (sys:List (Br Tm)) (phi:List Cl) (vars many:Int) (J1:Option S):Option S:=
 aa k (nQ k (ac t) (ac t) sys) fun r12=>
 ab (r12.2==0) (
 aa k (d8 k (ac r12.1) vars (IntKind.wrap .i64 (many+1))) fun r13=>
 ab (!(r13==0)) (
  aa k (gX k (ac t) (ac t) sys) fun r14=>
  ab (!r14) (
  ret false) (
    J1)) (
   J1)) (
  J1)
noncomputable def oI {S:Type} (k:Nat) (ret:Bool→Option S) (line t:Tm) (sys:List (Br Tm)) (phi:List Cl) (vars many:Int):Nat→Option S
 |0=> .none
 |_+1=>qF k ret line t sys phi vars many (md k ret line t phi vars many k)
def zh {S:Type} (k:Nat) (ret:Bool→Option S) (J0:Option S) (line t:Tm) (sys:List (Br Tm)) (phi:List Cl) (vars many:Int):Option S:=
 aa k (rT k) fun r1=>
 ab (!r1) (
 ret false) (
 aa k (n9 k (ac line) (ac t) sys) fun r2=>
 ab (r2) (
  ret true) (
  ab (decide ((many:Int)<0)) (
  ret true) (
  ab (decide ((many:Int)>12)) (
   ret true) (
   ab (decide ((vars:Int)<0)) (
   ret true) (
   ab (decide ((vars:Int)>1000)) (
    ret true) (
    ab (decide (((phi.length:Int):Int)>24)) (
    ret true) (
    aa k (d8 k (ac line) vars (IntKind.wrap .i64 (many+1))) fun r3=>
    ab (!(r3==0)) (
     ret true) (
     aa k (d8 k (ac t) vars many) fun r4=>
     ab (!(r4==0)) (
     ret true) (
     aa k (n_ k sys) fun r5=>
     aa k (d8 k (Tm.mk r5.1 r5.2.1 r5.2.2.1 [] r5.2.2.2.1 r5.2.2.2.2) vars many) fun r6=>
     ab (!(r6==0)) (
      ret true) (
      aa k (j6 k phi) fun r7=>
      Option.bind (cq (0≤(IntKind.wrap .u64 many))) fun x8=>
      ab (!((Int.fdiv r7 (2^min (Int.toNat (IntKind.wrap .u64 many)) 32))==0)) (
      ret true) (
      aa k (rl k (ac line) (ac t) sys) fun r9=>
      ab (r9.2==0) (
       aa k (d8 k (ac r9.1) vars many) fun r10=>
       ab (!(r10==0)) (
       aa k (gX k (ac line) (ac t) sys) fun r11=>
       ab (!r11) (
        ret false) (
               J0)) (
              J0)) (
             J0))))))))))))
noncomputable def vK {S:Type} (k:Nat) (line t:Tm) (sys:List (Br Tm)) (phi:List Cl) (vars many:Int) (ret:Bool→Option S):Option S:=zh k ret (oI k ret line t sys phi vars many k) line t sys phi vars many
end
end Go.Proofs.YtapmagaejigpnaaGreatDoor
namespace Go.Proofs.YtapmagaejigpnaaGreatDoor
open Go PI
set_option linter.unusedVariables false
set_option linter.unusedSimpArgs false
abbrev M24:Nat:=16777215
theorem tu {n:Nat} (h:n<24):2^n<4294967296:=Nat.lt_of_lt_of_le (Nat.pow_lt_pow_right (by decide) h) (by decide)
theorem li (n:Nat):(2:Int)^n=((2^n:Nat):Int):=by simp
theorem wd (m n:Nat):Int.fdiv (m:Int) ((2:Int)^n)=((m/2^n:Nat):Int):=by
 rw [li,Int.fdiv_eq_ediv_of_nonneg _ (Int.natCast_nonneg _),Int.natCast_ediv]
variable {S:Type} {k:Nat}
theorem uf (hk:Fu k) (i:Int) (ret:Bool→Option S):j8 k i ret=ret (decide (0≤i∧i<24)):=by
 simp only [j8,Hl,b9]
 by_cases h:i≥0
 ·rw [if_pos h];congr 1;simp;omega
 ·rw [if_neg h];congr 1;simp;omega
theorem T5 (hk:Fu k) {m:Nat} (hm:m<4294967296) (ret:Bool→Option S):ly k (m:Int) ret=ret (decide (m<16777216)):=by
 simp only [ly,Hh]
 rw [show (16777215:Int)=((16777215:Nat):Int) from rfl,vc hm (by decide)]
 congr 1
 rw [Bool.eq_iff_iff]
 simp only [beq_iff_eq,decide_eq_true_eq]
 have key:il m 16777215=0↔m<16777216:=by
  constructor
  ·intro h
   apply Nat.lt_pow_two_of_testBit (n:=24)
   intro i hi
   have h2:=mB m 16777215 i
   rw [h,Nat.zero_testBit] at h2
   have:(16777215:Nat).testBit i=false:=Nat.testBit_lt_two_pow (Nat.lt_of_lt_of_le (by decide:16777215<2^24) (Nat.pow_le_pow_right (by decide) hi))
   rw [this] at h2
   simpa using h2.symm
  ·intro h
   apply Nat.eq_of_testBit_eq
   intro i
   rw [mB,Nat.zero_testBit]
   by_cases hi:i<24
   ·have:(16777215:Nat).testBit i=true:=by
     rw [show (16777215:Nat)=2^24-1 from rfl,Nat.testBit_two_pow_sub_one];simpa using hi
    rw [this];simp
   ·have h2:(2:Nat)^24≤2^i:=Nat.pow_le_pow_right (by decide) (by omega)
    have:m.testBit i=false:=Nat.testBit_lt_two_pow (Nat.lt_of_lt_of_le h h2)
    rw [this];rfl
 omega
theorem T3 (hk:Fu k) {m:Nat} (hm:m<4294967296) (i:Int) (ret:Bool→Option S):fK k (m:Int) i ret=ret (decide (0≤i∧i<24)&&m.testBit i.toNat):=by
 simp only [fK,Hg,uf hk,aj hk]
 by_cases h:0≤i∧i<24
 ·obtain ⟨n,rfl⟩: ∃n:Nat,i=n:=⟨i.toNat,by omega⟩
  have hn:n<24:=by omega
  rw [decide_eq_true h,ag,Bool.true_and,eX n (by omega),gf _ (by omega)]
  congr 1
  rw [Int.toNat_natCast,Nat.min_eq_left (by omega),wd,show (1:Int)=((1:Nat):Int) from rfl,iL (Nat.lt_of_le_of_lt (Nat.div_le_self _ _) hm) (by decide)]
  rw [Nat.testBit_eq_decide_div_mod_eq,Nat.and_one_is_mod,Bool.eq_iff_iff]
  simp only [beq_iff_eq,decide_eq_true_eq]
  omega
 ·rw [decide_eq_false h,ad,Bool.false_and]
theorem T6 (hk:Fu k) {m:Nat} (hm:m<4294967296) (i:Int) (ret:Int→Option S):gr k (m:Int) i ret=ret (if 0≤i∧i<24 then (((m&&&M24)|||2^i.toNat:Nat):Int) else ((m&&&M24:Nat):Int)):=by
 simp only [gr,Hi,uf hk,aj hk]
 have hand:aV .and .u32 (m:Int) 16777215=((m&&&M24:Nat):Int):=iL hm (by decide:(16777215:Nat)<4294967296)
 have hlt:m&&&M24<4294967296:=p_ (n:=32) hm
 rw [hand]
 by_cases h:0≤i∧i<24
 ·obtain ⟨n,rfl⟩: ∃n:Nat,i=n:=⟨i.toNat,by omega⟩
  have hn:n<24:=by omega
  rw [decide_eq_true h,if_pos h,eX n (by omega)]
  simp only [Bool.not_true,ad]
  rw [gf _ (by omega),Int.toNat_natCast,Nat.min_eq_left (by omega),Int.one_mul,li,jM _ (tu hn),qc hlt (tu hn)]
 ·rw [decide_eq_false h,if_neg h];rfl
theorem T7 (hk:Fu k) {m:Nat} (hm:m<4294967296) (i:Int) (ret:Int→Option S):gY k (m:Int) i ret=ret (if 0≤i∧i<24 then ((il (m&&&M24) (2^i.toNat):Nat):Int) else ((m&&&M24:Nat):Int)):=by
 simp only [gY,Hj,uf hk,aj hk]
 have hand:aV .and .u32 (m:Int) 16777215=((m&&&M24:Nat):Int):=iL hm (by decide:(16777215:Nat)<4294967296)
 have hlt:m&&&M24<4294967296:=p_ (n:=32) hm
 rw [hand]
 by_cases h:0≤i∧i<24
 ·obtain ⟨n,rfl⟩: ∃n:Nat,i=n:=⟨i.toNat,by omega⟩
  have hn:n<24:=by omega
  rw [decide_eq_true h,if_pos h,eX n (by omega)]
  simp only [Bool.not_true,ad]
  rw [gf _ (by omega),Int.toNat_natCast,Nat.min_eq_left (by omega),Int.one_mul,li,jM _ (tu hn),vc hlt (tu hn)]
 ·rw [decide_eq_false h,if_neg h];rfl
theorem Gf (hk:Fu k) (n:Nat) (hn:n<18446744073709551616) (ret:Int→Option S):lz k (n:Int) ret=ret ((2^min n 24-1:Nat):Int):=by
 simp only [lz,Hk]
 have e:(if (24:Int)<(n:Int) then (24:Int) else (n:Int))=((min n 24:Nat):Int):=by
  by_cases h:24<n
  ·rw [if_pos (by omega),Nat.min_eq_right (by omega)];rfl
  ·rw [if_neg (by omega),Nat.min_eq_left (by omega)]
 rw [e,eX _ (by omega),gf _ (by omega),Int.toNat_natCast]
 congr 1
 generalize hq:min n 24=q
 have hq24:q≤24:=by omega
 rw [Nat.min_eq_left (by omega),Int.one_mul,li]
 have h1:2^q≤2^24:=Nat.pow_le_pow_right (by decide) hq24
 have h0:0<2^q:=Nat.pos_of_ne_zero (by simp)
 have h24:(2:Nat)^24=16777216:=by decide
 rw [eX _ (by omega)]
 have e2:((2^q:Nat):Int)-1=((2^q-1:Nat):Int):=by omega
 rw [e2,eX _ (by omega),jM _ (by omega)]
def eK (m n:Nat):Nat:=(m&&&M24)&&&(2^min n 24-1)
def ct (m n:Nat):Nat:=il (m&&&M24) (2^min n 24-1)
def dX (m n b:Nat):Nat×Nat:=
 if ct m n=0 then (eK m n,0) else if 24≤b then (0,10) else if ct m n*2^b>16777215 then (0,10) else (eK m n|||(ct m n*2^b),0)
theorem T4 (hk:Fu k) {m:Nat} (hm:m<4294967296) (n b:Nat) (hn:n<9223372036854775808) (hb:b<9223372036854775808) (ret:Int×Int→Option S):
  iZ k (m:Int) (n:Int) (b:Int) ret=ret (((dX m n b).1:Int),((dX m n b).2:Int)):=by
 have hand:aV .and .u32 (m:Int) 16777215=((m&&&M24:Nat):Int):=iL hm (by decide:(16777215:Nat)<4294967296)
 have hlt:m&&&M24<16777216:=Nat.lt_of_le_of_lt Nat.and_le_right (by decide)
 have hbl:2^min n 24-1<4294967296:=by
  have:2^min n 24≤2^24:=Nat.pow_le_pow_right (by decide) (by omega)
  have h24:(2:Nat)^24=16777216:=by decide
  omega
 have hhi:ct m n<16777216:=xd (n:=24) hlt
 have hlow:aV .and .u32 ((m&&&M24:Nat):Int) ((2^min n 24-1:Nat):Int)=((eK m n:Nat):Int):=iL (by omega) hbl
 have hhigh:aV .andNot .u32 ((m&&&M24:Nat):Int) ((2^min n 24-1:Nat):Int)=((ct m n:Nat):Int):=vc (by omega) hbl
 simp only [iZ,uj]
 rw [b9,b9,if_neg (by omega),if_neg (by omega)]
 simp only [Gf hk n (by omega),aj hk,hand,hlow,hhigh]
 rw [eX _ (by omega)]
 unfold dX
 by_cases h0:ct m n=0
 ·rw [if_pos h0]
  simp [h0,ag]
 ·rw [if_neg h0]
  have hb0:(((ct m n:Nat):Int)==0)=false:=by
   rw [Bool.eq_false_iff];intro h;exact h0 (by have:=eq_of_beq h;omega)
  simp only [hb0,ad,b9]
  by_cases h24:24≤b
  ·rw [if_pos (by omega),if_pos h24];rfl
  ·rw [if_neg (by omega),if_neg h24,eX b (by omega),gf _ (by omega),Int.toNat_natCast,Nat.min_eq_left (by omega),li]
   have hp:2^b≤2^23:=Nat.pow_le_pow_right (by decide) (by omega)
   have h23:(2:Nat)^23=8388608:=by decide
   have hmul:ct m n*2^b<18446744073709551616:=by
    have:=Nat.mul_le_mul (Nat.le_of_lt hhi) hp
    omega
   have ec:((ct m n:Nat):Int)*((2^b:Nat):Int)=((ct m n*2^b:Nat):Int):=by simp
   rw [ec,eX _ hmul]
   by_cases hg:ct m n*2^b>16777215
   ·rw [if_pos (by omega),if_pos hg];rfl
   ·rw [if_neg (by omega),if_neg hg]
    rw [jM _ (by omega),gf _ (by omega),qc (by have:eK m n≤m&&&M24:=Nat.and_le_left;omega) (by omega)]
    rfl
end Go.Proofs.YtapmagaejigpnaaGreatDoor
namespace Go.Proofs.YtapmagaejigpnaaGreatDoor
open Go PI
set_option linter.unusedVariables false
set_option linter.unusedSimpArgs false
set_option maxRecDepth 20000
variable {S:Type} {k:Nat}
def iy (l:List Nat):Nat:=(l.map (2^ ·)).sum
theorem Lb {x a:Nat} (h:x.testBit a=false):x+2^a=x|||2^a:=by
 have h1:x=2^(a+1)*(x/2^(a+1))+x%2^(a+1):=(Nat.div_add_mod _ _).symm
 have hlt:x%2^(a+1)<2^a:=by
  have hb:(x%2^(a+1)).testBit a=false:=by rw [Nat.testBit_mod_two_pow,h];simp
  have hm:x%2^(a+1)<2^(a+1):=Nat.mod_lt _ (Nat.two_pow_pos _)
  apply Nat.lt_pow_two_of_testBit
  intro i hi
  by_cases hia:i=a
  ·rw [hia];exact hb
  ·exact Nat.testBit_lt_two_pow (Nat.lt_of_lt_of_le hm (Nat.pow_le_pow_right (by decide) (by omega)))
 generalize x/2^(a+1)=q at h1
 generalize x%2^(a+1)=r at h1 hlt
 have hp:(2:Nat)^(a+1)=2^a*2:=Nat.pow_succ 2 a
 have e1:2^a+r=2^a|||r:=by
  have:=Nat.two_pow_add_eq_or_of_lt hlt 1
  simpa using this
 have e2:x=2^(a+1)*q|||r:=by rw [h1];exact Nat.two_pow_add_eq_or_of_lt (by omega) q
 have e3:x+2^a=2^(a+1)*q|||(2^a+r):=by
  rw [←Nat.two_pow_add_eq_or_of_lt (by omega:2^a+r<2^(a+1)) q,h1];omega
 rw [e3,e1,e2,Nat.or_comm (2^a) r,←Nat.or_assoc]
theorem yA: ∀ (l:List Nat),l.Nodup→ ∀j,(iy l).testBit j=decide (j∈l):=by
 intro l
 induction l with
 |nil=>intro _ j;simp [iy]
 |cons a l ih=>
  intro hn j
  have hn':=List.nodup_cons.1 hn
  have ha:(iy l).testBit a=false:=by rw [ih hn'.2];simpa using hn'.1
  have e:iy (a::l)=iy l|||2^a:=by
   rw [←Lb ha];simp [iy];omega
  rw [e,Nat.testBit_or,ih hn'.2,Nat.testBit_two_pow]
  by_cases h:a=j
  ·subst h;simp
  ·have:j≠a:=Ne.symm h
   simp [h,this]
def dA (m:Nat):List Nat:=(List.range 24).filter m.testBit
theorem vj (m:Nat):(dA m).Nodup:=List.nodup_range.filter _
theorem mem_bitsN {m j:Nat}:j∈dA m↔j<24∧m.testBit j=true:=by simp [dA]
theorem LF (m:Nat):(dA m).length≤24:=by
 have:=List.length_filter_le m.testBit (List.range 24)
 simpa [dA] using this
theorem iN (j:Nat):M24.testBit j=decide (j<24):=by
 rw [show M24=2^24-1 from rfl,Nat.testBit_two_pow_sub_one]
def ints (l:List Nat):List Int:=l.map Int.ofNat
theorem Oy (l:List Nat):(ints l).length=l.length:=by simp [ints]
end Go.Proofs.YtapmagaejigpnaaGreatDoor
namespace Go.Proofs.YtapmagaejigpnaaGreatDoor
open Go PI
set_option linter.unusedVariables false
set_option linter.unusedSimpArgs false
set_option maxRecDepth 20000
variable {S:Type} {k:Nat}
theorem N_ {α:Type} (p r:List α) (x:α):av (p++x::r) (p.length:Int)=some x:=by simp [av]
theorem iP {m:Nat} (h:m<16777216) {j:Nat} (hj:m.testBit j=true):j<24:=by
 apply Classical.byContradiction
 intro hn
 have:m<2^j:=Nat.lt_of_lt_of_le h (Nat.pow_le_pow_right (n:=2) (i:=24) (j:=j) (by decide) (by omega))
 rw [Nat.testBit_lt_two_pow this] at hj;cases hj
theorem Cb (m:Nat):m<16777216↔ ∀j,m.testBit j=true→j<24:=by
 constructor
 ·intro h j hj;exact iP h hj
 ·intro h
  apply Nat.lt_pow_two_of_testBit (n:=24)
  intro i hi
  cases hb:m.testBit i with
  |false=>rfl
  |true=>have:=h i hb;omega
def cx (n b x:Nat):Nat:=if x<n then x else x+b
theorem Ad (n j:Nat):(2^min n 24-1).testBit j=decide (j<n∧j<24):=by
 rw [Nat.testBit_two_pow_sub_one,Bool.eq_iff_iff];simp;omega
theorem vi (m n j:Nat):(eK m n).testBit j=(m.testBit j&&decide (j<n∧j<24)):=by
 rw [eK,Nat.testBit_and,Nat.testBit_and,iN,Ad,Bool.eq_iff_iff]
 simp only [Bool.and_eq_true,decide_eq_true_eq]
 constructor
 ·rintro ⟨⟨a,b⟩,c,d⟩;exact ⟨a,c,d⟩
 ·rintro ⟨a,c,d⟩;exact ⟨⟨a,d⟩,c,d⟩
theorem Ae (m n j:Nat):(ct m n).testBit j=(m.testBit j&&decide (n≤j∧j<24)):=by
 rw [ct,mB,Nat.testBit_and,iN,Ad,Bool.eq_iff_iff]
 simp only [Bool.and_eq_true,Bool.not_eq_true',decide_eq_true_eq,decide_eq_false_iff_not]
 constructor
 ·rintro ⟨⟨a,b⟩,c⟩;exact ⟨a,by omega,b⟩
 ·rintro ⟨a,b,c⟩;exact ⟨⟨a,c⟩,by omega⟩
theorem B0 (m n b:Nat):dX m n b=if (∃x∈dA m,n≤x∧24≤x+b) then (0,10) else (iy ((dA m).map (cx n b)),0):=by
 have hnd:((dA m).map (cx n b)).Nodup:=by
  have: ∀x y,cx n b x=cx n b y→x=y:=by
   intro x y h;unfold cx at h;split at h<;>split at h<;>omega
  exact List.Pairwise.map (S:=fun a b=>a≠b) (R:=fun a b=>a≠b) _ (fun x y hxy h=>hxy (this x y h)) (vj m)
 have hset: ∀j,(iy ((dA m).map (cx n b))).testBit j=((eK m n).testBit j||(decide (b≤j)&&(ct m n).testBit (j-b))):=by
  intro j
  rw [yA _ hnd,vi,Ae,Bool.eq_iff_iff]
  simp only [decide_eq_true_eq,List.mem_map,mem_bitsN,Bool.or_eq_true,Bool.and_eq_true]
  constructor
  ·rintro ⟨x,⟨h1,h2⟩,rfl⟩
   unfold cx
   split
   ·exact .inl ⟨h2,by omega,h1⟩
   ·refine .inr ⟨by omega, ?_,by omega,by omega⟩
    rw [show x+b-b=x by omega];exact h2
  ·rintro (⟨h1,h2,h3⟩|⟨h1,h2,h3,h4⟩)
   ·exact ⟨j,⟨h3,h1⟩,by unfold cx;rw [if_pos h2]⟩
   ·exact ⟨j-b,⟨h4,h2⟩,by unfold cx;rw [if_neg (by omega)];omega⟩
 have hhigh: ∀j,(ct m n).testBit j=true↔(j∈dA m∧n≤j):=by
  intro j
  rw [Ae,mem_bitsN];simp;constructor
  ·rintro ⟨a,b,c⟩;exact ⟨⟨c,a⟩,b⟩
  ·rintro ⟨⟨a,b⟩,c⟩;exact ⟨b,c,a⟩
 unfold dX
 by_cases h0:ct m n=0
 ·rw [if_pos h0,if_neg]
  ·congr 1
   apply Nat.eq_of_testBit_eq
   intro j
   rw [hset,h0,Nat.zero_testBit,Bool.and_false,Bool.or_false]
  ·rintro ⟨x,h1,h2,h3⟩
   have:=(hhigh x).2 ⟨h1,h2⟩
   rw [h0,Nat.zero_testBit] at this;cases this
 ·rw [if_neg h0]
  have hex: ∃j,(ct m n).testBit j=true:=by
   apply Classical.byContradiction
   intro hne
   apply h0
   apply Nat.eq_of_testBit_eq
   intro j
   rw [Nat.zero_testBit]
   cases hb:(ct m n).testBit j with
   |false=>rfl
   |true=>exact absurd ⟨j,hb⟩ hne
  have hmul: ∀j,(ct m n*2^b).testBit j=(decide (b≤j)&&(ct m n).testBit (j-b)):=by
   intro j;rw [Nat.testBit_mul_two_pow]
  by_cases h24:24≤b
  ·rw [if_pos h24]
   obtain ⟨j,hj⟩:=hex
   have:=(hhigh j).1 hj
   rw [if_pos ⟨j,this.1,this.2,by omega⟩]
  ·rw [if_neg h24]
   have hlt:=Cb (ct m n*2^b)
   by_cases hg:ct m n*2^b>16777215
   ·rw [if_pos hg,if_pos]
    apply Classical.byContradiction
    intro hne
    have:ct m n*2^b<16777216:=hlt.2 fun j hj=>by
     rw [hmul] at hj
     simp only [Bool.and_eq_true,decide_eq_true_eq] at hj
     have h1:=(hhigh _).1 hj.2
     apply Classical.byContradiction
     intro h2
     exact hne ⟨j-b,h1.1,h1.2,by omega⟩
    omega
   ·rw [if_neg hg,if_neg]
    ·congr 1
     apply Nat.eq_of_testBit_eq
     intro j
     rw [hset,Nat.testBit_or,hmul]
    ·rintro ⟨x,h1,h2,h3⟩
     have hx:(ct m n*2^b).testBit (x+b)=true:=by
      rw [hmul,decide_eq_true (by omega),Bool.true_and,show x+b-b=x by omega]
      exact (hhigh x).2 ⟨h1,h2⟩
     have:=hlt.1 (by omega) _ hx
     omega
def jb (m:Nat) (i:Int):Nat:=if 0≤i∧i<24 then eK m i.toNat|||((m&&&M24)/2^(i.toNat+1)*2^i.toNat) else m&&&M24
theorem T2 (hk:Fu k) {m:Nat} (hm:m<4294967296) (i:Int) (ret:Int→Option S):lx k (m:Int) i ret=ret ((jb m i:Nat):Int):=by
 simp only [lx,Hf,uf hk,aj hk]
 have hand:aV .and .u32 (m:Int) 16777215=((m&&&M24:Nat):Int):=iL hm (by decide:(16777215:Nat)<4294967296)
 have hlt:m&&&M24<16777216:=Nat.lt_of_le_of_lt Nat.and_le_right (by decide)
 rw [hand]
 unfold jb
 by_cases h:0≤i∧i<24
 ·obtain ⟨n,rfl⟩: ∃n:Nat,i=n:=⟨i.toNat,by omega⟩
  have hn:n<24:=by omega
  rw [decide_eq_true h,if_pos h,Bool.not_true,ad,Gf hk n (by omega)]
  have e1:(n:Int)+1=((n+1:Nat):Int):=by simp
  rw [m_ (by omega) (by omega),e1,eX _ (by omega),eX _ (by omega),gf _ (by omega),gf _ (by omega)]
  rw [Int.toNat_natCast,Int.toNat_natCast,Nat.min_eq_left (show n+1≤32 by omega),Nat.min_eq_left (show n≤32 by omega),wd,li]
  have hb:2^min n 24-1<4294967296:=by
   have:2^min n 24≤2^24:=Nat.pow_le_pow_right (by decide) (by omega)
   have h24:(2:Nat)^24=16777216:=by decide
   omega
  have hq:(m&&&M24)/2^(n+1)*2^n≤m&&&M24:=by
   have h1:(m&&&M24)/2^(n+1)*2^(n+1)≤m&&&M24:=Nat.div_mul_le_self _ _
   have h2:2^n≤2^(n+1):=Nat.pow_le_pow_right (by decide) (by omega)
   exact Nat.le_trans (Nat.mul_le_mul_left _ h2) h1
  have ec:((((m&&&M24)/2^(n+1):Nat):Int))*((2^n:Nat):Int)=(((m&&&M24)/2^(n+1)*2^n:Nat):Int):=by simp
  rw [ec,jM _ (by omega),iL (by omega) hb]
  have hlow:eK m n<4294967296:=by have:eK m n≤m&&&M24:=Nat.and_le_left;omega
  show ret (aV .or .u32 ((eK m n:Nat):Int) _)=_
  rw [qc hlow (by omega)]
 ·rw [decide_eq_false h,if_neg h];rfl
end Go.Proofs.YtapmagaejigpnaaGreatDoor
namespace Go.Proofs.YtapmagaejigpnaaGreatDoor
open Go PI
set_option linter.unusedVariables false
set_option linter.unusedSimpArgs false
set_option maxRecDepth 20000
variable {S:Type} {k:Nat}
def aA (n:Int):Prop:= -9223372036854775808≤n∧n<9223372036854775808
def kR (s:Int):Bool:=decide (s<16777216)
def dw (s i:Int):Bool:=decide (0≤i∧i<24)&&s.toNat.testBit i.toNat
def dZ (s i:Int):Int:=if 0≤i∧i<24 then (((s.toNat&&&M24)|||2^i.toNat:Nat):Int) else ((s.toNat&&&M24:Nat):Int)
def dy (s i:Int):Int:=if 0≤i∧i<24 then ((il (s.toNat&&&M24) (2^i.toNat):Nat):Int) else ((s.toNat&&&M24:Nat):Int)
def fh (s:Int):List Int:=ints (dA s.toNat)
def ce (s i b:Int):Int×Int:=if i<0∨b<0 then (0,2) else (((dX s.toNat i.toNat b.toNat).1:Int),((dX s.toNat i.toNat b.toNat).2:Int))
def jc (s i:Int):Int:=((jb s.toNat i:Nat):Int)
theorem SM (m:Nat):kR (m:Int)=decide (m<16777216):=by
 unfold kR;rw [Bool.eq_iff_iff,decide_eq_true_iff,decide_eq_true_iff];omega
theorem FD (hk:Fu k) {s:Int} (h:U32 s) (ret:Bool→Option S):ly k s ret=ret (kR s):=by
 obtain ⟨m,hm,rfl⟩:=h.nat
 rw [T5 hk hm,SM]
theorem mZ (hk:Fu k) {s:Int} (h:U32 s) (i:Int) (ret:Bool→Option S):fK k s i ret=ret (dw s i):=by
 obtain ⟨m,hm,rfl⟩:=h.nat
 rw [T3 hk hm];rfl
theorem pF (hk:Fu k) {s:Int} (h:U32 s) (i:Int) (ret:Int→Option S):gr k s i ret=ret (dZ s i):=by
 obtain ⟨m,hm,rfl⟩:=h.nat
 rw [T6 hk hm];rfl
theorem pG (hk:Fu k) {s:Int} (h:U32 s) (i:Int) (ret:Int→Option S):gY k s i ret=ret (dy s i):=by
 obtain ⟨m,hm,rfl⟩:=h.nat
 rw [T7 hk hm];rfl
theorem C3 {s:Int} (h:U32 s):mz s=fh s:=by
 obtain ⟨m,hm,rfl⟩:=h.nat
 have: ∀i:Nat,(BitVec.ofInt 32 (m:Int)).getLsbD i=m.testBit i:=by
  intro i;rw [BitVec.getLsbD,jY hm]
 unfold mz fh ints dA
 simp only [this];rfl
theorem FB (hk:Fu k) {s i b:Int} (h:U32 s) (hi:aA i) (hb:aA b) (ret:Int×Int→Option S):iZ k s i b ret=ret (ce s i b):=by
 obtain ⟨m,hm,rfl⟩:=h.nat
 by_cases h1:i<0
 ·simp only [iZ,uj,b9,ce];rw [if_pos h1,if_pos (.inl h1)]
 by_cases h2:b<0
 ·simp only [iZ,uj,b9,ce];rw [if_neg h1,if_pos h2,if_pos (.inr h2)]
 obtain ⟨n,rfl⟩: ∃n:Nat,i=n:=⟨i.toNat,by omega⟩
 obtain ⟨c,rfl⟩: ∃n:Nat,b=n:=⟨b.toNat,by omega⟩
 have:=hi.2;have:=hb.2
 rw [T4 hk hm n c (by omega) (by omega),ce,if_neg (by omega)];rfl
theorem FA (hk:Fu k) {s:Int} (h:U32 s) (i:Int) (ret:Int→Option S):lx k s i ret=ret (jc s i):=by
 obtain ⟨m,hm,rfl⟩:=h.nat
 rw [T2 hk hm];rfl
theorem vq (hk:Fu k) (ret:Int→Option S):iY k 0 ret=ret 0:=by
 simp only [iY,zn,aj hk];rfl
theorem vr (hk:Fu k) (ret:Int→Option S): ∀n:Nat,n<24→iY k ((2^n:Nat):Int) ret=ret 1:=by
 simp only [iY,zn,aj hk]
 intro n hn
 match n,hn with
 |0,_|1,_|2,_|3,_|4,_|5,_|6,_|7,_|8,_|9,_|10,_|11,_|12,_|13,_|14,_|15,_|16,_|17,_|18,_|19,_|20,_|21,_|22,_|23,_=>rfl
 |n+24,h=>omega
theorem ur (i:Int):dZ 0 i=if 0≤i∧i<24 then ((2^i.toNat:Nat):Int) else 0:=by
 unfold dZ
 split
 ·simp
 ·rfl
theorem Td (hk:Fu k) (i:Int) (ret:Bool→Option S):rA k i ret=ret (decide (0≤i∧i<24)):=by
 simp only [rA,GE,aj hk,pF hk (s:=0) ⟨by omega,by omega⟩,ur]
 split
 ·next h=>rw [vr hk _ _ (by omega),decide_eq_true h];rfl
 ·next h=>rw [vq hk,decide_eq_false h];rfl
theorem Te (hk:Fu k) (i:Int) (ret:Bool→Option S):rH k i ret=ret (decide (0≤i∧i<24)):=by
 simp only [rH,GT,aj hk,pF hk (s:=0) ⟨by omega,by omega⟩,ur]
 split
 ·next h=>rw [vr hk _ _ (by omega),decide_eq_true h];rfl
 ·next h=>rw [vq hk,decide_eq_false h];rfl
theorem U32.of {n:Nat} (h:n<4294967296):U32 (n:Int):=⟨by omega,by omega⟩
theorem HY {s i:Int}:0≤dZ s i∧dZ s i<16777216:=by
 have h1:s.toNat&&&M24<16777216:=Nat.lt_of_le_of_lt Nat.and_le_right (by decide)
 unfold dZ
 split
 ·next h=>
  have hp:2^i.toNat<2^24:=Nat.pow_lt_pow_right (by decide) (by omega)
  have:=Nat.or_lt_two_pow (n:=24) h1 hp
  have h24:(2:Nat)^24=16777216:=by decide
  omega
 ·omega
theorem H0 {s i:Int}:0≤dy s i∧dy s i<16777216:=by
 have h1:s.toNat&&&M24<16777216:=Nat.lt_of_le_of_lt Nat.and_le_right (by decide)
 unfold dy
 split
 ·have:=xd (n:=24) (b:=2^i.toNat) h1
  have h24:(2:Nat)^24=16777216:=by decide
  omega
 ·omega
theorem Ma (m:Nat) (i:Int):jb m i<16777216:=by
 have h1:m&&&M24<16777216:=Nat.lt_of_le_of_lt Nat.and_le_right (by decide)
 unfold jb
 split
 ·rw [Cb]
  intro j hj
  rw [Nat.testBit_or,vi,Nat.testBit_mul_two_pow,Nat.testBit_div_two_pow,Nat.testBit_and,iN] at hj
  simp only [Bool.or_eq_true,Bool.and_eq_true,decide_eq_true_eq] at hj
  omega
 ·exact h1
deriving instance DecidableEq for Cl
theorem Cl.ext' {a b:Cl} (h1:a.pos=b.pos) (h2:a.neg=b.neg):a=b:=by cases a;cases b;cases h1;cases h2;rfl
theorem qY (a b:Cl):((a.pos==b.pos)&&((a.neg==b.neg)&&true))=decide (a=b):=by
 rw [Bool.eq_iff_iff]
 simp only [Bool.and_true,Bool.and_eq_true,beq_iff_eq,decide_eq_true_eq]
 exact ⟨fun h=>Cl.ext' h.1 h.2,fun h=>h▸⟨rfl,rfl⟩⟩
def a_ (c:Cl):Prop:=U32 c.pos∧U32 c.neg
def al (f:List Cl):Prop:= ∀c∈f,a_ c
def er (c:Cl):Bool:=kR c.pos&&kR c.neg
def RC (c:Cl):Prop:=(0≤c.pos∧c.pos<16777216)∧(0≤c.neg∧c.neg<16777216)
theorem RC.ok {c:Cl} (h:RC c):a_ c:=⟨⟨h.1.1,by have:=h.1.2;omega⟩,⟨h.2.1,by have:=h.2.2;omega⟩⟩
theorem x_ {c:Cl} (h:a_ c):er c=true↔RC c:=by
 unfold er kR RC
 simp only [Bool.and_eq_true,decide_eq_true_eq]
 have h1:=h.1.1;have h2:=h.2.1
 constructor
 ·rintro ⟨a,b⟩;exact ⟨⟨h1,a⟩,h2,b⟩
 ·rintro ⟨a,b⟩;exact ⟨a.2,b.2⟩
def fi (a b:Int):Int:=((a.toNat|||b.toNat:Nat):Int)
theorem tl {a b:Int} (ha:U32 a) (hb:U32 b):aV .or .u32 a b=fi a b:=by
 obtain ⟨m,hm,rfl⟩:=ha.nat;obtain ⟨n,hn,rfl⟩:=hb.nat
 rw [qc hm hn];rfl
def di (a b:Cl):Cl:=⟨fi a.pos b.pos,fi a.neg b.neg⟩
def cY (a b:Cl):Bool:=decide (di a b=a)
def b_ (c:Cl):Bool:= !decide (c.pos.toNat&&&c.neg.toNat=0)
theorem xm {a b:Int} (ha:U32 a) (hb:U32 b):U32 (fi a b):=by
 obtain ⟨m,hm,rfl⟩:=ha.nat;obtain ⟨n,hn,rfl⟩:=hb.nat
 exact U32.of (Nat.or_lt_two_pow (n:=32) hm hn)
theorem te {a b:Cl} (ha:a_ a) (hb:a_ b):a_ (di a b):=⟨xm ha.1 hb.1,xm ha.2 hb.2⟩
theorem FJ (hk:Fu k) {c:Cl} (h:a_ c) (ret:Bool→Option S):nV k c ret=ret (er c):=by
 simp only [nV,GC,aj hk,FD hk h.1,FD hk h.2,er,ew]
 cases kR c.pos<;>rfl
theorem yp (hk:Fu k) {a b:Cl} (ha:a_ a) (hb:a_ b) (ret:Cl→Option S):lq k a b ret=ret (di a b):=by
 simp only [lq,GB,tl ha.1 hb.1,tl ha.2 hb.2];rfl
theorem S_ (hk:Fu k) {a b:Cl} (ha:a_ a) (hb:a_ b) (ret:Bool→Option S):rt k a b ret=ret (cY a b):=by
 simp only [rt,Gw,aj hk,yp hk ha hb,qY];rfl
theorem FI (hk:Fu k) {c:Cl} (h:a_ c) (ret:Bool→Option S):nU k c ret=ret (b_ c):=by
 obtain ⟨p,n⟩:=c
 obtain ⟨m,hm,rfl⟩:=h.1.nat;obtain ⟨n,hn,rfl⟩:=h.2.nat
 simp only [nU,Gx,iL hm hn,b_,Int.toNat_natCast]
 congr 2
 rw [Bool.eq_iff_iff];simp only [beq_iff_eq,decide_eq_true_eq];omega
open Classical in
theorem HX (s:Int) (x:Nat) (hx:x<24) (j:Nat):(dZ s (x:Int)).toNat.testBit j=((s.toNat.testBit j&&decide (j<24))||decide (j=x)):=by
 unfold dZ
 rw [if_pos (by omega),Int.toNat_natCast,Int.toNat_natCast,Nat.testBit_or,Nat.testBit_and,iN,Nat.testBit_two_pow,Bool.eq_iff_iff]
 simp only [Bool.or_eq_true,Bool.and_eq_true,decide_eq_true_eq]
 constructor<;>(rintro (h|h);exact .inl h;exact .inr h.symm)
def cH (c:Cl) (i b:Int):Cl×Int:=
 if er c then
  if (ce c.pos i b).2=0 then if (ce c.neg i b).2=0 then (⟨(ce c.pos i b).1,(ce c.neg i b).1⟩,0) else (⟨0,0⟩,(ce c.neg i b).2)
  else (⟨0,0⟩,(ce c.pos i b).2)
 else (⟨0,0⟩,2)
theorem Ta (hk:Fu k) {c:Cl} {i b:Int} (h:a_ c) (hi:aA i) (hb:aA b) (ret:Cl×Int→Option S):rz k c i b ret=ret (cH c i b):=by
 simp only [rz,GA,aj hk,FJ hk h,FB hk h.1 hi hb,FB hk h.2 hi hb,ew,cH,Bool.not_eq_true',beq_eq_false_iff_ne]
 cases er c<;>simp only [reduceIte,Bool.false_eq_true,Bool.true_eq_false]
 by_cases h1:(ce c.pos i b).2=0
 ·by_cases h2:(ce c.neg i b).2=0<;>simp [h1,h2]
 ·simp [h1]
end Go.Proofs.YtapmagaejigpnaaGreatDoor
namespace Go.Proofs.YtapmagaejigpnaaGreatDoor
open Go PI
set_option linter.unusedVariables false
set_option linter.unusedSimpArgs false
set_option maxRecDepth 20000
variable {S:Type} {k:Nat}
def eL (a b:Cl):Prop:=a.pos<b.pos∨(a.pos=b.pos∧a.neg<b.neg)
def wM (a b:Cl):Bool:=decide (a.pos<b.pos)||(a.pos==b.pos&&decide (a.neg<b.neg))
theorem lessB_iff {a b:Cl}:wM a b=true↔eL a b:=by unfold wM eL;simp
theorem Cc {a b c:Cl} (h:eL a b) (h':eL b c):eL a c:=by unfold eL at*;omega
theorem wV {a:Cl} (h:eL a a):False:=by unfold eL at h;omega
theorem QN (a b:Cl):eL a b∨a=b∨eL b a:=by
 by_cases h:a=b
 ·exact .inr (.inl h)
 ·have: ¬(a.pos=b.pos∧a.neg=b.neg):=fun h'=>h (Cl.ext' h'.1 h'.2)
  unfold eL;omega
abbrev iH (l:List Cl):Prop:=l.Pairwise eL
theorem yD: ∀ {a b:List Cl},iH a→iH b→(∀c,c∈a↔c∈b)→a=b:=by
 intro a
 induction a with
 |nil=>
  intro b _ _ h
  cases b with
  |nil=>rfl
  |cons y b=>exact absurd ((h y).2 (by simp)) (by simp)
 |cons x a ih=>
  intro b ha hb h
  cases b with
  |nil=>exact absurd ((h x).1 (by simp)) (by simp)
  |cons y b=>
   have ha':=List.pairwise_cons.1 ha;have hb':=List.pairwise_cons.1 hb
   have hxy:x=y:=by
    rcases List.mem_cons.1 ((h x).1 (by simp)) with h1|h1
    ·exact h1
    ·rcases List.mem_cons.1 ((h y).2 (by simp)) with h2|h2
     ·exact h2.symm
     ·exact absurd (Cc (ha'.1 y h2) (hb'.1 x h1)) wV
   subst hxy
   congr 1
   refine ih ha'.2 hb'.2 fun c=>⟨fun hc=> ?_,fun hc=> ?_⟩
   ·rcases List.mem_cons.1 ((h c).1 (by simp [hc])) with rfl|h1
    ·exact absurd (ha'.1 _ hc) wV
    ·exact h1
   ·rcases List.mem_cons.1 ((h c).2 (by simp [hc])) with rfl|h1
    ·exact absurd (hb'.1 _ hc) wV
    ·exact h1
def dW (x:Cl):List Cl→List Cl
 |[]=>[x]
 |y::r=>if wM y x then y::dW x r else if y=x then y::r else x::y::r
theorem mem_insC {x c:Cl}: ∀ {l:List Cl},c∈dW x l↔c=x∨c∈l:=by
 intro l
 induction l with
 |nil=>simp [dW]
 |cons y r ih=>
  unfold dW
  split
  ·rw [List.mem_cons,ih,List.mem_cons];exact ⟨fun h=>by rcases h with h|h|h<;>simp [h],fun h=>by rcases h with h|h|h<;>simp [h]⟩
  ·split
   ·next h=>subst h;rw [List.mem_cons];exact ⟨fun h=> .inr h,fun h=>by rcases h with h|h;exact .inl h;exact h⟩
   ·rw [List.mem_cons]
theorem Ov {x:Cl}: ∀ {l:List Cl},iH l→iH (dW x l):=by
 intro l
 induction l with
 |nil=>intro _;simp [dW]
 |cons y r ih=>
  intro h
  have h':=List.pairwise_cons.1 h
  unfold dW
  split
  ·next hl=>
   refine List.pairwise_cons.2 ⟨fun c hc=> ?_,ih h'.2⟩
   rcases mem_insC.1 hc with rfl|hc
   ·exact lessB_iff.1 hl
   ·exact h'.1 c hc
  ·next hl=>
   split
   ·exact h
   ·next hne=>
    have hxy:eL x y:=by
     rcases QN y x with h1|h1|h1
     ·exact absurd (lessB_iff.2 h1) hl
     ·exact absurd h1 hne
     ·exact h1
    refine List.pairwise_cons.2 ⟨fun c hc=> ?_,h⟩
    rcases List.mem_cons.1 hc with rfl|hc
    ·exact hxy
    ·exact Cc hxy (h'.1 c hc)
theorem Ou {x:Cl}: ∀ {l:List Cl},(dW x l).length≤l.length+1:=by
 intro l
 induction l with
 |nil=>simp [dW]
 |cons y r ih=>
  unfold dW
  split
  ·simp only [List.length_cons];omega
  ·split<;>simp
def b7 (l:List Cl) (c:Cl):Bool:=l.all fun d=>decide (d=c)|| !cY c d
def hY (o l:List Cl):List Cl:=l.foldl (fun o c=>dW c o) o
def dq (l:List Cl):List Cl:=hY [] (l.filter (b7 l))
theorem QS {c:Cl}: ∀ {l o:List Cl},c∈hY o l↔c∈l∨c∈o:=by
 intro l
 induction l with
 |nil=>intro o;simp [hY]
 |cons x l ih=>
  intro o
  show c∈hY (dW x o) l↔_
  rw [ih,mem_insC,List.mem_cons]
  constructor
  ·rintro (h|h|h)
   ·exact .inl (.inr h)
   ·exact .inl (.inl h)
   ·exact .inr h
  ·rintro ((h|h)|h)
   ·exact .inr (.inl h)
   ·exact .inl h
   ·exact .inr (.inr h)
theorem Ot: ∀ {l o:List Cl},iH o→iH (hY o l):=by
 intro l
 induction l with
 |nil=>intro o h;exact h
 |cons x l ih=>intro o h;exact ih (Ov h)
theorem Oq: ∀ {l o:List Cl},(hY o l).length≤o.length+l.length:=by
 intro l
 induction l with
 |nil=>intro o;simp [hY]
 |cons x l ih=>
  intro o
  have h1:(hY (dW x o) l).length≤(dW x o).length+l.length:=ih
  have h2:= @Ou x o
  show (hY (dW x o) l).length≤_
  rw [List.length_cons];omega
theorem tf (l:List Cl):iH (dq l):=Ot List.Pairwise.nil
theorem mem_mins {l:List Cl} {c:Cl}:c∈dq l↔c∈l∧b7 l c=true:=by
 rw [dq,QS,List.mem_filter];simp
theorem QV (l:List Cl):(dq l).length≤l.length:=by
 have h1:= @Oq (l.filter (b7 l)) []
 have h2:=List.length_filter_le (b7 l) l
 simp only [List.length_nil] at h1
 unfold dq;omega
theorem Q0 {l l':List Cl} (h: ∀c,c∈l↔c∈l') (c:Cl):b7 l c=b7 l' c:=by
 rw [Bool.eq_iff_iff];simp only [b7,List.all_eq_true]
 exact ⟨fun f d hd=>f d ((h d).2 hd),fun f d hd=>f d ((h d).1 hd)⟩
def bu (l:List Cl):List Cl×Int:=if l.all er then if (dq l).length>64 then ([],3) else (dq l,0) else ([],2)
theorem LR {S:Type} {p:Prop} [Decidable p] (h:p) (f:Unit→Option S):Option.bind (cq p) f=f ():=gf p h f
theorem S7 (hk:Fu k) {d c:Cl} (hd:a_ d) (hc:a_ c) (ret:Bool→Option S):ry k d c ret=ret (!(decide (d=c)|| !cY c d)):=by
 simp only [ry,Gz,qY,aj hk,S_ hk hc hd,ew]
 have:decide (c=d)=decide (d=c):=by rw [Bool.eq_iff_iff];simp [eq_comm]
 rw [this]
 cases decide (d=c)<;>cases cY c d<;>rfl
end Go.Proofs.YtapmagaejigpnaaGreatDoor
namespace Go.Proofs.YtapmagaejigpnaaGreatDoor
open Go PI
set_option linter.unusedVariables false
set_option linter.unusedSimpArgs false
set_option maxRecDepth 20000
variable {S:Type} {k:Nat}
theorem PS (hk:Fu k) (ret:Int→Option S) {c:Cl} (hc:a_ c) {l:List Cl} (hl:al l) (hlen:l.length<2147483648):
  ∀ (r p:List Cl) (m:Nat),l=p++r→r.length<m→ ∃v:Int,decide (v≥0)= !b7 r c∧mj k ret c l m (p.length:Int)=ret v:=by
 intro r
 induction r with
 |nil=>
  intro p m h hm
  obtain ⟨m,rfl,hm'⟩:=am hm
  exact ⟨-1,rfl,by simp only [mj,qP,aU h,ad]⟩
 |cons x r ih=>
  intro p m h hm
  obtain ⟨m,rfl,hm'⟩:=am hm
  obtain ⟨e1,e2,e3,e4⟩:=aS h (by omega)
  have hx:a_ x:=hl x (by rw [h];simp)
  obtain ⟨v,hv,hr⟩:=ih (p++[x]) m e4 hm'
  have e0:b7 (x::r) c=((decide (x=c)|| !cY c x)&&b7 r c):=by simp [b7]
  simp only [mj,qP,e1,ag,e2,Option.bind_some,aj hk,S7 hk hx hc,e3,hr]
  cases hb:(decide (x=c)|| !cY c x) with
  |true=>exact ⟨v,by rw [e0,hb,Bool.true_and,hv],by rw [Bool.not_true,ad]⟩
  |false=>exact ⟨(p.length:Int),by rw [e0,hb,Bool.false_and];simp,by rw [Bool.not_false,ag]⟩
theorem Tw (hk:Fu k) {c:Cl} (hc:a_ c) {l:List Cl} (hl:al l) (hlen:l.length<2147483648) (ret:Bool→Option S):rx k c l ret=ret (!b7 l c):=by
 obtain ⟨v,hv,hr⟩:=PS hk (fun r1:Int=>ret (decide (r1≥0))) hc hl hlen l [] k rfl (by have:4294967296≤k:=hk;omega)
 simp only [rx,Gy,aj hk,vP,Hn,vR,zq]
 exact hr.trans (by rw [hv])
theorem PX (hk:Fu k) (ret:List Cl×Int→Option S) {l:List Cl} (hl:al l) (hlen:l.length<2147483648):
  ∀ (r p:List Cl) (m:Nat) (q:List Cl),l=p++r→r.length<m→q.length≤p.length→
  kj k ret l m (p.length:Int) q=ret (if (q++r.filter (b7 l)).length>64 then ([],3) else (sortCl (q++r.filter (b7 l)),0)):=by
 intro r
 induction r with
 |nil=>
  intro p m q h hm hq
  obtain ⟨m,rfl,hm'⟩:=am hm
  simp only [kj,qf,aU h,ad,b9,List.filter_nil,List.append_nil]
  by_cases h64:q.length>64
  ·rw [if_pos (by omega),if_pos h64]
  ·rw [if_neg (by omega),if_neg h64]
 |cons x r ih=>
  intro p m q h hm hq
  obtain ⟨m,rfl,hm'⟩:=am hm
  obtain ⟨e1,e2,e3,e4⟩:=aS h (by omega)
  have hx:a_ x:=hl x (by rw [h];simp)
  have hpl:p.length<l.length:=by rw [h];simp
  simp only [kj,qf,e1,ag,e2,Option.bind_some,aj hk,Tw hk hx hl hlen,Bool.not_not]
  rw [e3]
  cases hn:b7 l x with
  |true=>
   rw [ag,bM (by simp;omega),List.filter_cons_of_pos hn,ih (p++[x]) m (q++[x]) e4 hm' (by simp;omega)]
   simp
  |false=>
   rw [ad,List.filter_cons_of_neg (by rw [hn];decide)]
   exact ih (p++[x]) m q e4 hm' (by simp;omega)
theorem sA (a b:Cl):dv VV ET.C a b=decide (a=b):=by
 have e:dv VV ET.C a b=((a.pos==b.pos)&&((a.neg==b.neg)&&true)):=by
  obtain ⟨p,n⟩:=a;obtain ⟨p',n'⟩:=b
  show dv VV ET.C _ _=((p==p')&&((n==n')&&true))
  unfold dv
  simp [VV,cQ,PV.eqvI]
 rw [e,qY]
theorem QU (l:List (Cl×Bool)) (x y:Cl):c8 VV ET.C (ej VV ET.C l x true) y=if x=y then some true else c8 VV ET.C l y:=by
 induction l with
 |nil=>
  show (bif dv VV ET.C x y then some true else .none)=_
  rw [sA];by_cases h:x=y<;>simp [h,c8]
 |cons a r ih=>
  obtain ⟨z,b⟩:=a
  show c8 VV ET.C (bif dv VV ET.C z x then (z,true)::r else (z,b)::ej VV ET.C r x true) y=_
  rw [sA]
  by_cases h:z=x
  ·subst h
   rw [decide_eq_true rfl,cond_true]
   show (bif dv VV ET.C z y then some true else c8 VV ET.C r y)=if z=y then some true else (bif dv VV ET.C z y then some b else c8 VV ET.C r y)
   rw [sA];by_cases h':z=y<;>simp [h']
  ·rw [decide_eq_false h,cond_false]
   show (bif dv VV ET.C z y then some b else c8 VV ET.C (ej VV ET.C r x true) y)=if x=y then some true else (bif dv VV ET.C z y then some b else c8 VV ET.C r y)
   rw [sA,ih]
   by_cases h':z=y
   ·have hxy: ¬x=y:=fun e=>h (h'.trans e.symm)
    simp [h',hxy]
   ·simp [h']
theorem TX {l o:List Cl} (hn:o.Nodup) (h: ∀c,c∈o↔c∈l):sortCl (o.filter (b7 o))=dq l∧(o.filter (b7 o)).length=(dq l).length:=by
 have hp:(sortCl (o.filter (b7 o))).Perm (o.filter (b7 o)):=List.mergeSort_perm _ _
 have hs:(sortCl (o.filter (b7 o))).Pairwise (fun a b=>iQ a b=true):=
  List.pairwise_mergeSort (le:=iQ) (fun a b c h1 h2=>by
   unfold iQ at*
   simp only [Bool.or_eq_true,Bool.and_eq_true,decide_eq_true_eq,beq_iff_eq] at*;omega) (fun a b=>by
   unfold iQ
   simp only [Bool.or_eq_true,Bool.and_eq_true,decide_eq_true_eq,beq_iff_eq];omega) _
 have hnd:(sortCl (o.filter (b7 o))).Nodup:=hp.nodup_iff.2 (hn.filter _)
 have hsorted:iH (sortCl (o.filter (b7 o))):=by
  refine (hs.and hnd).imp fun {a b} h=> ?_
  have h1:=h.1
  unfold iQ at h1
  simp only [Bool.or_eq_true,Bool.and_eq_true,decide_eq_true_eq,beq_iff_eq] at h1
  rcases h1 with h1|h1
  ·exact .inl h1
  ·refine .inr ⟨h1.1, ?_⟩
   have:a.neg≠b.neg:=fun e=>h.2 (Cl.ext' h1.1 e)
   omega
 have he:sortCl (o.filter (b7 o))=dq l:=yD hsorted (tf l) fun c=>by
  rw [hp.mem_iff,List.mem_filter,mem_mins,h,Q0 h]
 exact ⟨he,by rw [←he,hp.length_eq]⟩
theorem P8 (hk:Fu k) (ret:List Cl×Int→Option S) {l:List Cl} (hl:al l) (hlen:l.length<2147483648):
  ∀ (r p:List Cl) (m:Nat) (q:List (Cl×Bool)) (o:List Cl),l=p++r→r.length<m→o.length≤p.length→o.Nodup→(∀c:Cl,(c8 VV ET.C q c).getD false=decide (c∈o))→(∀c,c∈o↔c∈p)→
  lU k ret l m q o (p.length:Int)=ret (if r.all er then if (dq l).length>64 then ([],3) else (dq l,0) else ([],2)):=by
 intro r
 induction r with
 |nil=>
  intro p m q o h hm ho hnd hq hmem
  obtain ⟨m,rfl,hm'⟩:=am hm
  have hp:l=p:=by rw [h,List.append_nil]
  subst hp
  have hol:al o:=fun c hc=>hl c ((hmem c).1 hc)
  have hk':4294967296≤k:=hk
  simp only [lU,nr,aU h,ad,List.all_nil,if_true]
  have:=PX hk ret hol (by omega) o [] k [] rfl (by omega) (by simp)
  simp only [List.nil_append] at this
  refine Eq.trans this ?_
  have hsm:=TX hnd hmem
  rw [hsm.1,hsm.2]
 |cons x r ih=>
  intro p m q o h hm ho hnd hq hmem
  obtain ⟨m,rfl,hm'⟩:=am hm
  obtain ⟨e1,e2,e3,e4⟩:=aS h (by omega)
  have hx:a_ x:=hl x (by rw [h];simp)
  have hpl:p.length<l.length:=by rw [h];simp
  simp only [lU,nr,e1,ag,e2,Option.bind_some,aj hk,FJ hk hx]
  rw [hq,e3]
  by_cases hr:er x=true
  ·have:(x::r).all er=r.all er:=by rw [List.all_cons,hr,Bool.true_and]
   rw [hr,Bool.not_true,ad,this]
   by_cases hxo:x∈o
   ·rw [decide_eq_true hxo,Bool.not_true,ad]
    exact ih (p++[x]) m q o e4 hm' (by simp;omega) hnd hq fun c=>by
     rw [hmem c,List.mem_append,List.mem_singleton]
     exact ⟨.inl,fun h'=>by rcases h' with h'|rfl;exact h';exact (hmem _).1 hxo⟩
   ·rw [decide_eq_false hxo,Bool.not_false,ag,bM (by simp;omega)]
    refine ih (p++[x]) m _ (o++[x]) e4 hm' (by simp;omega) (List.nodup_append.2 ⟨hnd,by simp,fun a ha b hb=>by simp at hb;subst hb;rintro rfl;exact hxo ha⟩) (fun c=> ?_) fun c=> ?_
    ·rw [QU]
     by_cases hc:x=c
     ·subst hc;simp
     ·rw [if_neg hc,hq,Bool.eq_iff_iff];simp [Ne.symm hc]
    ·rw [List.mem_append,hmem,List.mem_append]
  ·rw [Bool.not_eq_true] at hr
   have:(x::r).all er=false:=by rw [List.all_cons,hr,Bool.false_and]
   rw [hr,Bool.not_false,ag,this,if_neg (by decide)]
theorem it (hk:Fu k) {l:List Cl} (hl:al l) (hlen:l.length<2147483648) (ret:List Cl×Int→Option S):fc k l ret=ret (bu l):=by
 simp only [fc,yN]
 exact P8 hk ret hl hlen l [] k [] [] rfl (by have:4294967296≤k:=hk;omega) (by simp) List.nodup_nil (fun c=>by simp [c8]) (fun c=>Iff.rfl)
theorem Pl (hk:Fu k) (ret:Bool→Option S) {a b:List Cl} (hlen:a.length<4294967296):
  ∀ (r s p q:List Cl) (m:Nat),a=p++r→b=q++s→p.length=q.length→r.length=s.length→r.length<m→mi k ret a b m (p.length:Int)=ret (decide (r=s)):=by
 intro r
 induction r with
 |nil=>
  intro s p q m h h' hpq hrs hm
  obtain ⟨m,rfl,hm'⟩:=am hm
  cases s with
  |nil=>simp only [mi,qO,aU h,ad];rfl
  |cons=>cases hrs
 |cons x r ih=>
  intro s p q m h h' hpq hrs hm
  obtain ⟨m,rfl,hm'⟩:=am hm
  cases s with
  |nil=>cases hrs
  |cons y s=>
   obtain ⟨e1,e2,e3,e4⟩:=aS h (by omega)
   have e2':av b (p.length:Int)=some y:=by rw [h',hpq];exact N_ q s y
   simp only [mi,qO,e1,ag,e2,e2',Option.bind_some,qY,e3]
   rw [ih s (p++[x]) (q++[y]) m e4 (by rw [h'];simp) (by simp [hpq]) (by simpa using hrs) hm']
   by_cases hxy:x=y
   ·subst hxy;rw [decide_eq_true rfl,Bool.not_true,ad];simp
   ·rw [decide_eq_false hxy,Bool.not_false,ag];simp [hxy]
theorem S2 (hk:Fu k) {a b:List Cl} (hlen:a.length<4294967296) (ret:Bool→Option S):rY k a b ret=ret (decide (a=b)):=by
 simp only [rY,zp]
 by_cases h:a.length=b.length
 ·have e:((a.length:Int)==(b.length:Int))=true:=by simp [h]
  rw [e,Bool.not_true,ad]
  exact Pl hk ret hlen a b [] [] k rfl rfl rfl h (by have:4294967296≤k:=hk;omega)
 ·have e:((a.length:Int)==(b.length:Int))=false:=by rw [beq_eq_false_iff_ne];omega
  rw [e,Bool.not_false,ag,decide_eq_false]
  rintro rfl;exact h rfl
theorem Qd (l:List Cl):(bu l).1.length≤64:=by
 unfold bu;split
 ·split
  ·simp
  ·next h=>show (dq l).length≤64;omega
 ·simp
def bA (f:List Cl):Bool:=decide (bu f=(f,0))
theorem m6 (hk:Fu k) {f:List Cl} (hf:al f) (hlen:f.length<2147483648) (ret:Bool→Option S):fJ k f ret=ret (bA f):=by
 have:=Qd f
 simp only [fJ,G4,aj hk,it hk hf hlen,S2 hk (show (bu f).1.length<4294967296 by omega),ew,bA,beq_iff_eq]
 by_cases h:(bu f).2=0
 ·rw [if_pos h];congr 1;rw [Bool.eq_iff_iff];simp [Prod.ext_iff,h]
 ·rw [if_neg h,decide_eq_false];intro e;rw [e] at h;exact h rfl
end Go.Proofs.YtapmagaejigpnaaGreatDoor
namespace Go.Proofs.YtapmagaejigpnaaGreatDoor
open Go PI
set_option linter.unusedVariables false
set_option linter.unusedSimpArgs false
set_option maxRecDepth 20000
variable {S:Type} {k:Nat}
def RF (f:List Cl):Prop:=bu f=(f,0)∧al f
theorem gM {f:List Cl} (h:al f):bA f=true↔RF f:=by unfold bA RF;simp [h]
theorem RF.right {f:List Cl} (h:RF f):bA f=true:=by unfold bA;simp [h.1]
theorem kz {l o:List Cl} (h:bu l=(o,0)):o=dq l∧l.all er=true∧o.length≤64:=by
 unfold bu at h
 split at h
 ·next ha=>
  split at h
  ·cases h
  ·next hl=>cases h;exact ⟨rfl,ha,by omega⟩
 ·cases h
theorem RF.len {f:List Cl} (h:RF f):f.length≤64:=(kz h.1).2.2
theorem RF.rc {f:List Cl} (h:RF f) {c:Cl} (hc:c∈f):RC c:=(x_ (h.2 c hc)).1 (List.all_eq_true.1 (kz h.1).2.1 c hc)
theorem QW (l:List Cl):dq (dq l)=dq l:=yD (tf _) (tf _) fun c=>by
 rw [mem_mins]
 constructor
 ·exact fun h=>h.1
 ·intro h
  refine ⟨h, ?_⟩
  have:=(mem_mins.1 h).2
  simp only [b7,List.all_eq_true] at this ⊢
  exact fun d hd=>this d (mem_mins.1 hd).1
theorem mw {l:List Cl} (hl:al l) (h:(bu l).2=0):RF (bu l).1:=by
 have h':bu l=((bu l).1,0):=Prod.ext rfl h
 obtain ⟨h1,h2,h3⟩:=kz h'
 have hok:al (bu l).1:=fun c hc=>hl c ((mem_mins.1 (h1▸hc)).1)
 refine ⟨?_,hok⟩
 have ha:(bu l).1.all er=true:=List.all_eq_true.2 fun c hc=>List.all_eq_true.1 h2 c (mem_mins.1 (h1▸hc)).1
 rw [h1] at ha ⊢ h3
 unfold bu
 rw [if_pos ha,QW,if_neg (by omega)]
theorem pw:RF []:=⟨rfl,fun c hc=>by cases hc⟩
theorem fw {c:Cl} (h:RC c):RF [c]:=by
 have hok:al [c]:=fun d hd=>by simp at hd;subst hd;exact h.ok
 refine ⟨?_,hok⟩
 have hm:dq [c]=[c]:=yD (tf _) (by simp) fun d=>by
  rw [mem_mins];simp only [List.mem_singleton]
  constructor
  ·exact fun h=>h.1
  ·rintro rfl;simp [b7]
 unfold bu
 rw [hm,if_pos (by simp [(x_ h.ok).2 h]),if_neg (by simp)]
theorem mS:RC ⟨0,0⟩:=⟨⟨by decide,by decide⟩,by decide,by decide⟩
theorem gH {f g:List Cl} (hf:al f) (hg:al g):al (f++g):=fun c hc=>by
 rcases List.mem_append.1 hc with h|h
 ·exact hf c h
 ·exact hg c h
theorem P7 (hk:Fu k) (ret:Int→Option S) {l:List (List Cl)} (hl: ∀f∈l,al f∧f.length<2147483648) (hlen:l.length<4294967296):
  ∀ (r p:List (List Cl)) (m:Nat),l=p++r→r.length<m→mc k ret l m (p.length:Int)=ret (if r.all bA then 0 else 2):=by
 intro r
 induction r with
 |nil=>
  intro p m h hm
  obtain ⟨m,rfl,hm'⟩:=am hm
  simp only [mc,qE,aU h,ad];rfl
 |cons x r ih=>
  intro p m h hm
  obtain ⟨m,rfl,hm'⟩:=am hm
  obtain ⟨e1,e2,e3,e4⟩:=aS h (by omega)
  have hx:=hl x (by rw [h];simp)
  simp only [mc,qE,e1,ag,e2,Option.bind_some,aj hk,m6 hk hx.1 hx.2,e3,ih (p++[x]) m e4 hm']
  by_cases hr:bA x=true
  ·have:(x::r).all bA=r.all bA:=by rw [List.all_cons,hr,Bool.true_and]
   rw [hr,Bool.not_true,ad,this]
  ·rw [Bool.not_eq_true] at hr
   have:(x::r).all bA=false:=by rw [List.all_cons,hr,Bool.false_and]
   rw [hr,Bool.not_false,ag,this,if_neg (by decide)]
theorem yq (hk:Fu k) {l:List (List Cl)} (hl: ∀f∈l,al f∧f.length<2147483648) (hlen:l.length<4294967296) (ret:Int→Option S):lw k l ret=ret (if l.all bA then 0 else 2):=by
 simp only [lw,zg]
 exact P7 hk ret hl hlen l [] k rfl (by have:4294967296≤k:=hk;omega)
def dm (f g:List Cl):List Cl×Int:=bu (f++g)
def meets (f g:List Cl):List Cl:=f.flatMap fun a=>g.map (di a)
def dH (f g:List Cl):List Cl×Int:=bu (meets f g)
theorem C5 {f g:List Cl} (hf:al f) (hg:al g):al (meets f g):=fun c hc=>by
 obtain ⟨a,ha,hc⟩:=List.mem_flatMap.1 hc
 obtain ⟨b,hb,rfl⟩:=List.mem_map.1 hc
 exact te (hf a ha) (hg b hb)
theorem mA {f g:List Cl} (hf:al f) (hg:al g) (h:(dH f g).2=0):RF (dH f g).1:=mw (C5 hf hg) h
theorem OB {f g:List Cl} (hf:al f) (hg:al g) (h:(dm f g).2=0):RF (dm f g).1:=mw (gH hf hg) h
theorem t7 (hk:Fu k) {f g:List Cl} (hf:al f) (hg:al g) (h1:f.length<1073741824) (h2:g.length<1073741824) (ret:List Cl×Int→Option S):j7 k f g ret=ret (dm f g):=by
 simp only [j7,G5,aj hk,List.nil_append]
 rw [bM (by simp;omega),bM (by omega),it hk (gH hf hg) (by rw [List.length_append];omega)]
 rfl
theorem P2 (hk:Fu k) (ret:List Cl×Int→Option S) (rec0:Int→List Cl→Option S) {x:Cl} (hx:a_ x) {g f:List Cl} {v:Int} (hg:al g) (hlen:g.length<65536):
  ∀ (r p:List Cl) (m:Nat) (o:List Cl),g=p++r→r.length<m→o.length+r.length<1099511627776→kl k ret rec0 x g f v m (p.length:Int) o=rec0 (IntKind.wrap .i64 (v+1)) (o++r.map (di x)):=by
 intro r
 induction r with
 |nil=>
  intro p m o h hm ho
  obtain ⟨m,rfl,hm'⟩:=am hm
  simp only [kl,qC,aU h,ad,List.map_nil,List.append_nil]
 |cons y r ih=>
  intro p m o h hm ho
  obtain ⟨m,rfl,hm'⟩:=am hm
  obtain ⟨e1,e2,e3,e4⟩:=aS h (by omega)
  have hy:a_ y:=hg y (by rw [h];simp)
  simp only [List.length_cons] at ho
  simp only [kl,qC,e1,ag,e2,Option.bind_some,aj hk,yp hk hx hy,e3]
  rw [bM (by simp;omega),ih (p++[y]) m (o++[di x y]) e4 hm' (by simp;omega)]
  simp
theorem P1 (hk:Fu k) (ret:List Cl×Int→Option S) {g f:List Cl} (hf:al f) (hg:al g) (hlf:f.length<32768) (hlg:g.length<32768):
  ∀ (r p:List Cl) (m:Nat) (o:List Cl),f=p++r→r.length<m→al o→o.length+r.length*g.length<1073741825→js k ret g f m (p.length:Int) o=ret (bu (o++meets r g)):=by
 intro r
 induction r with
 |nil=>
  intro p m o h hm hok ho
  obtain ⟨m,rfl,hm'⟩:=am hm
  simp only [js,nw,aU h,ad,aj hk]
  rw [it hk hok (by omega)]
  simp [meets]
 |cons x r ih=>
  intro p m o h hm hok ho
  obtain ⟨m,rfl,hm'⟩:=am hm
  obtain ⟨e1,e2,e3,e4⟩:=aS h (by omega)
  have hx:a_ x:=hf x (by rw [h];simp)
  have hmul:(x::r).length*g.length=r.length*g.length+g.length:=by rw [List.length_cons,Nat.succ_mul]
  rw [hmul] at ho
  have hk':4294967296≤k:=hk
  simp only [js,nw,e1,ag,e2,Option.bind_some]
  have:=P2 hk ret (js k ret g f m) (f:=f) (v:=(p.length:Int)) hx hg (by omega) g [] k o rfl (by omega) (by omega)
  simp only [List.length_nil] at this
  rw [show (0:Int)=((0:Nat):Int) from rfl,this,e3,ih (p++[x]) m _ e4 hm' (gH hok fun c hc=>by
   obtain ⟨b,hb,rfl⟩:=List.mem_map.1 hc
   exact te hx (hg b hb)) (by rw [List.length_append,List.length_map];omega)]
  simp [meets]
theorem pK (hk:Fu k) {f g:List Cl} (hf:al f) (hg:al g) (h1:f.length<32768) (h2:g.length<32768) (ret:List Cl×Int→Option S):gW k f g ret=ret (dH f g):=by
 simp only [gW,ze]
 have hb:f.length*g.length<1073741824:=Nat.lt_of_le_of_lt (Nat.mul_le_mul (Nat.le_of_lt_succ h1) (Nat.le_of_lt_succ h2)) (by decide)
 have:=P1 hk ret hf hg h1 h2 f [] k [] rfl (by have:4294967296≤k:=hk;omega) (fun c hc=>by cases hc) (by simp;omega)
 simpa [dH] using this
theorem RF.lt {f:List Cl} (h:RF f):f.length<2147483648:=by have:=h.len;omega
end Go.Proofs.YtapmagaejigpnaaGreatDoor
namespace Go.Proofs.YtapmagaejigpnaaGreatDoor
open Go PI
set_option linter.unusedVariables false
set_option linter.unusedSimpArgs false
set_option maxRecDepth 20000
variable {S:Type} {k:Nat}
theorem u0:U32 0:=⟨by decide,by decide⟩
def nl (i:Int):Cl:=⟨0,dZ 0 i⟩
def pl (i:Int):Cl:=⟨dZ 0 i,0⟩
theorem C9 (i:Int):RC (nl i):=⟨⟨by show (0:Int)≤0;decide,by show (0:Int)<16777216;decide⟩,HY⟩
theorem Dm (i:Int):RC (pl i):=⟨HY,⟨by show (0:Int)≤0;decide,by show (0:Int)<16777216;decide⟩⟩
def mE (c:Cl):List Cl:=(fh c.pos).map nl++(fh c.neg).map pl
def kK (c:Cl):List Cl×Int:=bu (mE c)
theorem ta (s:Int):(fh s).length≤24:=by unfold fh;rw [Oy];exact LF _
theorem Dj {c d:Cl} (h:d∈mE c):RC d:=by
 rcases List.mem_append.1 h with h|h
 ·obtain ⟨i,_,rfl⟩:=List.mem_map.1 h;exact C9 i
 ·obtain ⟨i,_,rfl⟩:=List.mem_map.1 h;exact Dm i
theorem RI (c:Cl):(mE c).length≤48:=by
 have h1:=ta c.pos;have h2:=ta c.neg
 unfold mE;rw [List.length_append,List.length_map,List.length_map];omega
theorem BY {l:List Cl} (h: ∀c∈l,RC c) (hl:l.length≤64):(bu l).2=0:=by
 have:=QV l
 unfold bu
 rw [if_pos (List.all_eq_true.2 fun c hc=>(x_ (h c hc).ok).2 (h c hc)),if_neg (by omega)]
theorem Dk (c:Cl):(kK c).2=0:=BY (fun d hd=>Dj hd) (by have:=RI c;omega)
theorem xl (c:Cl):RF (kK c).1:=mw (fun d hd=>(Dj hd).ok) (Dk c)
theorem P5 (hk:Fu k) (ret:List Cl×Int→Option S) {l:List Int} (hlen:l.length≤64):
  ∀ (r p:List Int) (m:Nat) (o:List Cl),l=p++r→r.length<m→al o→o.length+r.length<1073741824→km k ret l m (p.length:Int) o=ret (bu (o++r.map pl)):=by
 intro r
 induction r with
 |nil=>
  intro p m o h hm hok ho
  obtain ⟨m,rfl,hm'⟩:=am hm
  simp only [List.length_nil] at ho
  simp only [km,qD,aU h,ad,aj hk,it hk hok (show o.length<2147483648 by omega),List.map_nil,List.append_nil]
 |cons x r ih=>
  intro p m o h hm hok ho
  obtain ⟨m,rfl,hm'⟩:=am hm
  obtain ⟨e1,e2,e3,e4⟩:=aS h (by omega)
  simp only [List.length_cons] at ho
  simp only [km,qD,e1,ag,e2,Option.bind_some,aj hk,pF hk u0,e3]
  rw [bM (by simp;omega),ih (p++[x]) m _ e4 hm' (gH hok fun c hc=>by simp at hc;subst hc;exact (Dm x).ok) (by simp;omega)]
  simp [pl]
theorem P4 (hk:Fu k) (ret:List Cl×Int→Option S) {c:Cl} (hc:a_ c) {l:List Int} (hlen:l.length≤64):
  ∀ (r p:List Int) (m:Nat) (o:List Cl),l=p++r→r.length<m→al o→o.length+r.length<1000000→mb k ret c l m (p.length:Int) o=ret (bu (o++r.map nl++(fh c.neg).map pl)):=by
 intro r
 induction r with
 |nil=>
  intro p m o h hm hok ho
  obtain ⟨m,rfl,hm'⟩:=am hm
  simp only [List.length_nil] at ho
  have hl:=ta c.neg
  have hk':4294967296≤k:=hk
  simp only [mb,nx,aU h,ad,pf,C3 hc.2,List.map_nil,List.append_nil]
  exact P5 hk ret (by omega) (fh c.neg) [] k o rfl (by omega) hok (by omega)
 |cons x r ih=>
  intro p m o h hm hok ho
  obtain ⟨m,rfl,hm'⟩:=am hm
  obtain ⟨e1,e2,e3,e4⟩:=aS h (by omega)
  simp only [List.length_cons] at ho
  simp only [mb,nx,e1,ag,e2,Option.bind_some,aj hk,pF hk u0,e3]
  rw [bM (by simp;omega),ih (p++[x]) m _ e4 hm' (gH hok fun c hc=>by simp at hc;subst hc;exact (C9 x).ok) (by simp;omega)]
  simp [nl]
theorem Tz (hk:Fu k) {c:Cl} (hc:a_ c) (ret:List Cl×Int→Option S):rS k c ret=ret (kK c):=by
 have hl:=ta c.pos
 simp only [rS,zf,pf,C3 hc.1]
 have:=P4 hk ret hc (l:=fh c.pos) (by omega) (fh c.pos) [] k [] rfl (by have:4294967296≤k:=hk;omega) (fun c hc=>by cases hc) (by simp;omega)
 simpa [kK,mE] using this
def bk (step:List Cl→Cl→List Cl×Int):List Cl→List Cl→List Cl×Int
 |h,[]=>(h,0)
 |h,c::r=>if (step h c).2=0 then bk step (step h c).1 r else ([],(step h c).2)
def mD (h:List Cl) (c:Cl):List Cl×Int:=dH h (kK c).1
def c_ (f:List Cl):List Cl×Int:=bk mD [⟨0,0⟩] f
theorem Bf {step:List Cl→Cl→List Cl×Int} (hs: ∀h c,RF h→(step h c).2=0→RF (step h c).1): ∀ {r h:List Cl},RF h→(bk step h r).2=0→RF (bk step h r).1:=by
 intro r
 induction r with
 |nil=>intro h hh _;exact hh
 |cons c r ih=>
  intro h hh he
  unfold bk at he ⊢
  split
  ·next h0=>rw [if_pos h0] at he;exact ih (hs h c hh h0) he
  ·next h0=>rw [if_neg h0] at he;exact absurd he h0
theorem C_ (h:List Cl) (c:Cl) (hh:RF h) (h0:(mD h c).2=0):RF (mD h c).1:=mA hh.2 (xl c).2 h0
theorem o_ {f:List Cl} (h:(c_ f).2=0):RF (c_ f).1:=Bf C_ (fw mS) h
theorem bO (n:Int):(n==0)=decide (n=0):=by rw [Bool.eq_iff_iff];simp
theorem Tx (hk:Fu k) {h:List Cl} {c:Cl} (hh:RF h) (hc:a_ c) (ret:List Cl×Int→Option S):rR k h c ret=ret (mD h c):=by
 have:=hh.len;have:=(xl c).len
 simp only [rR,G7,aj hk,Tz hk hc,Dk,pK hk hh.2 (xl c).2 (show h.length<32768 by omega) (show (kK c).1.length<32768 by omega)]
 rfl
theorem PO (hk:Fu k) (ret:List Cl×Int→Option S) {l:List Cl} (hl:al l) (hlen:l.length<2147483648):
  ∀ (r p:List Cl) (m:Nat) (h:List Cl),l=p++r→r.length<m→RF h→l9 k ret l m h (p.length:Int)=ret (bk mD h r):=by
 intro r
 induction r with
 |nil=>
  intro p m h e hm hh
  obtain ⟨m,rfl,hm'⟩:=am hm
  simp only [l9,qA,aU e,ad];rfl
 |cons x r ih=>
  intro p m h e hm hh
  obtain ⟨m,rfl,hm'⟩:=am hm
  obtain ⟨e1,e2,e3,e4⟩:=aS e (by omega)
  have hx:a_ x:=hl x (by rw [e];simp)
  simp only [l9,qA,e1,ag,e2,Option.bind_some,aj hk,Tx hk hh hx,bO,e3]
  by_cases h0:(mD h x).2=0
  ·rw [decide_eq_true h0,Bool.not_true,ad,ih (p++[x]) m _ e4 hm' (C_ h x hh h0),bk,if_pos h0]
  ·rw [decide_eq_false h0,Bool.not_false,ag,bk,if_neg h0]
theorem FS (hk:Fu k) {f:List Cl} (hf:al f) (hlen:f.length<2147483648) (ret:List Cl×Int→Option S):lv k f ret=ret (c_ f):=by
 simp only [lv,G6,aj hk,n7,y_,vJ,zc]
 exact PO hk ret hf hlen f [] k _ rfl (by have:4294967296≤k:=hk;omega) (fw mS)
theorem Tg (hk:Fu k) {f:List Cl} (hf:al f) (hlen:f.length<2147483648) (ret:List Cl×Int→Option S):rN k f ret=ret (if bA f then c_ f else ([],2)):=by
 simp only [rN,GZ,aj hk,yq hk (l:=[f]) (by simpa using ⟨hf,hlen⟩) (by simp),FS hk hf hlen]
 have:[f].all bA=bA f:=by simp
 rw [this]
 by_cases h:bA f=true
 ·rw [if_pos h,if_pos h];rfl
 ·rw [if_neg h,if_neg h];rfl
end Go.Proofs.YtapmagaejigpnaaGreatDoor
namespace Go.Proofs.YtapmagaejigpnaaGreatDoor
open Go PI
set_option linter.unusedVariables false
set_option linter.unusedSimpArgs false
set_option maxRecDepth 20000
variable {S:Type} {k:Nat}
def cS (i:Int) (c:Cl):Cl:=⟨dy c.pos i,dy c.neg i⟩
theorem lO (i:Int) (c:Cl):RC (cS i c):=⟨H0,H0⟩
def eo (i:Int) (r:List Cl) (c:Cl):List Cl×Int:=if dw c.pos i then dH [cS i c] r else ([cS i c],0)
def fY (i:Int) (r:List Cl) (c:Cl) (g:List Cl):List Cl×Int:=if dw c.neg i then if (c_ r).2=0 then dH g (c_ r).1 else ([],(c_ r).2) else (g,0)
def fX (i:Int) (r h:List Cl) (c:Cl):List Cl×Int:=
 if (eo i r c).2=0 then if (fY i r c (eo i r c).1).2=0 then dm h (fY i r c (eo i r c).1).1 else ([],(fY i r c (eo i r c).1).2) else ([],(eo i r c).2)
def lG (i:Int):Bool:=decide (0≤i∧i<24)
def fq (f:List Cl) (i:Int) (r:List Cl):List Cl×Int:=if bA f&&bA r&&lG i then bk (fX i r) [] f else ([],2)
theorem RT {i:Int} {r:List Cl} {c:Cl} (hr:RF r) (h:(eo i r c).2=0):RF (eo i r c).1:=by
 unfold eo at h ⊢
 split
 ·next hh=>rw [if_pos hh] at h;exact mA (fw (lO i c)).2 hr.2 h
 ·exact fw (lO i c)
theorem RV {i:Int} {r g:List Cl} {c:Cl} (hg:RF g) (h:(fY i r c g).2=0):RF (fY i r c g).1:=by
 unfold fY at h ⊢
 split
 ·next hh=>
  rw [if_pos hh] at h
  split
  ·next hn=>rw [if_pos hn] at h;exact mA hg.2 (o_ hn).2 h
  ·next hn=>rw [if_neg hn] at h;exact absurd h hn
 ·exact hg
theorem Dp {i:Int} {r:List Cl} (hr:RF r) (h:List Cl) (c:Cl) (hh:RF h) (h0:(fX i r h c).2=0):RF (fX i r h c).1:=by
 unfold fX at h0 ⊢
 split
 ·next ha=>
  rw [if_pos ha] at h0
  have hA:=RT hr ha
  split
  ·next hb=>rw [if_pos hb] at h0;exact OB hh.2 (RV hA hb).2 h0
  ·next hb=>rw [if_neg hb] at h0;exact absurd h0 hb
 ·next ha=>rw [if_neg ha] at h0;exact absurd h0 ha
theorem S8 (hk:Fu k) {i:Int} {r h:List Cl} {c:Cl} (hr:RF r) (hh:RF h) (hc:a_ c) (ret:List Cl×Int→Option S):rP k h c i r ret=ret (fX i r h c):=by
 have l1:=hr.len;have l2:=hh.len
 have hg:=fw (lO i c)
 simp only [rP,G3,aj hk,pG hk hc.1,pG hk hc.2,mZ hk hc.1,mZ hk hc.2,pK hk hg.2 hr.2 (show [cS i c].length<32768 by simp) (show r.length<32768 by omega),FS hk hr.2 hr.lt,bO,ew,decide_eq_true_eq,Bool.not_eq_true',decide_eq_false_iff_not]
 have e: ∀ (f:List Cl×Int→Option S),gW k [Cl.mk (dy c.pos i) (dy c.neg i)] r f=f (dH [cS i c] r):=fun f=>pK hk hg.2 hr.2 (by simp) (by omega) f
 simp only [e]
 unfold fX eo fY
 by_cases hp:dw c.pos i=true
 ·simp only [hp,if_true]
  by_cases h1:(dH [cS i c] r).2=0
  ·have hA:RF (dH [cS i c] r).1:=mA hg.2 hr.2 h1
   have l3:=hA.len
   simp only [h1,not_true,if_false,if_true]
   by_cases hn:dw c.neg i=true
   ·simp only [hn,if_true]
    by_cases h2:(c_ r).2=0
    ·have hN:=o_ h2
     have l4:=hN.len
     simp only [h2,not_true,if_false,if_true]
     rw [pK hk hA.2 hN.2 (by omega) (by omega)]
     by_cases h3:(dH (dH [cS i c] r).1 (c_ r).1).2=0
     ·have hB:=mA hA.2 hN.2 h3
      have l5:=hB.len
      simp only [h3,not_true,if_false,if_true]
      rw [t7 hk hh.2 hB.2 (by omega) (by omega)]
     ·simp only [h3,not_false_eq_true,if_true,if_false]
    ·simp only [h2,not_false_eq_true,if_true,if_false]
   ·simp only [hn,Bool.false_eq_true,if_false,if_true]
    rw [t7 hk hh.2 hA.2 (by omega) (by omega)]
  ·simp only [h1,not_false_eq_true,if_true,if_false]
 ·simp only [hp,Bool.false_eq_true,if_false,if_true]
  by_cases hn:dw c.neg i=true
  ·simp only [hn,if_true]
   by_cases h2:(c_ r).2=0
   ·have hN:=o_ h2
    have l4:=hN.len
    simp only [h2,not_true,if_false,if_true]
    have e2: ∀ (f:List Cl×Int→Option S),gW k [Cl.mk (dy c.pos i) (dy c.neg i)] (c_ r).1 f=f (dH [cS i c] (c_ r).1):=fun f=>pK hk hg.2 hN.2 (by simp) (by omega) f
    rw [e2]
    by_cases h3:(dH [cS i c] (c_ r).1).2=0
    ·have hB:=mA hg.2 hN.2 h3
     have l5:=hB.len
     simp only [h3,not_true,if_false,if_true]
     rw [t7 hk hh.2 hB.2 (by omega) (by omega)]
    ·simp only [h3,not_false_eq_true,if_true,if_false]
   ·simp only [h2,not_false_eq_true,if_true,if_false]
  ·simp only [hn,Bool.false_eq_true,if_false,if_true]
   have:=t7 hk hh.2 hg.2 (by omega) (by simp) ret
   exact this
theorem PP (hk:Fu k) (ret:List Cl×Int→Option S) {i:Int} {q:List Cl} (hq:RF q) {l:List Cl} (hl:al l) (hlen:l.length<2147483648):
  ∀ (r p:List Cl) (m:Nat) (h:List Cl),l=p++r→r.length<m→RF h→l8 k ret i q l m h (p.length:Int)=ret (bk (fX i q) h r):=by
 intro r
 induction r with
 |nil=>
  intro p m h e hm hh
  obtain ⟨m,rfl,hm'⟩:=am hm
  simp only [l8,qz,aU e,ad];rfl
 |cons x r ih=>
  intro p m h e hm hh
  obtain ⟨m,rfl,hm'⟩:=am hm
  obtain ⟨e1,e2,e3,e4⟩:=aS e (by omega)
  have hx:a_ x:=hl x (by rw [e];simp)
  simp only [l8,qz,e1,ag,e2,Option.bind_some,aj hk,S8 hk hq hh hx,bO,e3]
  by_cases h0:(fX i q h x).2=0
  ·rw [decide_eq_true h0,Bool.not_true,ad,ih (p++[x]) m _ e4 hm' (Dp hq h x hh h0),bk,if_pos h0]
  ·rw [decide_eq_false h0,Bool.not_false,ag,bk,if_neg h0]
theorem S1 (hk:Fu k) (i:Int) (ret:List Cl×Int→Option S):rM k i ret=ret (if lG i then ([⟨dZ 0 i,0⟩],0) else ([],2)):=by
 simp only [rM,GW,aj hk,pF hk u0]
 unfold lG
 by_cases h:0≤i∧i<24
 ·have:dZ 0 i=((2^i.toNat:Nat):Int):=by rw [ur,if_pos h]
  rw [this,vr hk _ _ (by omega),decide_eq_true h,if_pos rfl];exact ad _ _
 ·have:dZ 0 i=0:=by rw [ur,if_neg h]
  rw [this,vq hk,decide_eq_false h,if_neg (by decide)];exact ag _ _
theorem Th (hk:Fu k) {f r:List Cl} {i:Int} (hf:al f) (hr:al r) (h1:f.length<2147483648) (h2:r.length<2147483648) (ret:List Cl×Int→Option S):rO k f i r ret=ret (fq f i r):=by
 simp only [rO,G2,aj hk,yq hk (l:=[f,r]) (by simpa using ⟨⟨hf,h1⟩,hr,h2⟩) (by simp),S1 hk]
 have e:[f,r].all bA=(bA f&&bA r):=by simp
 unfold fq
 by_cases ha:(bA f&&bA r)=true
 ·rw [e,if_pos ha,ha,Bool.true_and]
  rw [show ((0:Int)==0)=true from rfl,Bool.not_true,ad]
  cases hd:lG i with
  |true=>
   rw [if_pos rfl,if_pos rfl]
   rw [show ((0:Int)==0)=true from rfl,Bool.not_true,ad]
   simp only [n8,za,vI,zb]
   have hr':=(gM hr).1 (by simp only [Bool.and_eq_true] at ha;exact ha.2)
   exact PP hk ret hr' hf h1 f [] k [] rfl (by have:4294967296≤k:=hk;omega) pw
  |false=>
   have e1: ∀ (x y:List Cl×Int),(if false=true then x else y)=y:=fun x y=>if_neg (by decide)
   rw [e1,e1];exact ag _ _
 ·rw [Bool.not_eq_true] at ha
  have e1: ∀ (x y:List Cl×Int),(if false=true then x else y)=y:=fun x y=>if_neg (by decide)
  rw [e,ha,if_neg (by decide),Bool.false_and,e1];exact ag _ _
theorem Qo {m n b:Nat}:(dX m n b).1<16777216:=by
 have h1:m&&&M24<16777216:=Nat.lt_of_le_of_lt Nat.and_le_right (by decide)
 have h2:eK m n≤m&&&M24:=Nat.and_le_left
 unfold dX
 split
 ·show eK m n<_;omega
 ·split
  ·show 0<_;omega
  ·split
   ·show 0<_;omega
   ·exact Nat.or_lt_two_pow (n:=24) (by have:(2:Nat)^24=16777216:=(by decide);omega) (by have:(2:Nat)^24=16777216:=(by decide);omega)
theorem B3 (s i b:Int):0≤(ce s i b).1∧(ce s i b).1<16777216:=by
 unfold ce
 split
 ·exact ⟨by decide,by decide⟩
 ·have:= @Qo s.toNat i.toNat b.toNat
  exact ⟨Int.natCast_nonneg _,by show (((dX s.toNat i.toNat b.toNat).1:Nat):Int)<_;omega⟩
theorem Qk (c:Cl) (i b:Int):RC (cH c i b).1:=by
 unfold cH
 split
 ·split
  ·split
   ·exact ⟨B3 _ _ _,B3 _ _ _⟩
   ·exact mS
  ·exact mS
 ·exact mS
def c7 (i b:Int) (h:List Cl) (c:Cl):List Cl×Int:=(h++[(cH c i b).1],(cH c i b).2)
def be (f:List Cl) (i b:Int):List Cl×Int:=if bA f then if (bk (c7 i b) [] f).2=0 then bu (bk (c7 i b) [] f).1 else ([],(bk (c7 i b) [] f).2) else ([],2)
theorem Bg {i b:Int}: ∀ {r h:List Cl},al h→al (bk (c7 i b) h r).1∧(bk (c7 i b) h r).1.length≤h.length+r.length:=by
 intro r
 induction r with
 |nil=>intro h hh;exact ⟨hh,by show h.length≤_;omega⟩
 |cons c r ih=>
  intro h hh
  unfold bk
  split
  ·have:=ih (h:=(c7 i b h c).1) (gH hh fun d hd=>by simp at hd;subst hd;exact (Qk c i b).ok)
   refine ⟨this.1,Nat.le_trans this.2 ?_⟩
   unfold c7;simp;omega
  ·exact ⟨fun d hd=>(by cases hd),by show 0≤_;omega⟩
theorem PN (hk:Fu k) (ret:List Cl×Int→Option S) {i b:Int} (hi:aA i) (hb:aA b) {l:List Cl} (hl:al l) (hlen:l.length<2147483648):
  ∀ (r p:List Cl) (m:Nat) (h:List Cl),l=p++r→r.length<m→h.length+r.length<4294967296→l_ k ret i b l m h (p.length:Int)=ret (bk (c7 i b) h r):=by
 intro r
 induction r with
 |nil=>
  intro p m h e hm hh
  obtain ⟨m,rfl,hm'⟩:=am hm
  simp only [l_,qB,aU e,ad];rfl
 |cons x r ih=>
  intro p m h e hm hh
  obtain ⟨m,rfl,hm'⟩:=am hm
  obtain ⟨e1,e2,e3,e4⟩:=aS e (by omega)
  have hx:a_ x:=hl x (by rw [e];simp)
  simp only [List.length_cons] at hh
  simp only [l_,qB,e1,ag,e2,Option.bind_some,aj hk,vH,GY,Ta hk hx hi hb,bO,e3]
  rw [bM (by simp;omega)]
  show ab (!decide ((cH x i b).2=0)) _ _=_
  by_cases h0:(cH x i b).2=0
  ·rw [decide_eq_true h0,Bool.not_true,ad,ih (p++[x]) m _ e4 hm' (by simp;omega),bk,if_pos (show (c7 i b h x).2=0 from h0)];rfl
  ·rw [decide_eq_false h0,Bool.not_false,ag,bk,if_neg (show ¬ (c7 i b h x).2=0 from h0)];rfl
theorem pI (hk:Fu k) {f:List Cl} {i b:Int} (hf:al f) (hlen:f.length<1073741824) (hi:aA i) (hb:aA b) (ret:List Cl×Int→Option S):iX k f i b ret=ret (be f i b):=by
 have hlo:=Bg (i:=i) (b:=b) (r:=f) (h:=[]) (fun d hd=>by cases hd)
 simp only [List.length_nil] at hlo
 have hfold: ∀ (g:List Cl×Int→Option S),rQ k f [] i b g=g (bk (c7 i b) [] f):=fun g=>by
  simp only [rQ,zd]
  exact PN hk g hi hb hf (by omega) f [] k [] rfl (by have:4294967296≤k:=hk;omega) (by simp;omega)
 simp only [iX,GX,aj hk,yq hk (l:=[f]) (by simpa using ⟨hf,by omega⟩) (by simp),n8,za,hfold,it hk hlo.1 (show _<2147483648 by omega)]
 have e:[f].all bA=bA f:=by simp
 unfold be
 cases hr:bA f with
 |true=>
  rw [e,hr,if_pos rfl,if_pos rfl]
  rw [show ((0:Int)==0)=true from rfl,Bool.not_true,ad,bO]
  by_cases h0:(bk (c7 i b) [] f).2=0
  ·rw [decide_eq_true h0,if_pos h0];exact ad _ _
  ·rw [decide_eq_false h0,if_neg h0];exact ag _ _
 |false=>
  have e1: ∀ (x y:List Cl×Int),(if false=true then x else y)=y:=fun x y=>if_neg (by decide)
  rw [e,hr,if_neg (by decide),e1];exact ag _ _
theorem fg {f:List Cl} {i b:Int} (h:(be f i b).2=0):RF (be f i b).1:=by
 unfold be at h ⊢
 split
 ·next hr=>
  rw [if_pos hr] at h
  split
  ·next h0=>
   rw [if_pos h0] at h
   exact mw (Bg fun d hd=>by cases hd).1 h
  ·next h0=>rw [if_neg h0] at h;exact absurd h h0
 ·next hr=>rw [if_neg hr] at h;exact absurd h (by decide)
end Go.Proofs.YtapmagaejigpnaaGreatDoor
namespace Go.Proofs.YtapmagaejigpnaaGreatDoor
open Go PI
set_option linter.unusedVariables false
set_option linter.unusedSimpArgs false
set_option maxRecDepth 20000
variable {S:Type} {k:Nat}
def pd (s:Nat) (f:List Cl):Nat:=f.foldl (fun s c=>s|||(c.pos.toNat|||c.neg.toNat)) s
def dC (f:List Cl):Nat:=pd 0 f&&&M24
def dU (f:List Cl):Int:=((dC f:Nat):Int)
def iD (f:List Cl) (i:Nat):Bool:=f.any fun c=>c.pos.toNat.testBit i||c.neg.toNat.testBit i
theorem RJ (i:Nat): ∀ {f:List Cl} {s:Nat},(pd s f).testBit i=(s.testBit i||iD f i):=by
 intro f
 induction f with
 |nil=>intro s;simp [pd,iD]
 |cons c f ih=>
  intro s
  show (pd (s|||(c.pos.toNat|||c.neg.toNat)) f).testBit i=_
  rw [ih,Nat.testBit_or,Nat.testBit_or,Bool.or_assoc];simp [iD]
theorem sg (f:List Cl) (i:Nat):(dC f).testBit i=(iD f i&&decide (i<24)):=by
 rw [dC,Nat.testBit_and,iN,RJ,Nat.zero_testBit,Bool.false_or]
theorem Az (f:List Cl):dC f<16777216:=Nat.lt_of_le_of_lt Nat.and_le_right (by decide)
theorem Px (hk:Fu k) (ret:Int→Option S) {l:List Cl} (hl:al l) (hlen:l.length<4294967296):
  ∀ (r p:List Cl) (m:Nat) (s:Nat),l=p++r→r.length<m→s<4294967296→l7 k ret l m (s:Int) (p.length:Int)=ret (((pd s r&&&M24:Nat):Int)):=by
 intro r
 induction r with
 |nil=>
  intro p m s e hm hs
  obtain ⟨m,rfl,hm'⟩:=am hm
  simp only [l7,qy,aU e,ad,aj hk,pG hk (U32.of hs)]
  unfold dy
  rw [if_neg (by omega)];rfl
 |cons x r ih=>
  intro p m s e hm hs
  obtain ⟨m,rfl,hm'⟩:=am hm
  obtain ⟨e1,e2,e3,e4⟩:=aS e (by omega)
  have hx:a_ x:=hl x (by rw [e];simp)
  have ho:U32 (fi x.pos x.neg):=xm hx.1 hx.2
  have hq:s|||(x.pos.toNat|||x.neg.toNat)<4294967296:=by
   have h1:=hx.1.1;have h2:=hx.1.2;have h3:=hx.2.1;have h4:=hx.2.2
   have h32:(2:Nat)^32=4294967296:=by decide
   exact Nat.or_lt_two_pow (n:=32) hs (Nat.or_lt_two_pow (n:=32) (by omega) (by omega))
  have es:fi (s:Int) (fi x.pos x.neg)=((s|||(x.pos.toNat|||x.neg.toNat):Nat):Int):=by simp [fi]
  simp only [l7,qy,e1,ag,e2,Option.bind_some,tl hx.1 hx.2,tl (U32.of hs) ho,e3,es]
  exact ih (p++[x]) m _ e4 hm' hq
theorem t6 (hk:Fu k) {f:List Cl} (hf:al f) (hlen:f.length<4294967296) (ret:Int→Option S):j6 k f ret=ret (dU f):=by
 simp only [j6,y9]
 exact Px hk ret hf hlen f [] k 0 rfl (by have:4294967296≤k:=hk;omega) (by decide)
def bX (f:List Cl) (d:Int):Bool:=decide (∀i∈dA (dC f),(i:Int)<d)
theorem FZ (hk:Fu k) {f:List Cl} {d:Int} (hf:al f) (hlen:f.length<4294967296) (hd:0≤d) (hd':d<9223372036854775808) (ret:Bool→Option S):i_ k f d ret=ret (bX f d):=by
 simp only [i_,Hz,b9,aj hk,t6 hk hf hlen]
 by_cases h:d≥24
 ·rw [if_pos h];congr 1
  rw [bX,eq_comm,decide_eq_true_eq]
  intro i hi;have:=(mem_bitsN.1 hi).1;omega
 ·rw [if_neg h]
  obtain ⟨n,rfl⟩: ∃n:Nat,d=n:=⟨d.toNat,by omega⟩
  rw [eX n (by omega),LR (by omega),Int.toNat_natCast,Nat.min_eq_left (by omega)]
  congr 1
  rw [dU,wd,bX,Bool.eq_iff_iff]
  simp only [beq_iff_eq,decide_eq_true_eq]
  have hdiv:(dC f/2^n=0)↔dC f<2^n:=Nat.div_eq_zero_iff_lt (Nat.two_pow_pos n)
  constructor
  ·intro h0 i hi
   have h1:=mem_bitsN.1 hi
   apply Classical.byContradiction
   intro h2
   have:dC f<2^i:=Nat.lt_of_lt_of_le (hdiv.1 (by omega)) (Nat.pow_le_pow_right (by decide) (by omega))
   rw [Nat.testBit_lt_two_pow this] at h1;cases h1.2
  ·intro h0
   have:dC f<2^n:=by
    apply Nat.lt_pow_two_of_testBit
    intro j hj
    cases hb:(dC f).testBit j with
    |false=>rfl
    |true=>have:=h0 j (mem_bitsN.2 ⟨iP (Az f) hb,hb⟩);omega
   have:=hdiv.2 this
   omega
end Go.Proofs.YtapmagaejigpnaaGreatDoor
namespace Go.Proofs.YtapmagaejigpnaaGreatDoor
open Go PI
set_option linter.unusedVariables false
set_option linter.unusedSimpArgs false
set_option maxRecDepth 20000
variable {S:Type} {k:Nat}
def lg (c:Cl):Bool:= !b_ c
def cP (l:List Cl):List Cl:=l.filter lg
def bB (f:List Cl):Bool:=bA f&&f.all fun c=> !b_ c
def RFa (f:List Cl):Prop:=RF f∧ ∀c∈f,b_ c=false
theorem eu {f:List Cl} (h:al f):bB f=true↔RFa f:=by
 unfold bB RFa
 rw [Bool.and_eq_true,gM h,List.all_eq_true]
 simp
theorem RFa.right {f:List Cl} (h:RFa f):bB f=true:=(eu h.1.2).2 h
theorem qZ {l:List Cl} {c:Cl} (h:c∈cP l):c∈l∧b_ c=false:=by
 have:=List.mem_filter.1 h
 refine ⟨this.1, ?_⟩
 have h2:=this.2
 unfold lg at h2
 simpa using h2
theorem Aj {l:List Cl} (h:al l):al (cP l):=fun c hc=>h c (qZ hc).1
theorem BX {l:List Cl} (hl:al l) (hc: ∀c∈l,b_ c=false) (h:(bu l).2=0):RFa (bu l).1:=by
 refine ⟨mw hl h,fun c hcm=> ?_⟩
 have h':bu l=((bu l).1,0):=Prod.ext rfl h
 rw [(kz h').1] at hcm
 exact hc c (mem_mins.1 hcm).1
theorem E8:RFa []:=⟨pw,fun c hc=>by cases hc⟩
theorem E9 {c:Cl} (h:RC c) (h':b_ c=false):RFa [c]:=⟨fw h,fun d hd=>by simp at hd;subst hd;exact h'⟩
theorem Ai (l:List Cl):(cP l).length≤l.length:=List.length_filter_le _ _
theorem Pt (hk:Fu k) (ret:Int→Option S) {l:List Cl} (hl:al l) (hlen:l.length<2147483648):
  ∀ (r p:List Cl) (m:Nat),l=p++r→r.length<m→ ∃v:Int,decide (v≥0)=r.any b_∧ml k ret l m (p.length:Int)=ret v:=by
 intro r
 induction r with
 |nil=>
  intro p m h hm
  obtain ⟨m,rfl,hm'⟩:=am hm
  exact ⟨-1,rfl,by simp only [ml,qQ,aU h,ad]⟩
 |cons x r ih=>
  intro p m h hm
  obtain ⟨m,rfl,hm'⟩:=am hm
  obtain ⟨e1,e2,e3,e4⟩:=aS h (by omega)
  have hx:a_ x:=hl x (by rw [h];simp)
  obtain ⟨v,hv,hr⟩:=ih (p++[x]) m e4 hm'
  simp only [ml,qQ,e1,ag,e2,Option.bind_some,aj hk,FI hk hx,e3,hr,List.any_cons]
  cases hb:b_ x with
  |true=>exact ⟨(p.length:Int),by simp,by rw [ag]⟩
  |false=>exact ⟨v,by rw [hv];rfl,by rw [ad]⟩
theorem Ll (f:List Cl):(!f.any b_)=f.all fun c=> !b_ c:=by
 induction f with
 |nil=>rfl
 |cons c f ih=>rw [List.any_cons,List.all_cons,Bool.not_or,ih]
theorem pJ (hk:Fu k) {f:List Cl} (hf:al f) (hlen:f.length<2147483648) (ret:Bool→Option S):iW k f ret=ret (bB f):=by
 obtain ⟨v,hv,hr⟩:=Pt hk (fun r1:Int=>(fun r2:Bool=>ret (!r2)) (decide (r1≥0))) hf hlen f [] k rfl (by have:4294967296≤k:=hk;omega)
 simp only [iW,GR,aj hk,m6 hk hf hlen,vQ,Ho,vS,zr]
 unfold bB
 cases bA f with
 |true=>
  rw [ag,Bool.true_and,←Ll]
  refine hr.trans ?_
  simp only [hv]
 |false=>rw [ad,Bool.false_and]
theorem PL (hk:Fu k) (ret:Int→Option S) {l:List (List Cl)} (hl: ∀f∈l,al f∧f.length<2147483648) (hlen:l.length<4294967296):
  ∀ (r p:List (List Cl)) (m:Nat),l=p++r→r.length<m→l6 k ret l m (p.length:Int)=ret (if r.all bB then 0 else 2):=by
 intro r
 induction r with
 |nil=>
  intro p m h hm
  obtain ⟨m,rfl,hm'⟩:=am hm
  simp only [l6,qx,aU h,ad];rfl
 |cons x r ih=>
  intro p m h hm
  obtain ⟨m,rfl,hm'⟩:=am hm
  obtain ⟨e1,e2,e3,e4⟩:=aS h (by omega)
  have hx:=hl x (by rw [h];simp)
  simp only [l6,qx,e1,ag,e2,Option.bind_some,aj hk,pJ hk hx.1 hx.2,e3,ih (p++[x]) m e4 hm']
  by_cases hr:bB x=true
  ·have:(x::r).all bB=r.all bB:=by rw [List.all_cons,hr,Bool.true_and]
   rw [hr,Bool.not_true,ad,this]
  ·rw [Bool.not_eq_true] at hr
   have:(x::r).all bB=false:=by rw [List.all_cons,hr,Bool.false_and]
   rw [hr,Bool.not_false,ag,this,if_neg (by decide)]
theorem Tp (hk:Fu k) {l:List (List Cl)} (hl: ∀f∈l,al f∧f.length<2147483648) (hlen:l.length<4294967296) (ret:Int→Option S):rL k l ret=ret (if l.all bB then 0 else 2):=by
 simp only [rL,y8]
 exact PL hk ret hl hlen l [] k rfl (by have:4294967296≤k:=hk;omega)
def ky (l:List Cl):List Cl×Int:=bu (cP l)
def fW (f:List Cl):List Cl×Int:=if bA f then ky f else ([],2)
def gG (f:List Cl):List Cl×Int:=if bA f then if (c_ f).2=0 then ky (c_ f).1 else ([],(c_ f).2) else ([],2)
theorem wJ {l:List Cl} (hl:al l) (h:(ky l).2=0):RFa (ky l).1:=BX (Aj hl) (fun c hc=>(qZ hc).2) h
theorem De {f:List Cl} (h:(fW f).2=0) (hf:al f):RFa (fW f).1:=by
 unfold fW at h ⊢
 split
 ·next hr=>rw [if_pos hr] at h;exact wJ hf h
 ·next hr=>rw [if_neg hr] at h;exact absurd h (by decide)
theorem Df {f:List Cl} (h:(gG f).2=0) (hf:al f):RFa (gG f).1:=by
 unfold gG at h ⊢
 split
 ·next hr=>
  rw [if_pos hr] at h
  split
  ·next h0=>rw [if_pos h0] at h;exact wJ (o_ h0).2 h
  ·next h0=>rw [if_neg h0] at h;exact absurd h h0
 ·next hr=>rw [if_neg hr] at h;exact absurd h (by decide)
theorem FO (hk:Fu k) {c:Cl} (hc:a_ c) (ret:Cl×Bool→Option S):n4 k c ret=ret (c,lg c):=by
 simp only [n4,GS,aj hk,FI hk hc];rfl
theorem PT (hk:Fu k) (ret:List Cl→Option S) {l:List Cl} (hl:al l) (hlen:l.length<2147483648):
  ∀ (r p:List Cl) (m:Nat) (o:List Cl),l=p++r→r.length<m→o.length+r.length<4294967296→lY k ret l m (p.length:Int) o=ret (o++cP r):=by
 intro r
 induction r with
 |nil=>
  intro p m o h hm ho
  obtain ⟨m,rfl,hm'⟩:=am hm
  simp only [lY,qv,aU h,ad,cP,List.filter_nil,List.append_nil]
 |cons x r ih=>
  intro p m o h hm ho
  obtain ⟨m,rfl,hm'⟩:=am hm
  obtain ⟨e1,e2,e3,e4⟩:=aS h (by omega)
  have hx:a_ x:=hl x (by rw [h];simp)
  simp only [List.length_cons] at ho
  simp only [lY,qv,e1,ag,e2,Option.bind_some,aj hk,FO hk hx,e3]
  cases hb:lg x with
  |true=>
   rw [ag,bM (by simp;omega),ih (p++[x]) m (o++[x]) e4 hm' (by simp;omega)]
   unfold cP
   rw [List.filter_cons_of_pos hb,List.append_assoc];rfl
  |false=>
   rw [ad,ih (p++[x]) m o e4 hm' (by omega)]
   unfold cP
   rw [List.filter_cons_of_neg (by rw [hb];decide)]
theorem Tr (hk:Fu k) {l:List Cl} (hl:al l) (hlen:l.length<2147483648) (ret:List Cl→Option S):rJ k l ret=ret (cP l):=by
 simp only [rJ,y6]
 have:=PT hk ret hl hlen l [] k [] rfl (by have:4294967296≤k:=hk;omega) (by simp;omega)
 simpa using this
theorem FP (hk:Fu k) {f:List Cl} (hf:al f) (hlen:f.length<2147483648) (ret:List Cl×Int→Option S):n1 k f ret=ret (fW f):=by
 have:=Ai f
 simp only [n1,GP,aj hk,m6 hk hf hlen,Tr hk hf hlen,it hk (Aj hf) (show (cP f).length<2147483648 by omega)]
 unfold fW
 cases bA f with
 |true=>rw [Bool.not_true,ad,if_pos rfl];rfl
 |false=>rw [Bool.not_false,ag,if_neg (by decide)]
theorem Tk (hk:Fu k) {f:List Cl} (hf:al f) (hlen:f.length<2147483648) (ret:List Cl×Int→Option S):rF k f ret=ret (gG f):=by
 simp only [rF,GQ,aj hk,Tg hk hf hlen,bO]
 unfold gG
 cases bA f with
 |true=>
  rw [if_pos rfl,if_pos rfl]
  by_cases h0:(c_ f).2=0
  ·have hr:=o_ h0
   rw [decide_eq_true h0,Bool.not_true,ad,if_pos h0,FP hk hr.2 hr.lt]
   unfold fW
   rw [if_pos hr.right]
  ·rw [decide_eq_false h0,Bool.not_false,ag,if_neg h0]
 |false=>
  have e1: ∀ (x y:List Cl×Int),(if false=true then x else y)=y:=fun x y=>if_neg (by decide)
  rw [e1,e1];exact ag _ _
def ik (f g:List Cl):List Cl×Int:=ky (meets f g)
def dF (f g:List Cl):List Cl×Int:=if bB f&&bB g then dm f g else ([],2)
theorem FQ (hk:Fu k) {f g:List Cl} (hf:al f) (hg:al g) (h1:f.length<1073741824) (h2:g.length<1073741824) (ret:List Cl×Int→Option S):n5 k f g ret=ret (dm f g):=by
 simp only [n5,GU,aj hk,List.nil_append]
 rw [bM (by simp;omega),bM (by omega),it hk (gH hf hg) (by rw [List.length_append];omega)]
 rfl
theorem Ti (hk:Fu k) {f g:List Cl} (hf:al f) (hg:al g) (h1:f.length<1073741824) (h2:g.length<1073741824) (ret:List Cl×Int→Option S):rE k f g ret=ret (dF f g):=by
 simp only [rE,GO,aj hk,Tp hk (l:=[f,g]) (by simpa using ⟨⟨hf,by omega⟩,hg,by omega⟩) (by simp),FQ hk hf hg h1 h2]
 have e:[f,g].all bB=(bB f&&bB g):=by simp
 unfold dF
 rw [e]
 cases (bB f&&bB g) with
 |true=>rw [if_pos rfl,if_pos rfl];exact ad _ _
 |false=>
  rw [if_neg (by decide),if_neg (by decide)];exact ag _ _
theorem sS {f g:List Cl} (hf:RFa f) (hg:RFa g) (h:(dm f g).2=0):RFa (dm f g).1:=
 BX (gH hf.1.2 hg.1.2) (fun c hc=>by
  rcases List.mem_append.1 hc with h|h
  ·exact hf.2 c h
  ·exact hg.2 c h) h
theorem Tj (hk:Fu k) {b c:Cl} (hb:a_ b) (hc:a_ c) (ret:Cl×Bool→Option S):rK k b c ret=ret (di c b,lg (di c b)):=by
 simp only [rK,GV,aj hk,yp hk hc hb,FO hk (te hc hb)]
theorem PW (hk:Fu k) (ret:List Cl→Option S) {c:Cl} (hc:a_ c) {l:List Cl} (hl:al l) (hlen:l.length<2147483648):
  ∀ (r p:List Cl) (m:Nat) (o:List Cl),l=p++r→r.length<m→o.length+r.length<4294967296→lX k ret c l m (p.length:Int) o=ret (o++cP (r.map (di c))):=by
 intro r
 induction r with
 |nil=>
  intro p m o h hm ho
  obtain ⟨m,rfl,hm'⟩:=am hm
  simp only [lX,qu,aU h,ad,List.map_nil,cP,List.filter_nil,List.append_nil]
 |cons x r ih=>
  intro p m o h hm ho
  obtain ⟨m,rfl,hm'⟩:=am hm
  obtain ⟨e1,e2,e3,e4⟩:=aS h (by omega)
  have hx:a_ x:=hl x (by rw [h];simp)
  simp only [List.length_cons] at ho
  simp only [lX,qu,e1,ag,e2,Option.bind_some,aj hk,Tj hk hx hc,e3]
  cases hb:lg (di c x) with
  |true=>
   rw [ag,bM (by simp;omega),ih (p++[x]) m (o++[di c x]) e4 hm' (by simp;omega)]
   unfold cP
   rw [List.map_cons,List.filter_cons_of_pos hb,List.append_assoc];rfl
  |false=>
   rw [ad,ih (p++[x]) m o e4 hm' (by omega)]
   unfold cP
   rw [List.map_cons,List.filter_cons_of_neg (by rw [hb];decide)]
theorem Ts (hk:Fu k) {c:Cl} (hc:a_ c) {l:List Cl} (hl:al l) (hlen:l.length<2147483648) (ret:List Cl→Option S):rI k l c ret=ret (cP (l.map (di c))):=by
 simp only [rI,yZ]
 have:=PW hk ret hc hl hlen l [] k [] rfl (by have:4294967296≤k:=hk;omega) (by simp;omega)
 simpa using this
theorem PJ (hk:Fu k) (ret:List Cl×Int→Option S) {g f:List Cl} (hf:al f) (hg:al g) (hlf:f.length<32768) (hlg:g.length<32768):
  ∀ (r p:List Cl) (m:Nat) (o:List Cl),f=p++r→r.length<m→al o→o.length+r.length*g.length<1073741825→lZ k ret g f m (p.length:Int) o=ret (bu (o++cP (meets r g))):=by
 intro r
 induction r with
 |nil=>
  intro p m o h hm hok ho
  obtain ⟨m,rfl,hm'⟩:=am hm
  simp only [lZ,qw,aU h,ad,aj hk]
  rw [it hk hok (by omega)]
  simp [meets,cP]
 |cons x r ih=>
  intro p m o h hm hok ho
  obtain ⟨m,rfl,hm'⟩:=am hm
  obtain ⟨e1,e2,e3,e4⟩:=aS h (by omega)
  have hx:a_ x:=hf x (by rw [h];simp)
  have hmul:(x::r).length*g.length=r.length*g.length+g.length:=by rw [List.length_cons,Nat.succ_mul]
  rw [hmul] at ho
  have hcl:=Ai (g.map (di x))
  rw [List.length_map] at hcl
  simp only [lZ,qw,e1,ag,e2,Option.bind_some,aj hk,Ts hk hx hg (show g.length<2147483648 by omega),e3]
  rw [bM (by omega),ih (p++[x]) m _ e4 hm' (gH hok fun c hc=>by
   obtain ⟨b,hb,rfl⟩:=List.mem_map.1 (qZ hc).1
   exact te hx (hg b hb)) (by rw [List.length_append];omega)]
  have:cP (meets (x::r) g)=cP (g.map (di x))++cP (meets r g):=by simp [meets,cP]
  rw [this,List.append_assoc]
theorem To (hk:Fu k) {f g:List Cl} (hf:al f) (hg:al g) (h1:f.length<32768) (h2:g.length<32768) (ret:List Cl×Int→Option S):lu k f g ret=ret (ik f g):=by
 simp only [lu,y7]
 have hb:f.length*g.length<1073741824:=Nat.lt_of_le_of_lt (Nat.mul_le_mul (Nat.le_of_lt_succ h1) (Nat.le_of_lt_succ h2)) (by decide)
 have:=PJ hk ret hf hg h1 h2 f [] k [] rfl (by have:4294967296≤k:=hk;omega) (fun c hc=>by cases hc) (by simp;omega)
 simpa [ik,ky] using this
theorem w_ {f g:List Cl} (hf:al f) (hg:al g) (h:(ik f g).2=0):RFa (ik f g).1:=wJ (C5 hf hg) h
theorem H1 {s i:Int} {j:Nat} (h:(dy s i).toNat.testBit j=true):s.toNat.testBit j=true:=by
 unfold dy at h
 split at h
 ·rw [Int.toNat_natCast,mB,Nat.testBit_and,Bool.and_eq_true,Bool.and_eq_true] at h;exact h.1.1
 ·rw [Int.toNat_natCast,Nat.testBit_and,Bool.and_eq_true] at h;exact h.1
theorem calm_bits {c:Cl}:b_ c=false↔ ∀j,¬ (c.pos.toNat.testBit j=true∧c.neg.toNat.testBit j=true):=by
 unfold b_
 rw [Bool.not_eq_false',decide_eq_true_eq]
 constructor
 ·intro h j ⟨h1,h2⟩
  have:(c.pos.toNat&&&c.neg.toNat).testBit j=true:=by rw [Nat.testBit_and,h1,h2];rfl
  rw [h,Nat.zero_testBit] at this;cases this
 ·intro h
  apply Nat.eq_of_testBit_eq
  intro j
  rw [Nat.zero_testBit,Nat.testBit_and]
  cases h1:c.pos.toNat.testBit j with
  |false=>rfl
  |true=>
   cases h2:c.neg.toNat.testBit j with
   |false=>rfl
   |true=>exact absurd ⟨h1,h2⟩ (h j)
theorem Bm {c:Cl} {i:Int} (h:b_ c=false):b_ (cS i c)=false:=by
 rw [calm_bits] at h ⊢
 exact fun j ⟨h1,h2⟩=>h j ⟨H1 h1,H1 h2⟩
def eN (i:Int) (c:Cl) (h:List Cl) (q:List Cl×Int):List Cl×Int:=
 if q.2=0 then if (ik [cS i c] q.1).2=0 then dm h (ik [cS i c] q.1).1 else ([],(ik [cS i c] q.1).2) else ([],q.2)
def dI (i:Int) (r h:List Cl) (c:Cl):List Cl×Int:=
 if dw c.pos i then eN i c h (fW r) else if dw c.neg i then eN i c h (gG r) else dm h [cS i c]
def fj (f:List Cl) (i:Int) (r:List Cl):List Cl×Int:=if bB f&&bA r&&lG i then bk (dI i r) [] f else ([],2)
theorem Dr {i:Int} {c:Cl} {h:List Cl} {q:List Cl×Int} (hh:RFa h) (hq:q.2=0→RFa q.1) (h0:(eN i c h q).2=0):RFa (eN i c h q).1:=by
 unfold eN at h0 ⊢
 split
 ·next h1=>
  rw [if_pos h1] at h0
  split
  ·next h2=>rw [if_pos h2] at h0;exact sS hh (w_ (fw (lO i c)).2 (hq h1).1.2 h2) h0
  ·next h2=>rw [if_neg h2] at h0;exact absurd h0 h2
 ·next h1=>rw [if_neg h1] at h0;exact absurd h0 h1
theorem RW {i:Int} {r h:List Cl} {c:Cl} (hr:RF r) (hh:RFa h) (hc:b_ c=false) (h0:(dI i r h c).2=0):RFa (dI i r h c).1:=by
 unfold dI at h0 ⊢
 split
 ·next h1=>rw [if_pos h1] at h0;exact Dr hh (fun h=>De h hr.2) h0
 ·next h1=>
  rw [if_neg h1] at h0
  split
  ·next h2=>rw [if_pos h2] at h0;exact Dr hh (fun h=>Df h hr.2) h0
  ·next h2=>rw [if_neg h2] at h0;exact sS hh (E9 (lO i c) (Bm hc)) h0
theorem NV {i:Int} {r:List Cl} (hr:RF r): ∀ {l h:List Cl},(∀c∈l,b_ c=false)→RFa h→(bk (dI i r) h l).2=0→RFa (bk (dI i r) h l).1:=by
 intro l
 induction l with
 |nil=>intro h _ hh _;exact hh
 |cons c l ih=>
  intro h hl hh h0
  unfold bk at h0 ⊢
  split
  ·next h1=>
   rw [if_pos h1] at h0
   exact ih (fun d hd=>hl d (by simp [hd])) (RW hr hh (hl c (by simp)) h1) h0
  ·next h1=>rw [if_neg h1] at h0;exact absurd h0 h1
theorem Ds {f r:List Cl} {i:Int} (hf:al f) (hr:al r) (h:(fj f i r).2=0):RFa (fj f i r).1:=by
 unfold fj at h ⊢
 split
 ·next hc=>
  rw [if_pos hc] at h
  simp only [Bool.and_eq_true] at hc
  exact NV ((gM hr).1 hc.1.2) ((eu hf).1 hc.1.1).2 E8 h
 ·next hc=>rw [if_neg hc] at h;exact absurd h (by decide)
theorem NJ (hk:Fu k) (ret:List Cl×Int→Option S) (rec0:Int→List Cl→Option S) (i:Int) (r f:List Cl) {h:List Cl} {v:Int} {g:List Cl} {e:Int} (hh:RF h) (hg:e=0→RF g):
  lW k ret rec0 i r f v h k g e=if e=0 then if (dm h g).2=0 then rec0 (IntKind.wrap .i64 (v+1)) (dm h g).1 else ret ([],(dm h g).2) else ret ([],e):=by
 obtain ⟨q,hq⟩: ∃q,k=q+1:=⟨k-1,by have:4294967296≤k:=hk;omega⟩
 have: ∀j,j=q+1→lW k ret rec0 i r f v h j g e=qr k ret i r f v h rec0 g e:=by rintro j rfl;rfl
 rw [this k hq]
 simp only [qr,bO]
 by_cases h0:e=0
 ·have l1:=hh.len;have l2:=(hg h0).len
  rw [decide_eq_true h0,ag,if_pos h0,aj hk,FQ hk hh.2 (hg h0).2 (by omega) (by omega)]
  by_cases h1:(dm h g).2=0
  ·rw [decide_eq_true h1,if_pos h1];exact ad _ _
  ·rw [decide_eq_false h1,if_neg h1];exact ag _ _
 ·rw [decide_eq_false h0,ad,if_neg h0];exact ag _ _
theorem PK (hk:Fu k) (ret:List Cl×Int→Option S) {i:Int} {q:List Cl} (hq:RF q) {l:List Cl} (hl:al l) (hc: ∀c∈l,b_ c=false) (hlen:l.length<2147483648):
  ∀ (r p:List Cl) (m:Nat) (h:List Cl),l=p++r→r.length<m→RFa h→jr k ret i q l m (p.length:Int) h=ret (bk (dI i q) h r):=by
 intro r
 induction r with
 |nil=>
  intro p m h e hm hh
  obtain ⟨m,rfl,hm'⟩:=am hm
  simp only [jr,nu,aU e,ad];rfl
 |cons x r ih=>
  intro p m h e hm hh
  obtain ⟨m,rfl,hm'⟩:=am hm
  obtain ⟨e1,e2,e3,e4⟩:=aS e (by omega)
  have hx:a_ x:=hl x (by rw [e];simp)
  have hxc:b_ x=false:=hc x (by rw [e];simp)
  have hg:=E9 (lO i x) (Bm hxc)
  have key: ∀ (g:List Cl) (e:Int),(e=0→RFa g)→(dI i q h x=if e=0 then dm h g else ([],e))→lW k ret (jr k ret i q l m) i q l (p.length:Int) h k g e=ret (bk (dI i q) h (x::r)):=by
   intro g e hge hput
   rw [NJ hk _ _ _ _ _ hh.1 (fun h=>(hge h).1),bk,hput]
   by_cases h0:e=0
   ·rw [if_pos h0,if_pos h0]
    by_cases h1:(dm h g).2=0
    ·rw [if_pos h1,if_pos h1,e3]
     exact ih (p++[x]) m _ e4 hm' (sS hh (hge h0) h1)
    ·rw [if_neg h1,if_neg h1]
   ·rw [if_neg h0,if_neg h0,if_neg h0]
  have em: ∀ (s:List Cl),RF s→ ∀ (f:List Cl×Int→Option S),lu k [Cl.mk (dy x.pos i) (dy x.neg i)] s f=f (ik [cS i x] s):=fun s hs f=>To hk hg.1.2 hs.2 (by simp) (by have:=hs.len;omega) f
  simp only [jr,nu,e1,ag,e2,Option.bind_some,aj hk,pG hk hx.1,pG hk hx.2,mZ hk hx.1,mZ hk hx.2,FP hk hq.2 hq.lt,Tk hk hq.2 hq.lt,bO]
  cases hp:dw x.pos i with
  |true=>
   rw [ag]
   by_cases h1:(fW q).2=0
   ·have ho:=De h1 hq.2
    rw [decide_eq_true h1,ag,em _ ho.1]
    exact key _ _ (fun h0=>w_ hg.1.2 ho.1.2 h0) (by unfold dI eN;simp only [hp,h1,if_true])
   ·rw [decide_eq_false h1,ad]
    exact key _ _ (fun h0=>absurd h0 h1) (by unfold dI eN;simp only [hp,h1,if_true,if_false])
  |false=>
   rw [ad]
   cases hn:dw x.neg i with
   |true=>
    rw [ag]
    by_cases h1:(gG q).2=0
    ·have ho:=Df h1 hq.2
     rw [decide_eq_true h1,ag,em _ ho.1]
     exact key _ _ (fun h0=>w_ hg.1.2 ho.1.2 h0) (by unfold dI eN;simp only [hp,hn,h1,if_true,if_false,Bool.false_eq_true])
    ·rw [decide_eq_false h1,ad]
     exact key _ _ (fun h0=>absurd h0 h1) (by unfold dI eN;simp only [hp,hn,h1,if_true,if_false,Bool.false_eq_true])
   |false=>
    rw [ad]
    exact key [cS i x] 0 (fun _=>hg) (by unfold dI;simp only [hp,hn,if_true,if_false,Bool.false_eq_true])
theorem Tn (hk:Fu k) {f r:List Cl} {i:Int} (hf:al f) (hr:al r) (h1:f.length<2147483648) (h2:r.length<2147483648) (ret:List Cl×Int→Option S):rG k f i r ret=ret (fj f i r):=by
 simp only [rG,yY,aj hk,pJ hk hf h1,Te hk,m6 hk hr h2]
 unfold fj lG
 cases ha:bB f with
 |false=>rw [Bool.not_false,ag];rfl
 |true=>
  rw [Bool.not_true,ad]
  by_cases hd:0≤i∧i<24
  ·rw [decide_eq_true hd,Bool.not_true,ad]
   cases hb:bA r with
   |false=>rw [Bool.not_false,ag];rfl
   |true=>
    rw [Bool.not_true,ad]
    exact PK hk ret ((gM hr).1 hb) hf ((eu hf).1 ha).2 h1 f [] k [] rfl (by have:4294967296≤k:=hk;omega) E8
  ·rw [decide_eq_false hd,Bool.not_false,ag,Bool.and_false,if_neg (by decide)]
end Go.Proofs.YtapmagaejigpnaaGreatDoor
namespace Go.Proofs.YtapmagaejigpnaaGreatDoor
open Go PI
set_option linter.unusedVariables false
set_option linter.unusedSimpArgs false
mutual
def ax:Tm→Nat
 | .mk _ _ _ _ ks sys=>1+ar ks+ay sys
def ar:List Tm→Nat
 |[]=>0
 |t::l=>ax t+ar l
def ay:List (Br Tm)→Nat
 |[]=>0
 |b::l=>f_ b+ay l
def f_:Br Tm→Nat
 | .mk _ ks=>ar ks
end
mutual
def aq:Tm→Nat
 | .mk _ _ _ _ ks sys=>max (aJ ks) (ba sys)+1
def aJ:List Tm→Nat
 |[]=>0
 |t::l=>max (aq t) (aJ l)
def ba:List (Br Tm)→Nat
 |[]=>0
 |b::l=>max (g0 b) (ba l)
def g0:Br Tm→Nat
 | .mk _ ks=>aJ ks
end
theorem jH (b:Br Tm):f_ b=ar b.kids:=by cases b;rw [f_]
theorem om (b:Br Tm):g0 b=aJ b.kids:=by cases b;rw [g0]
theorem yC (t:Tm):1≤ax t:=by cases t;rw [ax];omega
theorem yB: ∀ {l:List Tm} {x:Tm},x∈l→ax x≤ar l:=by
 intro l
 induction l with
 |nil=>intro x h;cases h
 |cons t l ih=>
  intro x h
  rw [ar]
  rcases List.mem_cons.1 h with rfl|h
  ·omega
  ·have:=ih h;omega
theorem F_: ∀ {l:List (Br Tm)} {b:Br Tm},b∈l→ar b.kids≤ay l:=by
 intro l
 induction l with
 |nil=>intro x h;cases h
 |cons t l ih=>
  intro x h
  rw [ay,jH]
  rcases List.mem_cons.1 h with rfl|h
  ·omega
  ·have:=ih h;omega
theorem vU: ∀ {l:List Tm} {x:Tm},x∈l→aq x≤aJ l:=by
 intro l
 induction l with
 |nil=>intro x h;cases h
 |cons t l ih=>
  intro x h
  rw [aJ]
  rcases List.mem_cons.1 h with rfl|h
  ·omega
  ·have:=ih h;omega
theorem Aw: ∀ {l:List (Br Tm)} {b:Br Tm},b∈l→aJ b.kids≤ba l:=by
 intro l
 induction l with
 |nil=>intro x h;cases h
 |cons t l ih=>
  intro x h
  rw [ba,om]
  rcases List.mem_cons.1 h with rfl|h
  ·omega
  ·have:=ih h;omega
theorem eW {Q:Tm→Prop} (h: ∀kd n nm r ks sys,(∀x∈ks,Q x)→(∀b∈sys,∀x∈b.kids,Q x)→Q (.mk kd n nm r ks sys)) (t:Tm):Q t:=by
 have: ∀m t,ax t≤m→Q t:=by
  intro m
  induction m with
  |zero=>intro t ht;have:=yC t;omega
  |succ m ih=>
   intro t ht
   cases t with
   |mk kd n nm r ks sys=>
    rw [ax] at ht
    refine h _ _ _ _ _ _ (fun x hx=>ih x ?_) fun b hb x hx=>ih x ?_
    ·have:=yB hx;omega
    ·have:=F_ hb;have:=yB hx;omega
 exact this _ t (Nat.le_refl _)
def kidsT:List Int:=[-1,0,0,0,2,1,2,2,2,1,1,3,1,3,2,2,1,1,1,0,0,0,4,1,0,0,1,5,2]
def fO (kd:Int):Int:=if kd<0∨kd>28 then-1 else kidsT.getD kd.toNat 0
def dj (kd i:Int):Int:=if (i=1∧(kd=4∨kd=7))∨(i=0∧(kd=5∨kd=22∨kd=27)) then 1 else 0
def bj (kd i:Int):Int:=if i=0∧(kd=11∨kd=12∨kd=14) then 1 else 0
def dr (kd:Int):Int:=if kd=16 then 2 else if kd=15∨kd=17∨kd=18 then 1 else 0
def au (kd:Int):Int:=if kd=15 then 1 else 0
theorem vh (kd i:Int):0≤dj kd i∧dj kd i≤1:=by unfold dj;split<;>omega
theorem e7 (kd i:Int):0≤bj kd i∧bj kd i≤1:=by unfold bj;split<;>omega
theorem ei (kd:Int):0≤au kd∧au kd≤1:=by unfold au;split<;>omega
def jx (c:UInt8):Bool:=(decide (97≤c.toNat)&&decide (c.toNat≤122))||(decide (65≤c.toNat)&&decide (c.toNat≤90))||decide (c.toNat=95)
def oq (c:UInt8):Bool:=decide (48≤c.toNat)&&decide (c.toNat≤57)
def o0:List UInt8→Bool
 |[]=>false
 |c::l=>jx c&&l.all fun d=>jx d||oq d
def bJ (kd dims:Int) (b:Br Tm):Bool:=decide ((b.kids.length:Int)=dr kd)&&(bB b.face&&bX b.face dims)
def cJ (vars dims:Int):Tm→Bool
 | .mk kd n nm r ks sys=>
  (decide (fO kd=ks.length)&&(decide (kd=1∨n=0)&&(decide (kd=2∨nm.size=0)&&decide (dr kd=0→sys.length=0))))&&
  (if kd=1 then decide (r.length=0)&&(decide (0≤n)&&decide (vars<0∨n<vars))
   else if kd=2 then decide (r.length=0)&&o0 nm.data.toList
   else if kd=13∨kd=21∨kd=26 then bA r&&bX r dims
   else if kd=14 then bB r&&bX r dims
   else sys.all (bJ kd dims)&&decide (r.length=0))
def aW (vars v:Int):Int:=if vars<0 then vars else vars+v
mutual
def az (bd:Bool) (vars dims:Int):Tm→Bool
 | .mk kd n nm r ks sys=> !(bd&&decide (dims>24))&&(cJ vars dims (.mk kd n nm r ks sys)&&(bt bd vars dims kd 0 ks&&bg bd vars dims kd sys))
def bt (bd:Bool) (vars dims kd:Int) (i:Nat):List Tm→Bool
 |[]=>true
 |t::l=>az bd (aW vars (dj kd i)) (dims+bj kd i) t&&bt bd vars dims kd (i+1) l
def bg (bd:Bool) (vars dims kd:Int):List (Br Tm)→Bool
 |[]=>true
 |b::l=>eZ bd vars dims kd b&&bg bd vars dims kd l
def eZ (bd:Bool) (vars dims kd:Int):Br Tm→Bool
 | .mk _ ks=>b8 bd vars dims kd ks
def b8 (bd:Bool) (vars dims kd:Int):List Tm→Bool
 |[]=>true
 |t::l=>az bd vars (dims+au kd) t&&b8 bd vars dims kd l
end
def cr (t:Tm):Int:=if aq t>200 then 62 else if ax t>20000 then 221 else if az false (-1) 24 t then 0 else 100
mutual
def OkT:Tm→Prop
 | .mk kd n nm r ks sys=>(aA kd∧aA n∧nm.size<1073741824∧al r∧r.length<1073741824∧ks.length<1073741824∧sys.length<1073741824)∧aR ks∧aX sys
def aR:List Tm→Prop
 |[]=>True
 |t::l=>OkT t∧aR l
def aX:List (Br Tm)→Prop
 |[]=>True
 |b::l=>eY b∧aX l
def eY:Br Tm→Prop
 | .mk f ks=>(al f∧f.length<1073741824∧ks.length<1073741824)∧aR ks
end
theorem okK_iff: ∀ {l:List Tm},aR l↔ ∀t∈l,OkT t:=by
 intro l
 induction l with
 |nil=>rw [aR];simp
 |cons t l ih=>rw [aR,ih];simp
theorem kI {b:Br Tm}:eY b↔(al b.face∧b.face.length<1073741824∧b.kids.length<1073741824)∧ ∀t∈b.kids,OkT t:=by
 cases b;rw [eY,okK_iff]
theorem okS_iff: ∀ {l:List (Br Tm)},aX l↔ ∀b∈l,(al b.face∧b.face.length<1073741824∧b.kids.length<1073741824)∧ ∀t∈b.kids,OkT t:=by
 intro l
 induction l with
 |nil=>rw [aX];simp
 |cons t l ih=>rw [aX,ih,kI];simp
theorem OkT.node {kd n nm r ks sys} (h:OkT (.mk kd n nm r ks sys)):aA kd∧aA n∧nm.size<1073741824∧al r∧r.length<1073741824∧ks.length<1073741824∧sys.length<1073741824:=by rw [OkT] at h;exact h.1
theorem OkT.kid {kd n nm r ks sys x} (h:OkT (.mk kd n nm r ks sys)) (hx:x∈ks):OkT x:=by rw [OkT] at h;exact okK_iff.1 h.2.1 x hx
theorem OkT.br {kd n nm r ks sys b} (h:OkT (.mk kd n nm r ks sys)) (hb:b∈sys):(al b.face∧b.face.length<1073741824∧b.kids.length<1073741824)∧ ∀t∈b.kids,OkT t:=by rw [OkT] at h;exact okS_iff.1 h.2.2 b hb
theorem Le {bd:Bool} {vars dims kd:Int}: ∀ {l:List Tm},b8 bd vars dims kd l=l.all (az bd vars (dims+au kd)):=by
 intro l
 induction l with
 |nil=>rw [b8];rfl
 |cons t l ih=>rw [b8,ih];rfl
theorem la {bd:Bool} {vars dims kd:Int}: ∀ {l:List (Br Tm)},bg bd vars dims kd l=l.all fun b=>b.kids.all (az bd vars (dims+au kd)):=by
 intro l
 induction l with
 |nil=>rw [bg];rfl
 |cons b l ih=>cases b;rw [bg,ih,eZ,Le];rfl
end Go.Proofs.YtapmagaejigpnaaGreatDoor
namespace Go.Proofs.YtapmagaejigpnaaGreatDoor
open Go PI
set_option linter.unusedVariables false
set_option linter.unusedSimpArgs false
set_option maxRecDepth 100000
section
variable {H:Type} {enc:TypeId×Value→H} {w:World} {base:Nat} {spare:Nat→Bool} {held:Bool} {o:Obj} {N:aw} {g:Gh UU}
noncomputable abbrev gP (enc:TypeId×Value→H) (w:World) (base:Nat) (spare:Nat→Bool) (held:Bool):=DataW.trod enc Tryz.prog w base spare held
def kZ (o:Obj) (w:World) (N:aw) (g:Gh UU) (e:ET) (x:EL e) (cs:List Value):Prop:= ∀ (k:Nat) (p:PU),(cQ e x)[k]? =some p→ ∃v,cs[k]? =some v∧Rep (LL o) w N g v p
theorem vm {l:List (DataW H)}:l.length≤Rows.uptoBulkAll l:=by
 induction l with
 |nil=>simp [Rows.uptoBulkAll]
 |cons x r ih=>
  have:1≤Rows.uptoBulk x:=by
   cases x with
   |lit l=>cases l<;>simp [Rows.uptoBulk]
   |_=>simp [Rows.uptoBulk]
  simp only [Rows.uptoBulkAll,List.length_cons];omega
theorem build {α β:Type} {R:Nat→β→α→Prop}: ∀ (elems:List β) (s:Nat),(∀i d,elems[i]? =some d→ ∃x,R (s+i) d x)→ ∃l:List α,l.length=elems.length∧ ∀i d,elems[i]? =some d→ ∃x,l[i]? =some x∧R (s+i) d x:=by
 intro elems
 induction elems with
 |nil=>intro s h;exact ⟨[],rfl,fun i d h=>by simp at h⟩
 |cons d r ih=>
  intro s h
  obtain ⟨x,hx⟩:=h 0 d rfl
  obtain ⟨l,hl,hr⟩:=ih (s+1) fun i d' hd=>by
   obtain ⟨x,hx⟩:=h (i+1) d' (by simpa using hd)
   exact ⟨x,by rw [show s+1+i=s+(i+1) by omega];exact hx⟩
  refine ⟨x::l,by simp [hl],fun i d' hd=> ?_⟩
  cases i with
  |zero=>injection hd with hd;subst hd;exact ⟨x,rfl,hx⟩
  |succ i=>
   obtain ⟨y,hy,hr⟩:=hr i d' (by simpa using hd)
   exact ⟨y,by simpa using hy,by rw [show s+(i+1)=s+1+i by omega];exact hr⟩
theorem xk (hN: ∀b o,¬N b o) {e:ET} {tS tE:TypeId} (ht:Tryz.prog.underlying tS=some (.slice tE)) (hc:Tryz.prog.cellsOf tE=lM e) {Q:EL e→DataW H→Prop} {n:Nat} {cs:List Value} {d:DataW H} {pl:List MemPlace}
  (hel: ∀ (cs:List Value) (d:DataW H) (pl:List MemPlace),gP enc w base spare held n tE cs=some (d,pl)→ ∃x:EL e,kZ o w N g e x cs∧Q x d) (h:gP enc w base spare held (n+1) tS cs=some (d,pl)):
  ∃ (v:Value) (l:List (EL e)) (ds:List (DataW H)),cs=[v]∧Rep (LL o) w N g v (.sl (U:=UU) e l .none)∧l.length=ds.length∧(∀ (i:Nat) (x:EL e) (y:DataW H),l[i]? =some x→ds[i]? =some y→Q x y)∧Rows.uptoBulkAll ds+1≤Rows.uptoBulk d:=by
 rcases DataW.trod_slice ht h with ⟨rfl,hx⟩|⟨a,len,cap,elems,rest,m,hm,rfl,hx,hb,hl,hcp,hlen,hee,_,_⟩
 ·injection hx with hx _
  subst hx
  exact ⟨_,[],[],rfl,Rep.sl (X:=LL o) (N:=N) (g:=g) none 0 0 e (show List (EL e) from []) .none (fun _ _=>undef) rfl (Nat.le_refl _) trivial (fun j x hx=>by cases hx) (fun j x hx=>by cases hx),rfl,fun i x y h=>by simp at h,by simp [Rows.uptoBulkAll,Rows.uptoBulk]⟩
 ·obtain rfl:n=m:=by omega
  injection hx with hx _
  subst hx
  obtain ⟨l,hll,hlr⟩:=build (R:=fun i (y:DataW H×List MemPlace) (x:EL e)=> ∃cs',w.cells? base (a.add (i*Tryz.prog.cellsOf tE)) (Tryz.prog.cellsOf tE)=some cs'∧kZ o w N g e x cs'∧Q x y.1) elems 0 fun i y hy=>by
   have hi:i<len:=by rw [←hlen];exact (List.getElem?_eq_some_iff.1 hy).1
   have:=hee i hi
   rw [hy] at this
   obtain ⟨cs',h1,h2⟩:=Option.bind_eq_some_iff.1 this
   obtain ⟨x,hx1,hx2⟩:=hel cs' y.1 y.2 h2
   exact ⟨x,cs',by simpa using h1,hx1,hx2⟩
  have hget: ∀ (j:Nat) (x:EL e),l[j]? =some x→ ∃ (y:DataW H×List MemPlace) (cs':List Value),elems[j]? =some y∧w.cells? base (a.add (j*Tryz.prog.cellsOf tE)) (Tryz.prog.cellsOf tE)=some cs'∧kZ o w N g e x cs'∧Q x y.1:=fun j x hx=>by
   have hj:j<elems.length:=by rw [←hll];exact (List.getElem?_eq_some_iff.1 hx).1
   obtain ⟨x',hx',cs',h1,h2,h3⟩:=hlr j _ (List.getElem?_eq_getElem hj)
   rw [hx] at hx'
   injection hx' with hx'
   subst hx'
   exact ⟨_,cs',List.getElem?_eq_getElem hj,by simpa using h1,h2,h3⟩
  have hcell: ∀ (j:Nat) (x:EL e),l[j]? =some x→ ∀ (k:Nat) (p:PU),(cQ e x)[k]? =some p→ ∃v,w.cell? (a.add (j*(LL o).esize e+k))=some v∧Rep (LL o) w N g v p:=fun j x hx k p hp=>by
   obtain ⟨y,cs',_,h1,h2,_⟩:=hget j x hx
   obtain ⟨v,hv,hr⟩:=h2 k p hp
   obtain ⟨_,hl',hcs⟩:=World.cells?_some h1
   have hk:k<Tryz.prog.cellsOf tE:=by rw [←hl'];exact (List.getElem?_eq_some_iff.1 hv).1
   have:=hcs k hk
   rw [hv,Go.Deep.add_add,hc] at this
   exact ⟨v,this,hr⟩
  refine ⟨_,l,elems.map (·.1),rfl,Rep.sl (X:=LL o) (some a) len cap e l .none (fun j k=>(w.cell? (a.add (j*(LL o).esize e+k))).getD undef) (by rw [←hlen];exact hll) hl trivial (fun j x hx k p hp=> ?_) (fun j x hx k p hp=> ?_),by simpa using hll,fun i x y hx hy=> ?_,by simp [Rows.uptoBulk]⟩
  ·obtain ⟨v,hv,_⟩:=hcell j x hx k p hp
   exact ⟨a,rfl,by simp [hv],hN _ _⟩
  ·obtain ⟨v,hv,hr⟩:=hcell j x hx k p hp
   simp only [hv];exact hr
  ·obtain ⟨y',cs',h1,_,_,h3⟩:=hget i x hx
   have:y=y'.1:=by
    rw [List.getElem?_map,h1] at hy
    injection hy with hy;exact hy.symm
   subst this
   exact h3
theorem xj {n:Nat} {cs:List Value} {d:DataW H} {pl:List MemPlace} (h:gP enc w base spare held n 3 cs=some (d,pl)): ∃z,cs=[.int .i64 z]∧aA z:=by
 obtain ⟨z,rfl,_,hw⟩:=DataW.trod_int Tryz.underlying3 h
 refine ⟨z,rfl, ?_⟩
 simp [Lit.wf,IntKind.has] at hw
 have h1:IntKind.i64.min= -9223372036854775808:=rfl
 have h2:IntKind.i64.max=9223372036854775807:=rfl
 unfold aA
 omega
theorem Di {n:Nat} {cs:List Value} {d:DataW H} {pl:List MemPlace} (h:gP enc w base spare held n 55 cs=some (d,pl)): ∃z,cs=[.int .u32 z]∧U32 z:=by
 obtain ⟨z,rfl,_,hw⟩:=DataW.trod_int Tryz.underlying55 h
 refine ⟨z,rfl, ?_⟩
 simp [Lit.wf,IntKind.has] at hw
 have h1:IntKind.u32.min=0:=rfl
 have h2:IntKind.u32.max=4294967295:=rfl
 unfold U32
 omega
def QC (c:Cl) (d:DataW H):Prop:=a_ c
def QT (t:Tm) (d:DataW H):Prop:=ax t≤Rows.uptoBulk d∧(Rows.uptoBulk d<1073741824→OkT t)
def QB (b:Br Tm) (d:DataW H):Prop:=f_ b≤Rows.uptoBulk d∧(Rows.uptoBulk d<1073741824→(al b.face∧b.face.length<1073741824∧b.kids.length<1073741824)∧ ∀t∈b.kids,OkT t)
theorem RH {n:Nat} {cs:List Value} {d:DataW H} {pl:List MemPlace} (h:gP enc w base spare held n 61 cs=some (d,pl)): ∃x:EL ET.C,kZ o w N g ET.C x cs∧QC (show Cl from x) d:=by
 obtain ⟨xs,m,rfl,_,hl,hlen,hf⟩:=DataW.trod_struct Tryz.underlying61 h
 have hl2:cs.length=2:=hl.trans (by kernel_rfl)
 match cs,hl2,xs,hlen with
 |[a,b],_,[y0,y1],_=>
 have h0:=hf 0 _ rfl
 have h1:=hf 1 _ rfl
 have c55:Tryz.prog.cellsOf 55=1:=by kernel_rfl
 simp [c55] at h0 h1
 obtain ⟨z0,e0,k0⟩:=Di h0
 obtain ⟨z1,e1,k1⟩:=Di h1
 obtain rfl:a= .int .u32 z0:=by simpa using e0
 obtain rfl:b= .int .u32 z1:=by simpa using e1
 refine ⟨(⟨z0,z1⟩:Cl),fun k p hp=> ?_,⟨k0,k1⟩⟩
 match k,hp with
 |0,hp=>cases hp;exact ⟨_,rfl,.int _ _⟩
 |1,hp=>cases hp;exact ⟨_,rfl,.int _ _⟩
 |k+2,hp=>simp [cQ] at hp
theorem Ub {l:List Tm} {ds:List (DataW H)} (hl:l.length=ds.length) (h: ∀ (i:Nat) (x:Tm) (y:DataW H),l[i]? =some x→ds[i]? =some y→QT x y):ar l≤Rows.uptoBulkAll ds∧(Rows.uptoBulkAll ds<1073741824→ ∀t∈l,OkT t):=by
 induction l generalizing ds with
 |nil=>rw [ar];exact ⟨Nat.zero_le _,fun _ t ht=>by cases ht⟩
 |cons t l ih=>
  cases ds with
  |nil=>cases hl
  |cons d ds=>
   obtain ⟨h1,h2⟩:=h 0 t d rfl rfl
   obtain ⟨i1,i2⟩:=ih (ds:=ds) (by simpa using hl) fun i x y hx hy=>h (i+1) x y (by simpa using hx) (by simpa using hy)
   rw [ar,Rows.uptoBulkAll]
   refine ⟨by omega,fun hb u hu=> ?_⟩
   rcases List.mem_cons.1 hu with rfl|hu
   ·exact h2 (by omega)
   ·exact i2 (by omega) u hu
theorem Uc {l:List (Br Tm)} {ds:List (DataW H)} (hl:l.length=ds.length) (h: ∀ (i:Nat) (x:Br Tm) (y:DataW H),l[i]? =some x→ds[i]? =some y→QB x y):ay l≤Rows.uptoBulkAll ds∧(Rows.uptoBulkAll ds<1073741824→aX l):=by
 induction l generalizing ds with
 |nil=>rw [ay,aX];exact ⟨Nat.zero_le _,fun _=>trivial⟩
 |cons t l ih=>
  cases ds with
  |nil=>cases hl
  |cons d ds=>
   obtain ⟨h1,h2⟩:=h 0 t d rfl rfl
   obtain ⟨i1,i2⟩:=ih (ds:=ds) (by simpa using hl) fun i x y hx hy=>h (i+1) x y (by simpa using hx) (by simpa using hy)
   rw [ay,Rows.uptoBulkAll,aX,kI]
   exact ⟨by omega,fun hb=>⟨h2 (by omega),i2 (by omega)⟩⟩
theorem xh (hN: ∀b o,¬N b o) {n:Nat} {cs:List Value} {d:DataW H} {pl:List MemPlace} (h:gP enc w base spare held n 22 cs=some (d,pl)):
  ∃ (v:Value) (l:List Cl),cs=[v]∧Rep (LL o) w N g v (ck l .none)∧al l∧l.length+1≤Rows.uptoBulk d:=by
 cases n with
 |zero=>cases h
 |succ n=>
  obtain ⟨v,l,ds,rfl,hr,hl,hq,hb⟩:=xk (e:=ET.C) (Q:=fun x d=>QC (show Cl from x) d) hN Tryz.underlying22 (by kernel_rfl) (fun cs d pl h=>RH h) h
  refine ⟨v,l,rfl,hr,fun c hc=> ?_, ?_⟩
  ·obtain ⟨i,hi⟩:=List.getElem?_of_mem hc
   have hlt:i<ds.length:=by rw [←hl];exact (List.getElem?_eq_some_iff.1 hi).1
   exact hq i c _ hi (List.getElem?_eq_getElem hlt)
  ·have:=vm (l:=ds)
   have hl': @List.length Cl l=ds.length:=hl
   omega
theorem Dh (hN: ∀b o,¬N b o): ∀ (n:Nat),
  (∀ (cs:List Value) (d:DataW H) (pl:List MemPlace),gP enc w base spare held n 26 cs=some (d,pl)→ ∃x:EL ET.T,kZ o w N g ET.T x cs∧QT (show Tm from x) d)∧
  (∀ (cs:List Value) (d:DataW H) (pl:List MemPlace),gP enc w base spare held n 63 cs=some (d,pl)→ ∃x:EL ET.B,kZ o w N g ET.B x cs∧QB (show Br Tm from x) d)∧
  (∀ (cs:List Value) (d:DataW H) (pl:List MemPlace),gP enc w base spare held n 23 cs=some (d,pl)→ ∃ (v:Value) (l:List Tm),cs=[v]∧Rep (LL o) w N g v (gO l .none)∧ar l+1≤Rows.uptoBulk d∧l.length+1≤Rows.uptoBulk d∧(Rows.uptoBulk d<1073741824→ ∀t∈l,OkT t))∧
  (∀ (cs:List Value) (d:DataW H) (pl:List MemPlace),gP enc w base spare held n 24 cs=some (d,pl)→ ∃ (v:Value) (l:List (Br Tm)),cs=[v]∧Rep (LL o) w N g v (ez l .none)∧ay l+1≤Rows.uptoBulk d∧l.length+1≤Rows.uptoBulk d∧(Rows.uptoBulk d<1073741824→aX l)):=by
 intro n
 induction n with
 |zero=>exact ⟨fun cs d pl h=>(by cases h),fun cs d pl h=>(by cases h),fun cs d pl h=>(by cases h),fun cs d pl h=>(by cases h)⟩
 |succ n ih=>
 obtain ⟨iT,iB,iK,iS⟩:=ih
 have c3:Tryz.prog.cellsOf 3=1:=by kernel_rfl
 have c9:Tryz.prog.cellsOf 9=1:=by kernel_rfl
 have c22:Tryz.prog.cellsOf 22=1:=by kernel_rfl
 have c23:Tryz.prog.cellsOf 23=1:=by kernel_rfl
 have c24:Tryz.prog.cellsOf 24=1:=by kernel_rfl
 refine ⟨fun cs d pl h=> ?_,fun cs d pl h=> ?_,fun cs d pl h=> ?_,fun cs d pl h=> ?_⟩
 ·obtain ⟨xs,m,hm,hx,hl,hlen,hf⟩:=DataW.trod_struct Tryz.underlying26 h
  obtain rfl:n=m:=by omega
  injection hx with hx _
  subst hx
  have hl6:cs.length=6:=hl.trans (by kernel_rfl)
  match cs,hl6,xs,hlen with
  |[a0,a1,a2,a3,a4,a5],_,[y0,y1,y2,y3,y4,y5],_=>
  have h0:=hf 0 _ rfl
  have h1:=hf 1 _ rfl
  have h2:=hf 2 _ rfl
  have h3:=hf 3 _ rfl
  have h4:=hf 4 _ rfl
  have h5:=hf 5 _ rfl
  simp [c3,c9,c22,c23,c24] at h0 h1 h2 h3 h4 h5
  obtain ⟨z0,e0,k0⟩:=xj h0
  obtain ⟨z1,e1,k1⟩:=xj h1
  obtain ⟨s,e2,k2,_⟩:=DataW.trod_string Tryz.underlying9 h2
  obtain ⟨v3,l3,e3,r3,k3,m3⟩:=xh (o:=o) (g:=g) hN h3
  obtain ⟨v4,l4,e4,r4,k4,m4,q4⟩:=iK _ _ _ h4
  obtain ⟨v5,l5,e5,r5,k5,m5,q5⟩:=iS _ _ _ h5
  obtain rfl:a0= .int .i64 z0:=by simpa using e0
  obtain rfl:a1= .int .i64 z1:=by simpa using e1
  obtain rfl:a2= .string s:=by simpa using e2
  obtain rfl:a3=v3:=by simpa using e3
  obtain rfl:a4=v4:=by simpa using e4
  obtain rfl:a5=v5:=by simpa using e5
  have hs:s.size<Rows.uptoBulk y2.1:=by
   rw [k2]
   simp [Rows.uptoBulk]
  refine ⟨Tm.mk z0 z1 s l3 l4 l5,fun k p hp=> ?_, ?_,fun hb=> ?_⟩
  ·match k,hp with
   |0,hp=>cases hp;exact ⟨_,rfl,.int _ _⟩
   |1,hp=>cases hp;exact ⟨_,rfl,.int _ _⟩
   |2,hp=>cases hp;exact ⟨_,rfl,.str _⟩
   |3,hp=>cases hp;exact ⟨_,rfl,r3⟩
   |4,hp=>cases hp;exact ⟨_,rfl,r4⟩
   |5,hp=>cases hp;exact ⟨_,rfl,r5⟩
   |k+6,hp=>simp [cQ] at hp
  ·show ax _≤_
   rw [ax]
   simp only [List.map_cons,List.map_nil,Rows.uptoBulk,Rows.uptoBulkAll]
   omega
  ·simp only [List.map_cons,List.map_nil,Rows.uptoBulk,Rows.uptoBulkAll] at hb
   show OkT _
   rw [OkT,okK_iff]
   exact ⟨⟨k0,k1,by omega,k3,by omega,by omega,by omega⟩,q4 (by omega),q5 (by omega)⟩
 ·obtain ⟨xs,m,hm,hx,hl,hlen,hf⟩:=DataW.trod_struct Tryz.underlying63 h
  obtain rfl:n=m:=by omega
  injection hx with hx _
  subst hx
  have hl2:cs.length=2:=hl.trans (by kernel_rfl)
  match cs,hl2,xs,hlen with
  |[a0,a1],_,[y0,y1],_=>
  have h0:=hf 0 _ rfl
  have h1:=hf 1 _ rfl
  simp [c22,c23] at h0 h1
  obtain ⟨v3,l3,e3,r3,k3,m3⟩:=xh (o:=o) (g:=g) hN h0
  obtain ⟨v4,l4,e4,r4,k4,m4,q4⟩:=iK _ _ _ h1
  obtain rfl:a0=v3:=by simpa using e3
  obtain rfl:a1=v4:=by simpa using e4
  refine ⟨Br.mk l3 l4,fun k p hp=> ?_, ?_,fun hb=> ?_⟩
  ·match k,hp with
   |0,hp=>cases hp;exact ⟨_,rfl,r3⟩
   |1,hp=>cases hp;exact ⟨_,rfl,r4⟩
   |k+2,hp=>simp [cQ] at hp
  ·show f_ _≤_
   rw [f_]
   simp only [List.map_cons,List.map_nil,Rows.uptoBulk,Rows.uptoBulkAll]
   omega
  ·simp only [List.map_cons,List.map_nil,Rows.uptoBulk,Rows.uptoBulkAll] at hb
   exact ⟨⟨k3,by show l3.length<_;omega,by show l4.length<_;omega⟩,q4 (by omega)⟩
 ·obtain ⟨v,l,ds,rfl,hr,hl,hq,hb⟩:=xk (e:=ET.T) (Q:=fun x d=>QT (show Tm from x) d) hN Tryz.underlying23 (by kernel_rfl) iT h
  obtain ⟨s1,s2⟩:=Ub (l:=l) hl hq
  have:=vm (l:=ds)
  have hl': @List.length Tm l=ds.length:=hl
  exact ⟨v,l,rfl,hr,by omega,by omega,fun hd=>s2 (by omega)⟩
 ·obtain ⟨v,l,ds,rfl,hr,hl,hq,hb⟩:=xk (e:=ET.B) (Q:=fun x d=>QB (show Br Tm from x) d) hN Tryz.underlying24 (by kernel_rfl) iB h
  obtain ⟨s1,s2⟩:=Uc (l:=l) hl hq
  have:=vm (l:=ds)
  have hl': @List.length (Br Tm) l=ds.length:=hl
  exact ⟨v,l,rfl,hr,by omega,by omega,fun hd=>s2 (by omega)⟩
end
end Go.Proofs.YtapmagaejigpnaaGreatDoor
