/- Part 3 of a proof: the sources, with their names and remarks, lie in wip/. -/
import Derived.Test.YtfkkpkhfjpaafaaGreatDoorX2
namespace Go.Proofs.YtfkkpkhfjpaafaaGreatDoor
open Go PI
set_option linter.unusedVariables false
set_option maxRecDepth 100000
noncomputable section
def Jp {S:Type} (k:Nat) (ret:Tm×Bool×Int→Option S) (r3:Tm) (r15:Int×Int×ByteArray×List Cl×List Tm) (x4:Tm) (r13:Tm×Int) (x5:Tm) (rec0:Int→(List (Br Tm))→Int→Option S) (b44_0:Int) (sys11:List (Br Tm)) (v96:Int):Option S:=
 ab (decide ((v96:Int)<(x5.sys.length:Int))) (
 Option.bind (af x5.sys v96) fun x16=>
 aa k (JK k r3.r 1 b44_0) fun r17=>
 aa k (JJ k (ac x4) 1 r17.2) fun r18=>
 Option.bind (af x16.kids 0) fun x19=>
 aa k (tO k 14 r17.1 [(ac r18.1),(ac x19)]) fun r20=>
 aa k (nf k x16.face [(Tm.mk r20.1 r20.2.1 r20.2.2.1 r20.2.2.2.1 r20.2.2.2.2 [])]) fun r21=>
 Option.bind (aw 1099511627776 sys11.length [r21].length) fun x22=>
  rec0 r18.2 (sys11++[r21]) (IntKind.wrap .i64 (v96+1))) (
 aa k (JM k 15 sys11 [(ac r13.1),(Tm.mk r15.1 r15.2.1 r15.2.2.1 r15.2.2.2.1 r15.2.2.2.2 [])]) fun r23=>
 aa k (ly k (Tm.mk r23.1 r23.2.1 r23.2.2.1 [] r23.2.2.2.1 r23.2.2.2.2) b44_0) fun r24=>
 ret ((ac r24.1),r24.2.1,r24.2.2.1))
noncomputable def E7 {S:Type} (k:Nat) (ret:Tm×Bool×Int→Option S) (r3:Tm) (r15:Int×Int×ByteArray×List Cl×List Tm) (x4:Tm) (r13:Tm×Int) (x5:Tm):Nat→Int→(List (Br Tm))→Int→Option S
 |0=>fun _ _ _=> .none
 |m+1=>fun b44_0 sys11 v96=>Jp k ret r3 r15 x4 r13 x5 (E7 k ret r3 r15 x4 r13 x5 m) b44_0 sys11 v96
def SP {S:Type} (k:Nat) (ret:Tm×Bool×Int→Option S) (J0:Tm→(Int×Int×ByteArray×List Cl×List Tm)→Tm→(Tm×Int)→Tm→Int→(List (Br Tm))→Int→Option S) (t:Tm):Option S:=
 aa k (fe k (ac t)) fun r1=>
 ab (!(r1==0)) (
 ret ((Tm.mk 0 0 ByteArray.empty [] [] []),false,r1)) (
 ab (!(t.kind==14)) (
  ret ((Tm.mk 0 0 ByteArray.empty [] [] []),false,0)) (
  Option.bind (af t.kids 0) fun x2=>
  ab (!(x2.kind==23)) (
  ret ((Tm.mk 0 0 ByteArray.empty [] [] []),false,0)) (
  dJ k (ac t) fun r3=>
  Option.bind (af r3.kids 0) fun x4=>
  Option.bind (af r3.kids 1) fun x5=>
  ab (x5.kind==24) (
   aa k (ly k (ac x5) 0) fun r6=>
   ret ((ac r6.1),r6.2.1,r6.2.2.1)) (
   ab (x5.kind==25) (
   aa k (ly k (ac x5) 0) fun r7=>
   ret ((ac r7.1),r7.2.1,r7.2.2.1)) (
   ab (x5.kind==26) (
    Option.bind (af x4.kids 0) fun x8=>
    Option.bind (af x5.kids 0) fun x9=>
    aa k (tO k 14 r3.r [(ac x8),(ac x9)]) fun r10=>
    aa k (tO k 26 x5.r [(Tm.mk r10.1 r10.2.1 r10.2.2.1 r10.2.2.2.1 r10.2.2.2.2 [])]) fun r11=>
    aa k (ly k (Tm.mk r11.1 r11.2.1 r11.2.2.1 r11.2.2.2.1 r11.2.2.2.2 []) 0) fun r12=>
    ret ((ac r12.1),r12.2.1,r12.2.2.1)) (
    ab (x5.kind==15) (
    aa k (JI k (ac x4) 0) fun r13=>
    Option.bind (af x5.kids 1) fun x14=>
    aa k (tO k 14 r3.r [(ac x4),(ac x14)]) fun r15=>
        J0 r3 r15 x4 r13 x5 r13.2 ([]:List (Br Tm)) 0) (
    ret ((Tm.mk 0 0 ByteArray.empty [] [] []),false,0))))))))
noncomputable def JG {S:Type} (k:Nat) (t:Tm) (ret:Tm×Bool×Int→Option S):Option S:=SP k ret (fun r3 r15 x4 r13 x5 b44_0 sys11 v96=>E7 k ret r3 r15 x4 r13 x5 k b44_0 sys11 v96) t
def oT {S:Type} (k:Nat) (ret:Bool→Option S) (a b:List Cl) (rec0:Int→Option S) (i5:Int):Option S:=
 ab (decide ((i5:Int)<(a.length:Int))) (
 Option.bind (af a i5) fun x1=>
 Option.bind (af b i5) fun x2=>
 ab (!((x1.pos==x2.pos)&&((x1.neg==x2.neg)&&true))) (
  ret false) (
   rec0 (IntKind.wrap .i64 (i5+1)))) (
 ret true)
noncomputable def ky {S:Type} (k:Nat) (ret:Bool→Option S) (a b:List Cl):Nat→Int→Option S
 |0=>fun _=> .none
 |m+1=>fun i5=>oT k ret a b (ky k ret a b m) i5
def BV {S:Type} (k:Nat) (ret:Bool→Option S) (J0:Int→Option S) (a b:List Cl):Option S:=
 ab (!((a.length:Int)==(b.length:Int))) (
 ret false) (
  J0 0)
noncomputable def jY {S:Type} (k:Nat) (a b:List Cl) (ret:Bool→Option S):Option S:=BV k ret (fun i5=>ky k ret a b k i5) a b
abbrev eN (S:Type):=Tm→Tm→(Bool→Option S)→Option S
def xQ {S:Type} (hd:eN S) (k:Nat) (ret:Bool→Option S) (a b:List Tm) (rec0:Int→Option S) (i5:Int):Option S:=
 ab (decide ((i5:Int)<(a.length:Int))) (
 Option.bind (af a i5) fun x1=>
 Option.bind (af b i5) fun x2=>
 hd (ac x1) (ac x2) fun r3=>
 ab (!r3) (
  ret false) (
   rec0 (IntKind.wrap .i64 (i5+1)))) (
 ret true)
noncomputable def qH {S:Type} (hd:eN S) (k:Nat) (ret:Bool→Option S) (a b:List Tm):Nat→Int→Option S
 |0=>fun _=> .none
 |m+1=>fun i5=>xQ hd k ret a b (qH hd k ret a b m) i5
def It {S:Type} (hd:eN S) (k:Nat) (ret:Bool→Option S) (J0:Int→Option S) (a b:List Tm):Option S:=
 ab (!((a.length:Int)==(b.length:Int))) (
 ret false) (
  J0 0)
noncomputable def tX {S:Type} (hd:eN S) (k:Nat) (a b:List Tm) (ret:Bool→Option S):Option S:=It hd k ret (fun i5=>qH hd k ret a b k i5) a b
def xO {S:Type} (hd:eN S) (k:Nat) (ret:Bool→Option S) (a b:Tm) (rec0:Int→Option S) (i5:Int):Option S:=
 ab (decide ((i5:Int)<(a.sys.length:Int))) (
 Option.bind (af a.sys i5) fun x3=>
 Option.bind (af b.sys i5) fun x4=>
 aa k (jY k x3.face x4.face) fun r5=>
 ab (!r5) (
  ret false) (
  Option.bind (af a.sys i5) fun x6=>
  Option.bind (af b.sys i5) fun x7=>
  aa k (tX hd k x6.kids x7.kids) fun r8=>
  ab (!r8) (
  ret false) (
    rec0 (IntKind.wrap .i64 (i5+1))))) (
 ret true)
noncomputable def qF {S:Type} (hd:eN S) (k:Nat) (ret:Bool→Option S) (a b:Tm):Nat→Int→Option S
 |0=>fun _=> .none
 |m+1=>fun i5=>xO hd k ret a b (qF hd k ret a b m) i5
def Ir {S:Type} (hd:eN S) (k:Nat) (ret:Bool→Option S) (J0:Int→Option S) (a b:Tm):Option S:=
 ab (!(a.kind==b.kind)) (
 ret false) (
 ab (!(a.n==b.n)) (
  ret false) (
  ab (!(a.name==b.name)) (
  ret false) (
  aa k (jY k a.r b.r) fun r1=>
  ab (!r1) (
   ret false) (
   aa k (tX hd k a.kids b.kids) fun r2=>
   ab (!r2) (
   ret false) (
   ab (!((a.sys.length:Int)==(b.sys.length:Int))) (
    ret false) (
       J0 0))))))
noncomputable def d8 {S:Type}:Nat→Tm→Tm→(Bool→Option S)→Option S
 |0=>fun _ _ _=> .none
 |k+1=>fun a b ret=>Ir (d8 k) k ret (fun i5=>qF (d8 k) k ret a b k i5) a b
def akB {S:Type} (k:Nat) (ret:Bool→Option S):Option S:=
 aa k (al5 k 3 ([]:List Tm)) fun r1=>
 aa k (al5 k 19 ([]:List Tm)) fun r2=>
 aa k (al5 k 1 ([]:List Tm)) fun r3=>
 aa k (al5 k 20 ([]:List Tm)) fun r4=>
 aa k (al5 k 15 [(Tm.mk r2.1 r2.2.1 r2.2.2.1 [] r2.2.2.2 []),(Tm.mk r4.1 r4.2.1 r4.2.2.1 [] r4.2.2.2 [])]) fun r5=>
 aa k (al5 k 22 [(Tm.mk r1.1 r1.2.1 r1.2.2.1 [] r1.2.2.2 []),(Tm.mk r2.1 r2.2.1 r2.2.2.1 [] r2.2.2.2 []),(Tm.mk r3.1 r3.2.1 r3.2.2.1 [] r3.2.2.2 []),(Tm.mk r5.1 r5.2.1 r5.2.2.1 [] r5.2.2.2 [])]) fun r6=>
 aa k (tL k (Tm.mk r6.1 r6.2.1 r6.2.2.1 [] r6.2.2.2 [])) fun r7=>
 aa k (al5 k 20 ([]:List Tm)) fun r8=>
 aa k (al5 k 26 [(Tm.mk r8.1 r8.2.1 r8.2.2.1 [] r8.2.2.2 [])]) fun r9=>
 aa k (al5 k 23 [(Tm.mk r2.1 r2.2.1 r2.2.2.1 [] r2.2.2.2 [])]) fun r10=>
 aa k (al5 k 14 [(Tm.mk r10.1 r10.2.1 r10.2.2.1 [] r10.2.2.2 []),(Tm.mk r9.1 r9.2.1 r9.2.2.1 [(Cl.mk 1 0)] r9.2.2.2 [])]) fun r11=>
 aa k (JG k (Tm.mk r11.1 r11.2.1 r11.2.2.1 [] r11.2.2.2 [])) fun r12=>
 ab (!r7.2.1) (
 ret false) (
 ab (!(r7.2.2==0)) (
  ret false) (
  ab (!r12.2.1) (
  ret false) (
  ab (!(r12.2.2==0)) (
   ret false) (
   ab (!(r7.1.kind==15)) (
   ret false) (
   ab (!((r7.1.kids.length:Int)==2)) (
    ret false) (
    ab (!((r7.1.sys.length:Int)==0)) (
    ret false) (
    aa k (al5 k 1 ([]:List Tm)) fun r13=>
    aa k (al5 k 20 ([]:List Tm)) fun r14=>
    aa k (al5 k 22 [(Tm.mk r1.1 r1.2.1 r1.2.2.1 [] r1.2.2.2 []),(Tm.mk r2.1 r2.2.1 r2.2.2.1 [] r2.2.2.2 []),(Tm.mk r13.1 r13.2.1 r13.2.2.1 [] r13.2.2.2 []),(Tm.mk r14.1 r14.2.1 r14.2.2.1 [] r14.2.2.2 [])]) fun r15=>
    aa k (al5 k 14 [(Tm.mk r1.1 r1.2.1 r1.2.2.1 [] r1.2.2.2 []),(Tm.mk r15.1 r15.2.1 r15.2.2.1 [] r15.2.2.2 [])]) fun r16=>
    Option.bind (af r7.1.kids 0) fun x17=>
    d8 k (ac x17) (Tm.mk r1.1 r1.2.1 r1.2.2.1 [] r1.2.2.2 []) fun r18=>
    ab (r18) (
     Option.bind (af r7.1.kids 1) fun x19=>
     d8 k (ac x19) (Tm.mk r16.1 r16.2.1 r16.2.2.1 [] r16.2.2.2 []) fun r20=>
     ab (r20) (
     ab (r12.1.kind==26) (
      aa k (jY k r12.1.r [(Cl.mk 1 0)]) fun r21=>
      ab (r21) (
      ab ((r12.1.kids.length:Int)==1) (
       Option.bind (af r12.1.kids 0) fun x22=>
       aa k (al5 k 20 ([]:List Tm)) fun r23=>
       aa k (al5 k 14 [(Tm.mk r2.1 r2.2.1 r2.2.2.1 [] r2.2.2.2 []),(Tm.mk r23.1 r23.2.1 r23.2.2.1 [] r23.2.2.2 [])]) fun r24=>
       d8 k (ac x22) (Tm.mk r24.1 r24.2.1 r24.2.2.1 [] r24.2.2.2 []) fun r25=>
       ret r25) (
       ret false)) (
      ret false)) (
      ret false)) (
     ret false)) (
     ret false))))))))
noncomputable def tM {S:Type} (k:Nat) (ret:Bool→Option S):Option S:=akB k ret
abbrev gZ (S:Type):=Tm→(Tm→Option S)→Option S
def xM {S:Type} (hd:gZ S) (k:Nat) (ret:Tm→Option S) (t:Tm) (b3_4:List Tm) (b3_5:List (Br Tm)) (x5:(Br Tm)) (i5:Int) (rec1:(List (Br Tm))→Int→Option S) (rec2:(List Tm)→Int→Option S) (b6_1:List Tm) (v7:Int):Option S:=
 Option.bind (af t.sys i5) fun x7=>
 ab (decide ((v7:Int)<(x7.kids.length:Int))) (
 Option.bind (af t.sys i5) fun x8=>
 Option.bind (af x8.kids v7) fun x9=>
 hd (ac x9) fun r10=>
 Option.bind (aw 1099511627776 b6_1.length [(ac r10)].length) fun x11=>
  rec2 (b6_1++[(ac r10)]) (IntKind.wrap .i64 (v7+1))) (
 Option.bind (aw 1099511627776 b3_5.length [(Br.mk (([]:List Cl)++x5.face) b6_1)].length) fun x12=>
  rec1 (b3_5++[(Br.mk (([]:List Cl)++x5.face) b6_1)]) (IntKind.wrap .i64 (i5+1)))
noncomputable def anc {S:Type} (hd:gZ S) (k:Nat) (ret:Tm→Option S) (rec1:(List (Br Tm))→Int→Option S) (t:Tm) (b3_4:List Tm) (b3_5:List (Br Tm)) (x5:(Br Tm)) (i5:Int):Nat→(List Tm)→Int→Option S
 |0=>fun _ _=> .none
 |m+1=>fun b6_1 v7=>xM hd k ret t b3_4 b3_5 x5 i5 rec1 (anc hd k ret rec1 t b3_4 b3_5 x5 i5 m) b6_1 v7
def sV {S:Type} (hd:gZ S) (k:Nat) (ret:Tm→Option S) (t:Tm) (b3_4:List Tm) (J2:(List (Br Tm))→(Br Tm)→Int→(List Tm)→Int→Option S) (rec1:(List (Br Tm))→Int→Option S) (b3_5:List (Br Tm)) (i5:Int):Option S:=
 ab (decide ((i5:Int)<(t.sys.length:Int))) (
 Option.bind (af t.sys i5) fun x5=>
 Option.bind (aw 1099511627776 ([]:List Cl).length x5.face.length) fun x6=>
  J2 b3_5 x5 i5 ([]:List Tm) 0) (
 ret (Tm.mk t.kind t.n t.name (([]:List Cl)++t.r) b3_4 b3_5))
noncomputable def kB {S:Type} (hd:gZ S) (k:Nat) (ret:Tm→Option S) (t:Tm) (b3_4:List Tm):Nat→(List (Br Tm))→Int→Option S
 |0=>fun _ _=> .none
 |m+1=>fun b3_5 i5=>sV hd k ret t b3_4 (fun b3_5 x5 i5 b6_1 v7=>anc hd k ret (kB hd k ret t b3_4 m) t b3_4 b3_5 x5 i5 k b6_1 v7) (kB hd k ret t b3_4 m) b3_5 i5
def sU {S:Type} (hd:gZ S) (k:Nat) (ret:Tm→Option S) (t:Tm) (J1:(List Tm)→(List (Br Tm))→Int→Option S) (rec0:(List Tm)→Int→Option S) (b3_4:List Tm) (i4:Int):Option S:=
 ab (decide ((i4:Int)<(t.kids.length:Int))) (
 Option.bind (af t.kids i4) fun x2=>
 hd (ac x2) fun r3=>
 Option.bind (aw 1099511627776 b3_4.length [(ac r3)].length) fun x4=>
  rec0 (b3_4++[(ac r3)]) (IntKind.wrap .i64 (i4+1))) (
  J1 b3_4 ([]:List (Br Tm)) 0)
noncomputable def ans {S:Type} (hd:gZ S) (k:Nat) (ret:Tm→Option S) (t:Tm):Nat→(List Tm)→Int→Option S
 |0=>fun _ _=> .none
 |m+1=>fun b3_4 i4=>sU hd k ret t (fun b3_4 b3_5 i5=>kB hd k ret t b3_4 k b3_5 i5) (ans hd k ret t m) b3_4 i4
noncomputable def Ip {S:Type} (hd:gZ S) (k:Nat) (ret:Tm→Option S) (J0:(List Tm)→Int→Option S) (t:Tm):Option S:=
 Option.bind (aw 1099511627776 ([]:List Cl).length t.r.length) fun x1=>
 J0 ([]:List Tm) 0
noncomputable def je {S:Type}:Nat→Tm→(Tm→Option S)→Option S
 |0=>fun _ _=> .none
 |k+1=>fun t ret=>Ip (je k) k ret (fun b3_4 i4=>ans (je k) k ret t k b3_4 i4) t
abbrev g4 (S:Type):=Tm→(Int→Option S)→Option S
def xN {S:Type} (hd:g4 S) (k:Nat) (ret:Int→Option S) (t:Tm) (i6:Int) (rec1:Int→Int→Option S) (rec2:Int→Int→Option S) (most3'' v7:Int):Option S:=
 Option.bind (af t.sys i6) fun x3=>
 ab (decide ((v7:Int)<(x3.kids.length:Int))) (
 Option.bind (af t.sys i6) fun x4=>
 Option.bind (af x4.kids v7) fun x5=>
 hd (ac x5) fun r6=>
 ab (decide ((r6:Int)>most3'')) (
   rec2 r6 (IntKind.wrap .i64 (v7+1))) (
   rec2 most3'' (IntKind.wrap .i64 (v7+1)))) (
  rec1 most3'' (IntKind.wrap .i64 (i6+1)))
noncomputable def md {S:Type} (hd:g4 S) (k:Nat) (ret:Int→Option S) (rec1:Int→Int→Option S) (t:Tm) (i6:Int):Nat→Int→Int→Option S
 |0=>fun _ _=> .none
 |m+1=>fun most3'' v7=>xN hd k ret t i6 rec1 (md hd k ret rec1 t i6 m) most3'' v7
def sX {S:Type} (hd:g4 S) (k:Nat) (ret:Int→Option S) (t:Tm) (J2:Int→Int→Int→Option S) (rec1:Int→Int→Option S) (most3' i6:Int):Option S:=
 ab (decide ((i6:Int)<(t.sys.length:Int))) (
  J2 i6 most3' 0) (
 ret (IntKind.wrap .i64 (most3'+1)))
noncomputable def kC {S:Type} (hd:g4 S) (k:Nat) (ret:Int→Option S) (t:Tm):Nat→Int→Int→Option S
 |0=>fun _ _=> .none
 |m+1=>fun most3' i6=>sX hd k ret t (fun i6 most3'' v7=>md hd k ret (kC hd k ret t m) t i6 k most3'' v7) (kC hd k ret t m) most3' i6
def sW {S:Type} (hd:g4 S) (k:Nat) (ret:Int→Option S) (t:Tm) (J1:Int→Int→Option S) (rec0:Int→Int→Option S) (most3 i4:Int):Option S:=
 ab (decide ((i4:Int)<(t.kids.length:Int))) (
 Option.bind (af t.kids i4) fun x1=>
 hd (ac x1) fun r2=>
 ab (decide ((r2:Int)>most3)) (
   rec0 r2 (IntKind.wrap .i64 (i4+1))) (
   rec0 most3 (IntKind.wrap .i64 (i4+1)))) (
  J1 most3 0)
noncomputable def ane {S:Type} (hd:g4 S) (k:Nat) (ret:Int→Option S) (t:Tm):Nat→Int→Int→Option S
 |0=>fun _ _=> .none
 |m+1=>fun most3 i4=>sW hd k ret t (fun most3' i6=>kC hd k ret t k most3' i6) (ane hd k ret t m) most3 i4
noncomputable def Iq {S:Type} (hd:g4 S) (k:Nat) (ret:Int→Option S) (J0:Int→Int→Option S) (t:Tm):Option S:=
 J0 0 0
noncomputable def gF {S:Type}:Nat→Tm→(Int→Option S)→Option S
 |0=>fun _ _=> .none
 |k+1=>fun t ret=>Iq (gF k) k ret (fun most3 i4=>ane (gF k) k ret t k most3 i4) t
abbrev g5 (S:Type):=Tm→(Int→Option S)→Option S
def xP {S:Type} (hd:g5 S) (k:Nat) (ret:Int→Option S) (t:Tm) (i5:Int) (rec1:Int→Int→Option S) (rec2:Int→Int→Option S) (v3'' v6:Int):Option S:=
 Option.bind (af t.sys i5) fun x3=>
 ab (decide ((v6:Int)<(x3.kids.length:Int))) (
 Option.bind (af t.sys i5) fun x4=>
 Option.bind (af x4.kids v6) fun x5=>
 hd (ac x5) fun r6=>
  rec2 (IntKind.wrap .i64 (v3''+r6)) (IntKind.wrap .i64 (v6+1))) (
  rec1 v3'' (IntKind.wrap .i64 (i5+1)))
noncomputable def anf {S:Type} (hd:g5 S) (k:Nat) (ret:Int→Option S) (rec1:Int→Int→Option S) (t:Tm) (i5:Int):Nat→Int→Int→Option S
 |0=>fun _ _=> .none
 |m+1=>fun v3'' v6=>xP hd k ret t i5 rec1 (anf hd k ret rec1 t i5 m) v3'' v6
def sZ {S:Type} (hd:g5 S) (k:Nat) (ret:Int→Option S) (t:Tm) (J2:Int→Int→Int→Option S) (rec1:Int→Int→Option S) (v3' i5:Int):Option S:=
 ab (decide ((i5:Int)<(t.sys.length:Int))) (
  J2 i5 v3' 0) (
 ret v3')
noncomputable def kE {S:Type} (hd:g5 S) (k:Nat) (ret:Int→Option S) (t:Tm):Nat→Int→Int→Option S
 |0=>fun _ _=> .none
 |m+1=>fun v3' i5=>sZ hd k ret t (fun i5 v3'' v6=>anf hd k ret (kE hd k ret t m) t i5 k v3'' v6) (kE hd k ret t m) v3' i5
def sY {S:Type} (hd:g5 S) (k:Nat) (ret:Int→Option S) (t:Tm) (J1:Int→Int→Option S) (rec0:Int→Int→Option S) (v3 i4:Int):Option S:=
 ab (decide ((i4:Int)<(t.kids.length:Int))) (
 Option.bind (af t.kids i4) fun x1=>
 hd (ac x1) fun r2=>
  rec0 (IntKind.wrap .i64 (v3+r2)) (IntKind.wrap .i64 (i4+1))) (
  J1 v3 0)
noncomputable def ant {S:Type} (hd:g5 S) (k:Nat) (ret:Int→Option S) (t:Tm):Nat→Int→Int→Option S
 |0=>fun _ _=> .none
 |m+1=>fun v3 i4=>sY hd k ret t (fun v3' i5=>kE hd k ret t k v3' i5) (ant hd k ret t m) v3 i4
noncomputable def Is {S:Type} (hd:g5 S) (k:Nat) (ret:Int→Option S) (J0:Int→Int→Option S) (t:Tm):Option S:=
 J0 1 0
noncomputable def fQ {S:Type}:Nat→Tm→(Int→Option S)→Option S
 |0=>fun _ _=> .none
 |k+1=>fun t ret=>Is (fQ k) k ret (fun v3 i4=>ant (fQ k) k ret t k v3 i4) t
def Tv {S:Type} (k:Nat) (ret:Int→Option S) (t:Tm):Option S:=
 gF k (ac t) fun r1=>
 ab (decide ((r1:Int)>200)) (
 ret 62) (
 fQ k (ac t) fun r2=>
 ab (decide ((r2:Int)>20000)) (
  ret 221) (
  ret 0))
noncomputable def zp {S:Type} (k:Nat) (t:Tm) (ret:Int→Option S):Option S:=Tv k ret t
def Tr {S:Type} (k:Nat) (ret:Int→Option S) (kind:Int):Option S:=
 ab (decide ((kind:Int)<0)) (
 ret (-1)) (
 ab (decide ((kind:Int)>28)) (
  ret (-1)) (
  Option.bind (bR (0≤kind∧kind<(29:Int))) fun x1=>
  Option.bind (af [(-1),0,0,0,2,1,2,2,2,1,1,3,1,3,2,2,1,1,1,0,0,0,4,1,0,0,1,5,2] kind) fun x2=>
  ret x2))
noncomputable def pw {S:Type} (k:Nat) (kind:Int) (ret:Int→Option S):Option S:=Tr k ret kind
def Tt {S:Type} (k:Nat) (ret:Int→Option S) (kind:Int):Option S:=
 ab (kind==16) (
 ret 2) (
 ab (kind==15) (
  ret 1) (
  ab (kind==17) (
  ret 1) (
  ab (kind==18) (
   ret 1) (
   ret 0))))
noncomputable def px {S:Type} (k:Nat) (kind:Int) (ret:Int→Option S):Option S:=Tt k ret kind
def De {S:Type} (k:Nat) (ret:Bool→Option S) (s:ByteArray) (i3:Int) (x1:UInt8) (rec0:Int→Option S):Option S:=
 ab (!((x1.toNat:Int)==95)) (
 ab (decide (((x1.toNat:Int):Int)<97)) (
  ab (decide (((x1.toNat:Int):Int)<65)) (
  ret false) (
  ab (decide (((x1.toNat:Int):Int)>90)) (
   ret false) (
     rec0 (IntKind.wrap .i64 (i3+1))))) (
  ab (decide (((x1.toNat:Int):Int)>122)) (
  ab (decide (((x1.toNat:Int):Int)<65)) (
   ret false) (
   ab (decide (((x1.toNat:Int):Int)>90)) (
   ret false) (
      rec0 (IntKind.wrap .i64 (i3+1))))) (
    rec0 (IntKind.wrap .i64 (i3+1))))) (
  rec0 (IntKind.wrap .i64 (i3+1)))
noncomputable def An {S:Type} (k:Nat) (ret:Bool→Option S) (rec0:Int→Option S) (s:ByteArray) (i3:Int) (x1:UInt8):Nat→Option S
 |0=> .none
 |_+1=>De k ret s i3 x1 rec0
def s8 {S:Type} (k:Nat) (ret:Bool→Option S) (s:ByteArray) (J1:Int→UInt8→Option S) (rec0:Int→Option S) (i3:Int):Option S:=
 ab (decide ((i3:Int)<(s.size:Int))) (
 Option.bind (af s.data.toList i3) fun x1=>
 ab (decide (((x1.toNat:Int):Int)≥48)) (
  ab (decide (((x1.toNat:Int):Int)≤57)) (
  ab (decide ((i3:Int)>0)) (
     rec0 (IntKind.wrap .i64 (i3+1))) (
     J1 i3 x1)) (
    J1 i3 x1)) (
   J1 i3 x1)) (
 ret (decide (((s.size:Int):Int)>0)))
noncomputable def ang {S:Type} (k:Nat) (ret:Bool→Option S) (s:ByteArray):Nat→Int→Option S
 |0=>fun _=> .none
 |m+1=>fun i3=>s8 k ret s (fun i3 x1=>An k ret (ang k ret s m) s i3 x1 k) (ang k ret s m) i3
noncomputable def Iu {S:Type} (k:Nat) (ret:Bool→Option S) (J0:Int→Option S) (s:ByteArray):Option S:=
 J0 0
noncomputable def zo {S:Type} (k:Nat) (s:ByteArray) (ret:Bool→Option S):Option S:=Iu k ret (fun i3=>ang k ret s k i3) s
def xp {S:Type} (k:Nat) (ret:Int→Option S) (a_n:Int) (rec0:Int→Int→Option S) (p3 i4:Int):Option S:=
 ab (decide ((i4:Int)<a_n)) (
  rec0 (IntKind.wrap .i64 (p3*2)) (IntKind.wrap .i64 (i4+1))) (
 ret p3)
noncomputable def qm {S:Type} (k:Nat) (ret:Int→Option S) (a_n:Int):Nat→Int→Int→Option S
 |0=>fun _ _=> .none
 |m+1=>fun p3 i4=>xp k ret a_n (qm k ret a_n m) p3 i4
noncomputable def H7 {S:Type} (k:Nat) (ret:Int→Option S) (J0:Int→Int→Option S) (a_n:Int):Option S:=
 J0 1 0
noncomputable def pr {S:Type} (k:Nat) (a_n:Int) (ret:Int→Option S):Option S:=H7 k ret (fun p3 i4=>qm k ret a_n k p3 i4) a_n
noncomputable def Tc {S:Type} (k:Nat) (ret:Bool→Option S) (s:Int):Option S:=
 aa k (pr k 24) fun r1=>
 ret (decide ((IntKind.wrap .i64 s:Int)<r1))
noncomputable def pq {S:Type} (k:Nat) (s:Int) (ret:Bool→Option S):Option S:=Tc k ret s
def Ti {S:Type} (k:Nat) (ret:Bool→Option S) (c:Cl):Option S:=
 aa k (pq k c.pos) fun r1=>
 ab (r1) (
 aa k (pq k c.neg) fun r2=>
 ret r2) (
 ret false)
noncomputable def tT {S:Type} (k:Nat) (c:Cl) (ret:Bool→Option S):Option S:=Ti k ret c
def Te {S:Type} (k:Nat) (ret:Bool→Option S) (a b:Cl):Option S:=
 ab ((bj .or .u32 a.pos b.pos)==a.pos) (
 ret ((bj .or .u32 a.neg b.neg)==a.neg)) (
 ret false)
noncomputable def zf {S:Type} (k:Nat) (a b:Cl) (ret:Bool→Option S):Option S:=Te k ret a b
def xu {S:Type} (k:Nat) (ret:Bool→Option S) (c:Cl) (l:List Cl) (rec0:Int→Option S) (i5:Int):Option S:=
 ab (decide ((i5:Int)<(l.length:Int))) (
 Option.bind (af l i5) fun x1=>
 ab (!((x1.pos==c.pos)&&((x1.neg==c.neg)&&true))) (
  Option.bind (af l i5) fun x2=>
  aa k (zf k c x2) fun r3=>
  ab (r3) (
  ret false) (
    rec0 (IntKind.wrap .i64 (i5+1)))) (
   rec0 (IntKind.wrap .i64 (i5+1)))) (
 ret true)
noncomputable def qu {S:Type} (k:Nat) (ret:Bool→Option S) (c:Cl) (l:List Cl):Nat→Int→Option S
 |0=>fun _=> .none
 |m+1=>fun i5=>xu k ret c l (qu k ret c l m) i5
noncomputable def H_ {S:Type} (k:Nat) (ret:Bool→Option S) (J0:Int→Option S) (l:List Cl) (c:Cl):Option S:=
 J0 0
noncomputable def zi {S:Type} (k:Nat) (l:List Cl) (c:Cl) (ret:Bool→Option S):Option S:=H_ k ret (fun i5=>qu k ret c l k i5) l c
def Tf {S:Type} (k:Nat) (ret:Bool→Option S) (a b:Cl):Option S:=
 ab (decide ((a.pos:Int)<b.pos)) (
 ret true) (
 ab (a.pos==b.pos) (
  ret (decide ((a.neg:Int)<b.neg))) (
  ret false))
noncomputable def zg {S:Type} (k:Nat) (a b:Cl) (ret:Bool→Option S):Option S:=Tf k ret a b
def xt {S:Type} (k:Nat) (ret:List Cl×Int→Option S) (l out5:List Cl) (i6:Int) (rec1:(List Cl)→Int→Option S) (rec2:Int→Option S) (v7:Int):Option S:=
 ab (decide ((v7:Int)<(out5.length:Int))) (
 Option.bind (af out5 v7) fun x5=>
 Option.bind (af out5 v7) fun x6=>
 Option.bind (af l i6) fun x7=>
 aa k (zg k x6 x7) fun r8=>
 ab (r8) (
   rec2 (IntKind.wrap .i64 (v7+1))) (
  ab (v7==(out5.length:Int)) (
  Option.bind (bR (0≤v7∧v7≤(out5.length:Int))) fun x9=>
  Option.bind (aw 1099511627776 ([]:List Cl).length (List.take (Int.toNat v7) out5).length) fun x10=>
  Option.bind (af l i6) fun x11=>
  Option.bind (aw 1099511627776 (([]:List Cl)++(List.take (Int.toNat v7) out5)).length [x11].length) fun x12=>
  Option.bind (bR (0≤v7∧v7≤(out5.length:Int))) fun x13=>
  Option.bind (aw 1099511627776 ((([]:List Cl)++(List.take (Int.toNat v7) out5))++[x11]).length (List.drop (Int.toNat v7) out5).length) fun x14=>
    rec1 (((([]:List Cl)++(List.take (Int.toNat v7) out5))++[x11])++(List.drop (Int.toNat v7) out5)) (IntKind.wrap .i64 (i6+1))) (
  Option.bind (af out5 v7) fun x15=>
  Option.bind (af out5 v7) fun x16=>
  Option.bind (af l i6) fun x17=>
  ab (!((x16.pos==x17.pos)&&((x16.neg==x17.neg)&&true))) (
   Option.bind (bR (0≤v7∧v7≤(out5.length:Int))) fun x18=>
   Option.bind (aw 1099511627776 ([]:List Cl).length (List.take (Int.toNat v7) out5).length) fun x19=>
   Option.bind (af l i6) fun x20=>
   Option.bind (aw 1099511627776 (([]:List Cl)++(List.take (Int.toNat v7) out5)).length [x20].length) fun x21=>
   Option.bind (bR (0≤v7∧v7≤(out5.length:Int))) fun x22=>
   Option.bind (aw 1099511627776 ((([]:List Cl)++(List.take (Int.toNat v7) out5))++[x20]).length (List.drop (Int.toNat v7) out5).length) fun x23=>
     rec1 (((([]:List Cl)++(List.take (Int.toNat v7) out5))++[x20])++(List.drop (Int.toNat v7) out5)) (IntKind.wrap .i64 (i6+1))) (
     rec1 out5 (IntKind.wrap .i64 (i6+1)))))) (
 ab (v7==(out5.length:Int)) (
  Option.bind (bR (0≤v7∧v7≤(out5.length:Int))) fun x24=>
  Option.bind (aw 1099511627776 ([]:List Cl).length (List.take (Int.toNat v7) out5).length) fun x25=>
  Option.bind (af l i6) fun x26=>
  Option.bind (aw 1099511627776 (([]:List Cl)++(List.take (Int.toNat v7) out5)).length [x26].length) fun x27=>
  Option.bind (bR (0≤v7∧v7≤(out5.length:Int))) fun x28=>
  Option.bind (aw 1099511627776 ((([]:List Cl)++(List.take (Int.toNat v7) out5))++[x26]).length (List.drop (Int.toNat v7) out5).length) fun x29=>
   rec1 (((([]:List Cl)++(List.take (Int.toNat v7) out5))++[x26])++(List.drop (Int.toNat v7) out5)) (IntKind.wrap .i64 (i6+1))) (
  Option.bind (af out5 v7) fun x30=>
  Option.bind (af out5 v7) fun x31=>
  Option.bind (af l i6) fun x32=>
  ab (!((x31.pos==x32.pos)&&((x31.neg==x32.neg)&&true))) (
  Option.bind (bR (0≤v7∧v7≤(out5.length:Int))) fun x33=>
  Option.bind (aw 1099511627776 ([]:List Cl).length (List.take (Int.toNat v7) out5).length) fun x34=>
  Option.bind (af l i6) fun x35=>
  Option.bind (aw 1099511627776 (([]:List Cl)++(List.take (Int.toNat v7) out5)).length [x35].length) fun x36=>
  Option.bind (bR (0≤v7∧v7≤(out5.length:Int))) fun x37=>
  Option.bind (aw 1099511627776 ((([]:List Cl)++(List.take (Int.toNat v7) out5))++[x35]).length (List.drop (Int.toNat v7) out5).length) fun x38=>
    rec1 (((([]:List Cl)++(List.take (Int.toNat v7) out5))++[x35])++(List.drop (Int.toNat v7) out5)) (IntKind.wrap .i64 (i6+1))) (
    rec1 out5 (IntKind.wrap .i64 (i6+1)))))
noncomputable def nL {S:Type} (k:Nat) (ret:List Cl×Int→Option S) (rec1:(List Cl)→Int→Option S) (l out5:List Cl) (i6:Int):Nat→Int→Option S
 |0=>fun _=> .none
 |m+1=>fun v7=>xt k ret l out5 i6 rec1 (nL k ret rec1 l out5 i6 m) v7
def sI {S:Type} (k:Nat) (ret:List Cl×Int→Option S) (l:List Cl) (J2:(List Cl)→Int→Int→Option S) (rec1:(List Cl)→Int→Option S) (out5:List Cl) (i6:Int):Option S:=
 ab (decide ((i6:Int)<(l.length:Int))) (
 Option.bind (af l i6) fun x3=>
 aa k (zi k l x3) fun r4=>
 ab (!r4) (
   rec1 out5 (IntKind.wrap .i64 (i6+1))) (
   J2 out5 i6 0)) (
 ab (decide (((out5.length:Int):Int)>64)) (
  ret (([]:List Cl),3)) (
  ret (out5,0)))
noncomputable def amS {S:Type} (k:Nat) (ret:List Cl×Int→Option S) (l:List Cl):Nat→(List Cl)→Int→Option S
 |0=>fun _ _=> .none
 |m+1=>fun out5 i6=>sI k ret l (fun out5 i6 v7=>nL k ret (amS k ret l m) l out5 i6 k v7) (amS k ret l m) out5 i6
def sH {S:Type} (k:Nat) (ret:List Cl×Int→Option S) (l:List Cl) (J1:(List Cl)→Int→Option S) (rec0:Int→Option S) (i4:Int):Option S:=
 ab (decide ((i4:Int)<(l.length:Int))) (
 Option.bind (af l i4) fun x1=>
 aa k (tT k x1) fun r2=>
 ab (!r2) (
  ret (([]:List Cl),2)) (
   rec0 (IntKind.wrap .i64 (i4+1)))) (
  J1 ([]:List Cl) 0)
noncomputable def qr {S:Type} (k:Nat) (ret:List Cl×Int→Option S) (l:List Cl):Nat→Int→Option S
 |0=>fun _=> .none
 |m+1=>fun i4=>sH k ret l (fun out5 i6=>amS k ret l k out5 i6) (qr k ret l m) i4
noncomputable def H9 {S:Type} (k:Nat) (ret:List Cl×Int→Option S) (J0:Int→Option S) (l:List Cl):Option S:=
 J0 0
noncomputable def amJ {S:Type} (k:Nat) (l:List Cl) (ret:List Cl×Int→Option S):Option S:=H9 k ret (fun i4=>qr k ret l k i4) l
def Tk {S:Type} (k:Nat) (ret:Bool→Option S) (f:List Cl):Option S:=
 aa k (amJ k f) fun r1=>
 ab (r1.2==0) (
 aa k (jY k r1.1 f) fun r2=>
 ret r2) (
 ret false)
noncomputable def al6 {S:Type} (k:Nat) (f:List Cl) (ret:Bool→Option S):Option S:=Tk k ret f
def Tb {S:Type} (k:Nat) (ret:Bool→Option S) (s i:Int):Option S:=
 ab (decide ((i:Int)≥0)) (
 ab (decide ((i:Int)<24)) (
  aa k (pr k i) fun r1=>
  Option.bind (bR (r1≠0)) fun x2=>
  ret ((Int.tmod (IntKind.wrap .i64 (Int.tdiv (IntKind.wrap .i64 s) r1)) 2)==1)) (
  ret false)) (
 ret false)
noncomputable def al0 {S:Type} (k:Nat) (s i:Int) (ret:Bool→Option S):Option S:=Tb k ret s i
def xm {S:Type} (k:Nat) (ret:Int→Option S) (l:List Int) (rec0:Int→Int→Option S) (v3 i4:Int):Option S:=
 ab (decide ((i4:Int)<(l.length:Int))) (
 Option.bind (af l i4) fun x1=>
 aa k (pr k x1) fun r2=>
  rec0 (IntKind.wrap .i64 (v3+r2)) (IntKind.wrap .i64 (i4+1))) (
 ret (IntKind.wrap .u32 v3))
noncomputable def qk {S:Type} (k:Nat) (ret:Int→Option S) (l:List Int):Nat→Int→Int→Option S
 |0=>fun _ _=> .none
 |m+1=>fun v3 i4=>xm k ret l (qk k ret l m) v3 i4
noncomputable def H5 {S:Type} (k:Nat) (ret:Int→Option S) (J0:Int→Int→Option S) (l:List Int):Option S:=
 J0 0 0
noncomputable def amI {S:Type} (k:Nat) (l:List Int) (ret:Int→Option S):Option S:=H5 k ret (fun v3 i4=>qk k ret l k v3 i4) l
def xw {S:Type} (k:Nat) (ret:Int→Option S) (f:List Cl) (l3:List Int) (i4:Int) (rec0:(List Int)→Int→Option S) (rec1:Bool→Int→Option S) (v5:Bool) (v6:Int):Option S:=
 ab (decide ((v6:Int)<(f.length:Int))) (
 ab (v5) (
   rec1 true (IntKind.wrap .i64 (v6+1))) (
  Option.bind (af f v6) fun x1=>
  aa k (al0 k x1.pos i4) fun r2=>
  ab (r2) (
    rec1 true (IntKind.wrap .i64 (v6+1))) (
  Option.bind (af f v6) fun x3=>
  aa k (al0 k x3.neg i4) fun r4=>
    rec1 r4 (IntKind.wrap .i64 (v6+1))))) (
 ab (v5) (
  Option.bind (aw 1099511627776 l3.length [i4].length) fun x5=>
   rec0 (l3++[i4]) (IntKind.wrap .i64 (i4+1))) (
   rec0 l3 (IntKind.wrap .i64 (i4+1))))
noncomputable def nM {S:Type} (k:Nat) (ret:Int→Option S) (rec0:(List Int)→Int→Option S) (f:List Cl) (l3:List Int) (i4:Int):Nat→Bool→Int→Option S
 |0=>fun _ _=> .none
 |m+1=>fun v5 v6=>xw k ret f l3 i4 rec0 (nM k ret rec0 f l3 i4 m) v5 v6
def sJ {S:Type} (k:Nat) (ret:Int→Option S) (f:List Cl) (J1:(List Int)→Int→Bool→Int→Option S) (rec0:(List Int)→Int→Option S) (l3:List Int) (i4:Int):Option S:=
 ab (decide ((i4:Int)<24)) (
  J1 l3 i4 false 0) (
 aa k (amI k l3) fun r6=>
 ret r6)
noncomputable def am4 {S:Type} (k:Nat) (ret:Int→Option S) (f:List Cl):Nat→(List Int)→Int→Option S
 |0=>fun _ _=> .none
 |m+1=>fun l3 i4=>sJ k ret f (fun l3 i4 v5 v6=>nM k ret (am4 k ret f m) f l3 i4 k v5 v6) (am4 k ret f m) l3 i4
noncomputable def Ib {S:Type} (k:Nat) (ret:Int→Option S) (J0:(List Int)→Int→Option S) (f:List Cl):Option S:=
 J0 ([]:List Int) 0
noncomputable def tV {S:Type} (k:Nat) (f:List Cl) (ret:Int→Option S):Option S:=Ib k ret (fun l3 i4=>am4 k ret f k l3 i4) f
def Db {S:Type} (k:Nat) (ret:List Int→Option S) (s:Int) (rec0:(List Int)→Int→Option S) (out3:List Int) (i4:Int):Option S:=
 ab (decide ((i4:Int)<24)) (
 aa k (al0 k s i4) fun r1=>
 ab (r1) (
  Option.bind (aw 1099511627776 out3.length [i4].length) fun x2=>
   rec0 (out3++[i4]) (IntKind.wrap .i64 (i4+1))) (
   rec0 out3 (IntKind.wrap .i64 (i4+1)))) (
 ret out3)
noncomputable def uK {S:Type} (k:Nat) (ret:List Int→Option S) (s:Int):Nat→(List Int)→Int→Option S
 |0=>fun _ _=> .none
 |m+1=>fun out3 i4=>Db k ret s (uK k ret s m) out3 i4
noncomputable def H4 {S:Type} (k:Nat) (ret:List Int→Option S) (J0:(List Int)→Int→Option S) (s:Int):Option S:=
 J0 ([]:List Int) 0
noncomputable def amH {S:Type} (k:Nat) (s:Int) (ret:List Int→Option S):Option S:=H4 k ret (fun out3 i4=>uK k ret s k out3 i4) s
def Tu {S:Type} (k:Nat) (ret:Bool→Option S) (f:List Cl) (dims:Int):Option S:=
 aa k (tV k f) fun r1=>
 aa k (amH k r1) fun r2=>
 ab ((r2.length:Int)==0) (
 ret true) (
 Option.bind (af r2 (IntKind.wrap .i64 ((r2.length:Int)-1))) fun x3=>
 Option.bind (af r2 (IntKind.wrap .i64 ((r2.length:Int)-1))) fun x4=>
 ret (decide ((x4:Int)<dims)))
noncomputable def tY {S:Type} (k:Nat) (f:List Cl) (dims:Int) (ret:Bool→Option S):Option S:=Tu k ret f dims
def Dd {S:Type} (k:Nat) (ret:Int×Int→Option S) (kind kid:Int):Option S:=
 ab (kid==0) (
 ab (kind==11) (
  ret (0,1)) (
  ab (kind==12) (
  ret (0,1)) (
  ab (kind==14) (
   ret (0,1)) (
   ret (0,0))))) (
 ret (0,0))
noncomputable def Am {S:Type} (k:Nat) (ret:Int×Int→Option S) (kind kid:Int):Nat→Option S
 |0=> .none
 |_+1=>Dd k ret kind kid
def xK {S:Type} (k:Nat) (ret:Int×Int→Option S) (kind kid:Int) (J1:Option S):Option S:=
 ab (kid==0) (
 ab (kind==5) (
  ret (1,0)) (
  ab (kind==22) (
  ret (1,0)) (
  ab (kind==27) (
   ret (1,0)) (
     J1)))) (
  J1)
noncomputable def E8 {S:Type} (k:Nat) (ret:Int×Int→Option S) (kind kid:Int):Nat→Option S
 |0=> .none
 |_+1=>xK k ret kind kid (Am k ret kind kid k)
def Im {S:Type} (k:Nat) (ret:Int×Int→Option S) (J0:Option S) (kind kid:Int):Option S:=
 ab (kid==1) (
 ab (kind==4) (
  ret (1,0)) (
  ab (kind==7) (
  ret (1,0)) (
    J0))) (
  J0)
noncomputable def am0 {S:Type} (k:Nat) (kind kid:Int) (ret:Int×Int→Option S):Option S:=Im k ret (E8 k ret kind kid k) kind kid
def xq {S:Type} (k:Nat) (ret:Bool→Option S) (c:Cl) (rec0:Int→Option S) (i3:Int):Option S:=
 ab (decide ((i3:Int)<24)) (
 aa k (al0 k c.pos i3) fun r1=>
 ab (r1) (
  aa k (al0 k c.neg i3) fun r2=>
  ab (r2) (
  ret true) (
    rec0 (IntKind.wrap .i64 (i3+1)))) (
   rec0 (IntKind.wrap .i64 (i3+1)))) (
 ret false)
noncomputable def qn {S:Type} (k:Nat) (ret:Bool→Option S) (c:Cl):Nat→Int→Option S
 |0=>fun _=> .none
 |m+1=>fun i3=>xq k ret c (qn k ret c m) i3
noncomputable def H8 {S:Type} (k:Nat) (ret:Bool→Option S) (J0:Int→Option S) (c:Cl):Option S:=
 J0 0
noncomputable def tQ {S:Type} (k:Nat) (c:Cl) (ret:Bool→Option S):Option S:=H8 k ret (fun i3=>qn k ret c k i3) c
def xE {S:Type} (k:Nat) (ret:Bool→Option S) (f:List Cl) (rec0:Int→Option S) (i3:Int):Option S:=
 ab (decide ((i3:Int)<(f.length:Int))) (
 Option.bind (af f i3) fun x2=>
 aa k (tQ k x2) fun r3=>
 ab (r3) (
  ret false) (
   rec0 (IntKind.wrap .i64 (i3+1)))) (
 ret true)
noncomputable def ano {S:Type} (k:Nat) (ret:Bool→Option S) (f:List Cl):Nat→Int→Option S
 |0=>fun _=> .none
 |m+1=>fun i3=>xE k ret f (ano k ret f m) i3
def Ij {S:Type} (k:Nat) (ret:Bool→Option S) (J0:Int→Option S) (f:List Cl):Option S:=
 aa k (al6 k f) fun r1=>
 ab (!r1) (
 ret false) (
  J0 0)
noncomputable def jd {S:Type} (k:Nat) (f:List Cl) (ret:Bool→Option S):Option S:=Ij k ret (fun i3=>ano k ret f k i3) f
def Ts {S:Type} (k:Nat) (ret:Int→Option S) (kind:Int):Option S:=
 ab (kind==15) (
 ret 1) (
 ret 0)
noncomputable def am2 {S:Type} (k:Nat) (kind:Int) (ret:Int→Option S):Option S:=Ts k ret kind
abbrev dP (S:Type):=Tm→Int→Int→Bool→(Bool→Option S)→Option S
def xJ {S:Type} (hd:dP S) (k:Nat) (ret:Bool→Option S) (x11:(Br Tm)) (t:Tm) (vars i12 dims:Int) (bound:Bool) (rec5:Int→Option S) (rec6:Int→Option S) (v14:Int):Option S:=
 ab (decide ((v14:Int)<(x11.kids.length:Int))) (
 Option.bind (af x11.kids v14) fun x15=>
 aa k (am2 k t.kind) fun r16=>
 hd (ac x15) vars (IntKind.wrap .i64 (dims+r16)) bound fun r17=>
 ab (!r17) (
  ret false) (
   rec6 (IntKind.wrap .i64 (v14+1)))) (
  rec5 (IntKind.wrap .i64 (i12+1)))
noncomputable def mc {S:Type} (hd:dP S) (k:Nat) (ret:Bool→Option S) (rec5:Int→Option S) (x11:(Br Tm)) (t:Tm) (vars i12 dims:Int) (bound:Bool):Nat→Int→Option S
 |0=>fun _=> .none
 |m+1=>fun v14=>xJ hd k ret x11 t vars i12 dims bound rec5 (mc hd k ret rec5 x11 t vars i12 dims bound m) v14
def sQ {S:Type} (hd:dP S) (k:Nat) (ret:Bool→Option S) (t:Tm) (vars dims:Int) (bound:Bool) (J6:(Br Tm)→Int→Int→Option S) (rec5:Int→Option S) (i12:Int):Option S:=
 ab (decide ((i12:Int)<(t.sys.length:Int))) (
 Option.bind (af t.sys i12) fun x11=>
 aa k (px k t.kind) fun r12=>
 ab (!((x11.kids.length:Int)==r12)) (
  ret false) (
  aa k (jd k x11.face) fun r13=>
  ab (!r13) (
  ret false) (
  aa k (tY k x11.face dims) fun r14=>
  ab (!r14) (
   ret false) (
     J6 x11 i12 0)))) (
 ret true)
noncomputable def amD {S:Type} (hd:dP S) (k:Nat) (ret:Bool→Option S) (t:Tm) (vars dims:Int) (bound:Bool):Nat→Int→Option S
 |0=>fun _=> .none
 |m+1=>fun i12=>sQ hd k ret t vars dims bound (fun x11 i12 v14=>mc hd k ret (amD hd k ret t vars dims bound m) x11 t vars i12 dims bound k v14) (amD hd k ret t vars dims bound m) i12
def sP {S:Type} (hd:dP S) (k:Nat) (ret:Bool→Option S) (t:Tm) (vars dims:Int) (bound:Bool) (J5:Int→Option S) (rec4:Int→Option S) (i9:Int):Option S:=
 ab (decide ((i9:Int)<(t.kids.length:Int))) (
 aa k (am0 k t.kind i9) fun r6=>
 ab (decide ((vars:Int)<0)) (
  Option.bind (af t.kids i9) fun x7=>
  hd (ac x7) (IntKind.wrap .i64 (vars+0)) (IntKind.wrap .i64 (dims+r6.2)) bound fun r8=>
  ab (!r8) (
  ret false) (
    rec4 (IntKind.wrap .i64 (i9+1)))) (
  Option.bind (af t.kids i9) fun x9=>
  hd (ac x9) (IntKind.wrap .i64 (vars+r6.1)) (IntKind.wrap .i64 (dims+r6.2)) bound fun r10=>
  ab (!r10) (
  ret false) (
    rec4 (IntKind.wrap .i64 (i9+1))))) (
  J5 0)
noncomputable def amT {S:Type} (hd:dP S) (k:Nat) (ret:Bool→Option S) (t:Tm) (vars dims:Int) (bound:Bool):Nat→Int→Option S
 |0=>fun _=> .none
 |m+1=>fun i9=>sP hd k ret t vars dims bound (fun i12=>amD hd k ret t vars dims bound k i12) (amT hd k ret t vars dims bound m) i9
def xH {S:Type} (hd:dP S) (k:Nat) (ret:Bool→Option S) (t:Tm) (vars dims:Int) (bound:Bool) (J4:Int→Option S):Option S:=
 aa k (tY k t.r dims) fun r5=>
 ab (!r5) (
 ret false) (
  J4 0)
noncomputable def anr {S:Type} (hd:dP S) (k:Nat) (ret:Bool→Option S) (t:Tm) (vars dims:Int) (bound:Bool):Nat→Option S
 |0=> .none
 |_+1=>xH hd k ret t vars dims bound (fun i9=>amT hd k ret t vars dims bound k i9)
def sO {S:Type} (hd:dP S) (k:Nat) (ret:Bool→Option S) (t:Tm) (vars dims:Int) (bound:Bool) (J3:Option S):Option S:=
 ab (t.kind==13) (
 aa k (al6 k t.r) fun r4=>
 ab (!r4) (
  ret false) (
   J3)) (
 ab (t.kind==21) (
  aa k (al6 k t.r) fun r18=>
  ab (!r18) (
  ret false) (
    J3)) (
  ab (t.kind==26) (
  aa k (al6 k t.r) fun r19=>
  ab (!r19) (
   ret false) (
     J3)) (
  ab (t.kind==14) (
   aa k (jd k t.r) fun r20=>
   ab (!r20) (
   ret false) (
      J3)) (
   ab (decide (((t.r.length:Int):Int)>0)) (
   ret false) (
      J3)))))
noncomputable def anq {S:Type} (hd:dP S) (k:Nat) (ret:Bool→Option S) (t:Tm) (vars dims:Int) (bound:Bool):Nat→Option S
 |0=> .none
 |_+1=>sO hd k ret t vars dims bound (anr hd k ret t vars dims bound k)
def sN {S:Type} (hd:dP S) (k:Nat) (ret:Bool→Option S) (t:Tm) (vars dims:Int) (bound:Bool) (J2:Option S):Option S:=
 ab (t.kind==2) (
 aa k (zo k t.name) fun r3=>
 ab (!r3) (
  ret false) (
  ab (!(t.kind==2)) (
  ab (!(t.name==ByteArray.empty)) (
   ret false) (
     J2)) (
    J2))) (
 ab (!(t.kind==2)) (
  ab (!(t.name==ByteArray.empty)) (
  ret false) (
    J2)) (
   J2))
noncomputable def uL {S:Type} (hd:dP S) (k:Nat) (ret:Bool→Option S) (t:Tm) (vars dims:Int) (bound:Bool):Nat→Option S
 |0=> .none
 |_+1=>sN hd k ret t vars dims bound (anq hd k ret t vars dims bound k)
def xG {S:Type} (hd:dP S) (k:Nat) (ret:Bool→Option S) (t:Tm) (vars dims:Int) (bound:Bool) (J1:Option S):Option S:=
 ab (t.kind==1) (
 ab (decide ((t.n:Int)<0)) (
  ret false) (
  ab (decide ((vars:Int)≥0)) (
  ab (decide ((t.n:Int)≥vars)) (
   ret false) (
     J1)) (
    J1))) (
 ab (!(t.n==0)) (
  ret false) (
   J1))
noncomputable def Al {S:Type} (hd:dP S) (k:Nat) (ret:Bool→Option S) (t:Tm) (vars dims:Int) (bound:Bool):Nat→Option S
 |0=> .none
 |_+1=>xG hd k ret t vars dims bound (uL hd k ret t vars dims bound k)
def Il {S:Type} (hd:dP S) (k:Nat) (ret:Bool→Option S) (J0:Option S) (t:Tm) (vars dims:Int) (bound:Bool):Option S:=
 ab (bound) (
 ab (decide ((dims:Int)>24)) (
  ret false) (
  aa k (pw k t.kind) fun r1=>
  ab (!(r1==(t.kids.length:Int))) (
  ret false) (
  ab (decide (((t.sys.length:Int):Int)>0)) (
   aa k (px k t.kind) fun r2=>
   ab (r2==0) (
   ret false) (
      J0)) (
     J0)))) (
 aa k (pw k t.kind) fun r21=>
 ab (!(r21==(t.kids.length:Int))) (
  ret false) (
  ab (decide (((t.sys.length:Int):Int)>0)) (
  aa k (px k t.kind) fun r22=>
  ab (r22==0) (
   ret false) (
     J0)) (
    J0)))
noncomputable def alR {S:Type}:Nat→Tm→Int→Int→Bool→(Bool→Option S)→Option S
 |0=>fun _ _ _ _ _=> .none
 |k+1=>fun t vars dims bound ret=>Il (alR k) k ret (Al (alR k) k ret t vars dims bound k) t vars dims bound
def Tq {S:Type} (k:Nat) (ret:Int→Option S) (t:Tm):Option S:=
 aa k (zp k (ac t)) fun r1=>
 ab (r1==0) (
 alR k (ac t) (-1) 24 false fun r2=>
 ab (!r2) (
  ret 100) (
  ret r1)) (
 ret r1)
noncomputable def am1 {S:Type} (k:Nat) (t:Tm) (ret:Int→Option S):Option S:=Tq k ret t
def Dj {S:Type} (k:Nat) (ret:Tm→Option S) (kind:Int) (l:List (Br Tm)) (rec0:(List Tm)→Int→Option S) (b5_4:List Tm) (i6:Int):Option S:=
 aa k (pw k kind) fun r1=>
 ab (decide ((i6:Int)<r1)) (
 Option.bind (aw 1099511627776 b5_4.length [(Tm.mk 3 0 ByteArray.empty [] [] [])].length) fun x2=>
  rec0 (b5_4++[(Tm.mk 3 0 ByteArray.empty [] [] [])]) (IntKind.wrap .i64 (i6+1))) (
 ret (Tm.mk kind 0 ByteArray.empty [] b5_4 l))
noncomputable def anw {S:Type} (k:Nat) (ret:Tm→Option S) (kind:Int) (l:List (Br Tm)):Nat→(List Tm)→Int→Option S
 |0=>fun _ _=> .none
 |m+1=>fun b5_4 i6=>Dj k ret kind l (anw k ret kind l m) b5_4 i6
noncomputable def IE {S:Type} (k:Nat) (ret:Tm→Option S) (J0:(List Tm)→Int→Option S) (kind:Int) (l:List (Br Tm)):Option S:=
 J0 ([]:List Tm) 0
noncomputable def ua {S:Type} (k:Nat) (kind:Int) (l:List (Br Tm)) (ret:Tm→Option S):Option S:=IE k ret (fun b5_4 i6=>anw k ret kind l k b5_4 i6) kind l
def xZ {S:Type} (k:Nat) (ret:Int→Option S) (l:List Tm) (rec0:Int→Option S) (i3:Int):Option S:=
 ab (decide ((i3:Int)<(l.length:Int))) (
 Option.bind (af l i3) fun x1=>
 aa k (am1 k (ac x1)) fun r2=>
 ab (!(r2==0)) (
  ret r2) (
   rec0 (IntKind.wrap .i64 (i3+1)))) (
 ret 0)
noncomputable def anz {S:Type} (k:Nat) (ret:Int→Option S) (l:List Tm):Nat→Int→Option S
 |0=>fun _=> .none
 |m+1=>fun i3=>xZ k ret l (anz k ret l m) i3
noncomputable def II {S:Type} (k:Nat) (ret:Int→Option S) (J0:Int→Option S) (l:List Tm):Option S:=
 J0 0
noncomputable def pz {S:Type} (k:Nat) (l:List Tm) (ret:Int→Option S):Option S:=II k ret (fun i3=>anz k ret l k i3) l
noncomputable def Tw {S:Type} (k:Nat) (ret:Int×Int×ByteArray→Option S) (a_e:Int):Option S:=
 ret (IntKind.wrap .i64 (0-a_e),0,ByteArray.empty)
noncomputable def alY {S:Type} (k:Nat) (a_e:Int) (ret:Int×Int×ByteArray→Option S):Option S:=Tw k ret a_e
def xl {S:Type} (k:Nat) (ret:Int×Int→Option S) (a_from a_by:Int) (rec0:(List Int)→Int→Option S) (l8:List Int) (v9:Int):Option S:=
 ab (decide ((v9:Int)<(l8.length:Int))) (
 Option.bind (af l8 v9) fun x2=>
 Option.bind (af l8 v9) fun x3=>
 ab (decide ((x3:Int)<a_from)) (
   rec0 l8 (IntKind.wrap .i64 (v9+1))) (
  Option.bind (af l8 v9) fun x4=>
  Option.bind (af l8 v9) fun x5=>
  ab (decide ((a_by:Int)≥(IntKind.wrap .i64 (24-x5)))) (
  ret (0,10)) (
  Option.bind (af l8 v9) fun x6=>
  Option.bind (af l8 v9) fun x7=>
  Option.bind (af l8 v9) fun x8=>
  Option.bind (af l8 v9) fun x9=>
    rec0 (l8.set (Int.toNat v9) (IntKind.wrap .i64 (x7+a_by))) (IntKind.wrap .i64 (v9+1))))) (
 aa k (amI k l8) fun r10=>
 ret (r10,0))
noncomputable def nJ {S:Type} (k:Nat) (ret:Int×Int→Option S) (a_from a_by:Int):Nat→(List Int)→Int→Option S
 |0=>fun _ _=> .none
 |m+1=>fun l8 v9=>xl k ret a_from a_by (nJ k ret a_from a_by m) l8 v9
def anU {S:Type} (k:Nat) (ret:Int×Int→Option S) (J0:(List Int)→Int→Option S) (s a_from a_by:Int):Option S:=
 ab (decide ((a_from:Int)<0)) (
 ret (0,2)) (
 ab (decide ((a_by:Int)<0)) (
  ret (0,2)) (
  aa k (amH k s) fun r1=>
   J0 r1 0))
noncomputable def amX {S:Type} (k:Nat) (s a_from a_by:Int) (ret:Int×Int→Option S):Option S:=anU k ret (fun l8 v9=>nJ k ret a_from a_by k l8 v9) s a_from a_by
def Tg {S:Type} (k:Nat) (ret:Cl×Int→Option S) (c:Cl) (a_from a_by:Int):Option S:=
 aa k (tT k c) fun r1=>
 ab (!r1) (
 ret ((Cl.mk 0 0),2)) (
 aa k (amX k c.pos a_from a_by) fun r2=>
 ab (!(r2.2==0)) (
  ret ((Cl.mk 0 0),r2.2)) (
  aa k (amX k c.neg a_from a_by) fun r3=>
  ab (!(r3.2==0)) (
  ret ((Cl.mk 0 0),r3.2)) (
  ret ((Cl.mk r2.1 r3.1),0))))
noncomputable def zh {S:Type} (k:Nat) (c:Cl) (a_from a_by:Int) (ret:Cl×Int→Option S):Option S:=Tg k ret c a_from a_by
def xx {S:Type} (k:Nat) (ret:List Cl×Int→Option S) (f:List Cl) (a_from a_by:Int) (rec0:(List Cl)→Int→Option S) (out8:List Cl) (i9:Int):Option S:=
 ab (decide ((i9:Int)<(f.length:Int))) (
 Option.bind (af f i9) fun x2=>
 aa k (zh k x2 a_from a_by) fun r3=>
 ab (!(r3.2==0)) (
  ret (([]:List Cl),r3.2)) (
  Option.bind (aw 1099511627776 out8.length [r3.1].length) fun x4=>
   rec0 (out8++[r3.1]) (IntKind.wrap .i64 (i9+1)))) (
 aa k (amJ k out8) fun r5=>
 ret (r5.1,r5.2))
noncomputable def qw {S:Type} (k:Nat) (ret:List Cl×Int→Option S) (f:List Cl) (a_from a_by:Int):Nat→(List Cl)→Int→Option S
 |0=>fun _ _=> .none
 |m+1=>fun out8 i9=>xx k ret f a_from a_by (qw k ret f a_from a_by m) out8 i9
def Ic {S:Type} (k:Nat) (ret:List Cl×Int→Option S) (J0:(List Cl)→Int→Option S) (f:List Cl) (a_from a_by:Int):Option S:=
 aa k (al6 k f) fun r1=>
 ab (!r1) (
 ret (([]:List Cl),2)) (
  J0 ([]:List Cl) 0)
noncomputable def amY {S:Type} (k:Nat) (f:List Cl) (a_from a_by:Int) (ret:List Cl×Int→Option S):Option S:=Ic k ret (fun out8 i9=>qw k ret f a_from a_by k out8 i9) f a_from a_by
def TB {S:Type} (k:Nat) (ret:List Cl×Int→Option S) (f:List Cl) (a_from a_by:Int):Option S:=
 ab ((f.length:Int)==0) (
 ret (([]:List Cl),0)) (
 aa k (amY k f a_from a_by) fun r1=>
 ret (r1.1,r1.2))
noncomputable def tZ {S:Type} (k:Nat) (f:List Cl) (a_from a_by:Int) (ret:List Cl×Int→Option S):Option S:=TB k ret f a_from a_by
abbrev fL (S:Type):=Tm→Int→Int→Int→Int→(Tm→Option S)→Option S
def xR {S:Type} (hd:fL S) (k:Nat) (ret:Tm→Option S) (t:Tm) (b11_1:Int) (r2:List Cl×Int) (b11_4:List Tm) (b11_5:List (Br Tm)) (r9:List Cl×Int) (v i18 vby d dby:Int) (rec2:(List (Br Tm))→Int→Option S) (rec3:(List Tm)→Int→Option S) (b21_1:List Tm) (v22:Int):Option S:=
 Option.bind (af t.sys i18) fun x11=>
 ab (decide ((v22:Int)<(x11.kids.length:Int))) (
 Option.bind (af t.sys i18) fun x12=>
 Option.bind (af x12.kids v22) fun x13=>
 aa k (am2 k t.kind) fun r14=>
 hd (ac x13) v vby (IntKind.wrap .i64 (d+r14)) dby fun r15=>
 ab (decide ((r15.kind:Int)<0)) (
  ret (ac r15)) (
  Option.bind (aw 1099511627776 b21_1.length [(ac r15)].length) fun x16=>
   rec3 (b21_1++[(ac r15)]) (IntKind.wrap .i64 (v22+1)))) (
 Option.bind (aw 1099511627776 b11_5.length [(Br.mk r9.1 b21_1)].length) fun x17=>
  rec2 (b11_5++[(Br.mk r9.1 b21_1)]) (IntKind.wrap .i64 (i18+1)))
noncomputable def amK {S:Type} (hd:fL S) (k:Nat) (ret:Tm→Option S) (rec2:(List (Br Tm))→Int→Option S) (t:Tm) (b11_1:Int) (r2:List Cl×Int) (b11_4:List Tm) (b11_5:List (Br Tm)) (r9:List Cl×Int) (v i18 vby d dby:Int):Nat→(List Tm)→Int→Option S
 |0=>fun _ _=> .none
 |m+1=>fun b21_1 v22=>xR hd k ret t b11_1 r2 b11_4 b11_5 r9 v i18 vby d dby rec2 (amK hd k ret rec2 t b11_1 r2 b11_4 b11_5 r9 v i18 vby d dby m) b21_1 v22
def ta {S:Type} (hd:fL S) (k:Nat) (ret:Tm→Option S) (t:Tm) (b11_1:Int) (r2:List Cl×Int) (b11_4:List Tm) (v vby d dby:Int) (J3:(List (Br Tm))→(List Cl×Int)→Int→(List Tm)→Int→Option S) (rec2:(List (Br Tm))→Int→Option S) (b11_5:List (Br Tm)) (i18:Int):Option S:=
 ab (decide ((i18:Int)<(t.sys.length:Int))) (
 Option.bind (af t.sys i18) fun x8=>
 aa k (tZ k x8.face d dby) fun r9=>
 ab (!(r9.2==0)) (
  aa k (alY k r9.2) fun r10=>
  ret (Tm.mk r10.1 r10.2.1 r10.2.2 [] [] [])) (
   J3 b11_5 r9 i18 ([]:List Tm) 0)) (
 ret (Tm.mk t.kind b11_1 t.name r2.1 b11_4 b11_5))
noncomputable def amh {S:Type} (hd:fL S) (k:Nat) (ret:Tm→Option S) (t:Tm) (b11_1:Int) (r2:List Cl×Int) (b11_4:List Tm) (v vby d dby:Int):Nat→(List (Br Tm))→Int→Option S
 |0=>fun _ _=> .none
 |m+1=>fun b11_5 i18=>ta hd k ret t b11_1 r2 b11_4 v vby d dby (fun b11_5 r9 i18 b21_1 v22=>amK hd k ret (amh hd k ret t b11_1 r2 b11_4 v vby d dby m) t b11_1 r2 b11_4 b11_5 r9 v i18 vby d dby k b21_1 v22) (amh hd k ret t b11_1 r2 b11_4 v vby d dby m) b11_5 i18
def s_ {S:Type} (hd:fL S) (k:Nat) (ret:Tm→Option S) (t:Tm) (b11_1:Int) (r2:List Cl×Int) (v vby d dby:Int) (J2:(List Tm)→(List (Br Tm))→Int→Option S) (rec1:(List Tm)→Int→Option S) (b11_4:List Tm) (i14:Int):Option S:=
 ab (decide ((i14:Int)<(t.kids.length:Int))) (
 aa k (am0 k t.kind i14) fun r4=>
 Option.bind (af t.kids i14) fun x5=>
 hd (ac x5) (IntKind.wrap .i64 (v+r4.1)) vby (IntKind.wrap .i64 (d+r4.2)) dby fun r6=>
 ab (decide ((r6.kind:Int)<0)) (
  ret (ac r6)) (
  Option.bind (aw 1099511627776 b11_4.length [(ac r6)].length) fun x7=>
   rec1 (b11_4++[(ac r6)]) (IntKind.wrap .i64 (i14+1)))) (
  J2 b11_4 ([]:List (Br Tm)) 0)
noncomputable def amE {S:Type} (hd:fL S) (k:Nat) (ret:Tm→Option S) (t:Tm) (b11_1:Int) (r2:List Cl×Int) (v vby d dby:Int):Nat→(List Tm)→Int→Option S
 |0=>fun _ _=> .none
 |m+1=>fun b11_4 i14=>s_ hd k ret t b11_1 r2 v vby d dby (fun b11_4 b11_5 i18=>amh hd k ret t b11_1 r2 b11_4 v vby d dby k b11_5 i18) (amE hd k ret t b11_1 r2 v vby d dby m) b11_4 i14
def s9 {S:Type} (hd:fL S) (k:Nat) (ret:Tm→Option S) (t:Tm) (v vby d dby:Int) (J1:Int→(List Cl×Int)→(List Tm)→Int→Option S) (b11_1:Int):Option S:=
 aa k (tZ k t.r d dby) fun r2=>
 ab (!(r2.2==0)) (
 aa k (alY k r2.2) fun r3=>
 ret (Tm.mk r3.1 r3.2.1 r3.2.2 [] [] [])) (
  J1 b11_1 r2 ([]:List Tm) 0)
noncomputable def Ao {S:Type} (hd:fL S) (k:Nat) (ret:Tm→Option S) (t:Tm) (v vby d dby:Int):Nat→Int→Option S
 |0=>fun _=> .none
 |_+1=>fun b11_1=>s9 hd k ret t v vby d dby (fun b11_1 r2 b11_4 i14=>amE hd k ret t b11_1 r2 v vby d dby k b11_4 i14) b11_1
def Iy {S:Type} (hd:fL S) (k:Nat) (ret:Tm→Option S) (J0:Int→Option S) (t:Tm) (v vby d dby:Int):Option S:=
 ab (t.kind==1) (
 ab (decide ((t.n:Int)≥v)) (
  ab (decide ((t.n:Int)>(IntKind.wrap .i64 (1000000000-vby)))) (
  aa k (alY k 100) fun r1=>
  ret (Tm.mk r1.1 r1.2.1 r1.2.2 [] [] [])) (
    J0 (IntKind.wrap .i64 (t.n+vby)))) (
   J0 t.n)) (
  J0 t.n)
noncomputable def alI {S:Type}:Nat→Tm→Int→Int→Int→Int→(Tm→Option S)→Option S
 |0=>fun _ _ _ _ _ _=> .none
 |k+1=>fun t v vby d dby ret=>Iy (alI k) k ret (fun b11_1=>Ao (alI k) k ret t v vby d dby k b11_1) t v vby d dby
def Tz {S:Type} (k:Nat) (ret:Tm→Option S) (t:Tm) (vars dims:Int):Option S:=
 ab (decide ((t.kind:Int)<0)) (
 ret (ac t)) (
 alI k (ac t) 0 vars 0 0 fun r1=>
 ab (decide ((r1.kind:Int)<0)) (
  ret (ac r1)) (
  alI k (ac r1) 0 0 0 dims fun r2=>
  ret (ac r2)))
noncomputable def amA {S:Type} (k:Nat) (t:Tm) (vars dims:Int) (ret:Tm→Option S):Option S:=Tz k ret t vars dims
def xY {S:Type} (k:Nat) (ret:Tm→Option S) (kind:Int) (kids:List Tm) (rec0:Int→Option S) (i5:Int):Option S:=
 ab (decide ((i5:Int)<(kids.length:Int))) (
 Option.bind (af kids i5) fun x1=>
 ab (decide ((x1.kind:Int)<0)) (
  Option.bind (af kids i5) fun x2=>
  ret (ac x2)) (
   rec0 (IntKind.wrap .i64 (i5+1)))) (
 ret (Tm.mk kind 0 ByteArray.empty [] kids []))
noncomputable def anx {S:Type} (k:Nat) (ret:Tm→Option S) (kind:Int) (kids:List Tm):Nat→Int→Option S
 |0=>fun _=> .none
 |m+1=>fun i5=>xY k ret kind kids (anx k ret kind kids m) i5
noncomputable def BX {S:Type} (k:Nat) (ret:Tm→Option S) (J0:Int→Option S) (kind:Int) (kids:List Tm):Option S:=
 J0 0
noncomputable def ue {S:Type} (k:Nat) (kind:Int) (kids:List Tm) (ret:Tm→Option S):Option S:=BX k ret (fun i5=>anx k ret kind kids k i5) kind kids
noncomputable def TI {S:Type} (k:Nat) (ret:Tm→Option S) (kind:Int) (a b:Tm):Option S:=
 aa k (ue k kind [(ac a),(ac b)]) fun r1=>
 ret (ac r1)
noncomputable def gH {S:Type} (k:Nat) (kind:Int) (a b:Tm) (ret:Tm→Option S):Option S:=TI k ret kind a b
def Iz {S:Type} (k:Nat) (ret:Int→Option S) (t:Tm) (a b:Int):Option S:=
 aa k (am1 k (ac t)) fun r1=>
 ab (r1==0) (
 ab (decide ((a:Int)<0)) (
  ret 2) (
  ab (decide ((b:Int)<0)) (
  ret 2) (
  ret r1))) (
 ret r1)
noncomputable def t6 {S:Type} (k:Nat) (t:Tm) (a b:Int) (ret:Int→Option S):Option S:=Iz k ret t a b
def Ix {S:Type} (k:Nat) (ret:Tm×Int→Option S) (t:Tm):Option S:=
 ab (decide ((t.kind:Int)<0)) (
 ret ((Tm.mk 0 0 ByteArray.empty [] [] []),IntKind.wrap .i64 (0-t.kind))) (
 ret ((ac t),0))
noncomputable def amP {S:Type} (k:Nat) (t:Tm) (ret:Tm×Int→Option S):Option S:=Ix k ret t
def Tx {S:Type} (k:Nat) (ret:Tm×Int→Option S) (t:Tm) (a_from a_by:Int):Option S:=
 aa k (t6 k (ac t) a_from a_by) fun r1=>
 ab (!(r1==0)) (
 ret ((Tm.mk 0 0 ByteArray.empty [] [] []),r1)) (
 ab (decide ((a_from:Int)>1000000000)) (
  alI k (ac t) 0 0 1000000000 a_by fun r2=>
  aa k (amP k (ac r2)) fun r3=>
  ret ((ac r3.1),r3.2)) (
  alI k (ac t) 0 0 a_from a_by fun r4=>
  aa k (amP k (ac r4)) fun r5=>
  ret ((ac r5.1),r5.2)))
noncomputable def zr {S:Type} (k:Nat) (t:Tm) (a_from a_by:Int) (ret:Tm×Int→Option S):Option S:=Tx k ret t a_from a_by
def xo {S:Type} (k:Nat) (ret:Int→Option S) (i:Int) (r1:List Int) (rec0:(List Int)→Int→Option S) (out6:List Int) (v7:Int):Option S:=
 ab (decide ((v7:Int)<(r1.length:Int))) (
 Option.bind (af r1 v7) fun x2=>
 Option.bind (af r1 v7) fun x3=>
 ab (!(x3==i)) (
  Option.bind (af r1 v7) fun x4=>
  Option.bind (af r1 v7) fun x5=>
  Option.bind (aw 1099511627776 out6.length [x5].length) fun x6=>
   rec0 (out6++[x5]) (IntKind.wrap .i64 (v7+1))) (
   rec0 out6 (IntKind.wrap .i64 (v7+1)))) (
 aa k (amI k out6) fun r7=>
 ret r7)
noncomputable def ql {S:Type} (k:Nat) (ret:Int→Option S) (i:Int) (r1:List Int):Nat→(List Int)→Int→Option S
 |0=>fun _ _=> .none
 |m+1=>fun out6 v7=>xo k ret i r1 (ql k ret i r1 m) out6 v7
noncomputable def H6 {S:Type} (k:Nat) (ret:Int→Option S) (J0:(List Int)→(List Int)→Int→Option S) (s i:Int):Option S:=
 aa k (amH k s) fun r1=>
 J0 r1 ([]:List Int) 0
noncomputable def gC {S:Type} (k:Nat) (s i:Int) (ret:Int→Option S):Option S:=H6 k ret (fun r1 out6 v7=>ql k ret i r1 k out6 v7) s i
def xF {S:Type} (k:Nat) (ret:List Cl×Int→Option S) (l:List Cl) (rec0:(List Cl)→Int→Option S) (out4:List Cl) (i5:Int):Option S:=
 ab (decide ((i5:Int)<(l.length:Int))) (
 Option.bind (af l i5) fun x1=>
 aa k (tQ k x1) fun r2=>
 ab (!r2) (
  Option.bind (af l i5) fun x3=>
  Option.bind (aw 1099511627776 out4.length [x3].length) fun x4=>
   rec0 (out4++[x3]) (IntKind.wrap .i64 (i5+1))) (
   rec0 out4 (IntKind.wrap .i64 (i5+1)))) (
 aa k (amJ k out4) fun r5=>
 ret (r5.1,r5.2))
noncomputable def anp {S:Type} (k:Nat) (ret:List Cl×Int→Option S) (l:List Cl):Nat→(List Cl)→Int→Option S
 |0=>fun _ _=> .none
 |m+1=>fun out4 i5=>xF k ret l (anp k ret l m) out4 i5
noncomputable def Ik {S:Type} (k:Nat) (ret:List Cl×Int→Option S) (J0:(List Cl)→Int→Option S) (l:List Cl):Option S:=
 J0 ([]:List Cl) 0
noncomputable def ng {S:Type} (k:Nat) (l:List Cl) (ret:List Cl×Int→Option S):Option S:=Ik k ret (fun out4 i5=>anp k ret l k out4 i5) l
def To {S:Type} (k:Nat) (ret:List Cl×Int→Option S) (f:List Cl):Option S:=
 aa k (al6 k f) fun r1=>
 ab (!r1) (
 ret (([]:List Cl),2)) (
 aa k (ng k f) fun r2=>
 ret (r2.1,r2.2))
noncomputable def zm {S:Type} (k:Nat) (f:List Cl) (ret:List Cl×Int→Option S):Option S:=To k ret f
def xA {S:Type} (k:Nat) (ret:List Cl→Option S) (c:Cl) (rec0:(List Cl)→Int→Option S) (out3:List Cl) (i4:Int):Option S:=
 ab (decide ((i4:Int)<24)) (
 aa k (amI k [i4]) fun r1=>
 aa k (al0 k c.pos i4) fun r2=>
 ab (r2) (
  Option.bind (aw 1099511627776 out3.length [(Cl.mk 0 r1)].length) fun x3=>
  aa k (al0 k c.neg i4) fun r4=>
  ab (r4) (
  Option.bind (aw 1099511627776 (out3++[(Cl.mk 0 r1)]).length [(Cl.mk r1 0)].length) fun x5=>
    rec0 ((out3++[(Cl.mk 0 r1)])++[(Cl.mk r1 0)]) (IntKind.wrap .i64 (i4+1))) (
    rec0 (out3++[(Cl.mk 0 r1)]) (IntKind.wrap .i64 (i4+1)))) (
  aa k (al0 k c.neg i4) fun r6=>
  ab (r6) (
  Option.bind (aw 1099511627776 out3.length [(Cl.mk r1 0)].length) fun x7=>
    rec0 (out3++[(Cl.mk r1 0)]) (IntKind.wrap .i64 (i4+1))) (
    rec0 out3 (IntKind.wrap .i64 (i4+1))))) (
 aa k (amJ k out3) fun r8=>
 ret r8.1)
noncomputable def anm {S:Type} (k:Nat) (ret:List Cl→Option S) (c:Cl):Nat→(List Cl)→Int→Option S
 |0=>fun _ _=> .none
 |m+1=>fun out3 i4=>xA k ret c (anm k ret c m) out3 i4
noncomputable def Ig {S:Type} (k:Nat) (ret:List Cl→Option S) (J0:(List Cl)→Int→Option S) (c:Cl):Option S:=
 J0 ([]:List Cl) 0
noncomputable def zl {S:Type} (k:Nat) (c:Cl) (ret:List Cl→Option S):Option S:=Ig k ret (fun out3 i4=>anm k ret c k out3 i4) c
def Td {S:Type} (k:Nat) (ret:Int→Option S) (s i:Int):Option S:=
 ab (decide ((i:Int)<0)) (
 aa k (gC k s (-1)) fun r1=>
 ret r1) (
 ab (decide ((i:Int)≥24)) (
  aa k (gC k s (-1)) fun r2=>
  ret r2) (
  aa k (gC k s i) fun r3=>
  aa k (amH k r3) fun r4=>
  Option.bind (aw 1099511627776 r4.length [i].length) fun x5=>
  aa k (amI k (r4++[i])) fun r6=>
  ret r6))
noncomputable def tP {S:Type} (k:Nat) (s i:Int) (ret:Int→Option S):Option S:=Td k ret s i
def xv {S:Type} (k:Nat) (ret:Int→Option S) (r1:List Int) (rec0:Int→Int→Option S) (a0 i6:Int):Option S:=
 ab (decide ((i6:Int)<(r1.length:Int))) (
 Option.bind (af r1 i6) fun x2=>
 Option.bind (af r1 i6) fun x3=>
 aa k (tP k a0 x3) fun r4=>
  rec0 r4 (IntKind.wrap .i64 (i6+1))) (
 ret a0)
noncomputable def qv {S:Type} (k:Nat) (ret:Int→Option S) (r1:List Int):Nat→Int→Int→Option S
 |0=>fun _ _=> .none
 |m+1=>fun a0 i6=>xv k ret r1 (qv k ret r1 m) a0 i6
noncomputable def Ia {S:Type} (k:Nat) (ret:Int→Option S) (J0:(List Int)→Int→Int→Option S) (a b:Int):Option S:=
 aa k (amH k b) fun r1=>
 J0 r1 a 0
noncomputable def tU {S:Type} (k:Nat) (a b:Int) (ret:Int→Option S):Option S:=Ia k ret (fun r1 a0 i6=>qv k ret r1 k a0 i6) a b
noncomputable def Th {S:Type} (k:Nat) (ret:Cl→Option S) (a b:Cl):Option S:=
 aa k (tU k a.pos b.pos) fun r1=>
 aa k (tU k a.neg b.neg) fun r2=>
 ret (Cl.mk r1 r2)
noncomputable def tR {S:Type} (k:Nat) (a b:Cl) (ret:Cl→Option S):Option S:=Th k ret a b
def xy {S:Type} (k:Nat) (ret:List Cl×Int→Option S) (f g:List Cl) (i7:Int) (rec0:(List Cl)→Int→Option S) (rec1:(List Cl)→Int→Option S) (out6':List Cl) (v8:Int):Option S:=
 ab (decide ((v8:Int)<(g.length:Int))) (
 Option.bind (af f i7) fun x3=>
 Option.bind (af g v8) fun x4=>
 aa k (tR k x3 x4) fun r5=>
 Option.bind (aw 1099511627776 out6'.length [r5].length) fun x6=>
  rec1 (out6'++[r5]) (IntKind.wrap .i64 (v8+1))) (
  rec0 out6' (IntKind.wrap .i64 (i7+1)))
noncomputable def nN {S:Type} (k:Nat) (ret:List Cl×Int→Option S) (rec0:(List Cl)→Int→Option S) (f g:List Cl) (i7:Int):Nat→(List Cl)→Int→Option S
 |0=>fun _ _=> .none
 |m+1=>fun out6' v8=>xy k ret f g i7 rec0 (nN k ret rec0 f g i7 m) out6' v8
def sK {S:Type} (k:Nat) (ret:List Cl×Int→Option S) (f g:List Cl) (J1:Int→(List Cl)→Int→Option S) (rec0:(List Cl)→Int→Option S) (out6:List Cl) (i7:Int):Option S:=
 ab (decide ((i7:Int)<(f.length:Int))) (
  J1 i7 out6 0) (
 aa k (amJ k out6) fun r7=>
 ret (r7.1,r7.2))
noncomputable def am5 {S:Type} (k:Nat) (ret:List Cl×Int→Option S) (f g:List Cl):Nat→(List Cl)→Int→Option S
 |0=>fun _ _=> .none
 |m+1=>fun out6 i7=>sK k ret f g (fun i7 out6' v8=>nN k ret (am5 k ret f g m) f g i7 k out6' v8) (am5 k ret f g m) out6 i7
def Id {S:Type} (k:Nat) (ret:List Cl×Int→Option S) (J0:(List Cl)→Int→Option S) (f g:List Cl):Option S:=
 aa k (al6 k f) fun r1=>
 ab (!r1) (
 ret (([]:List Cl),2)) (
 aa k (al6 k g) fun r2=>
 ab (!r2) (
  ret (([]:List Cl),2)) (
   J0 ([]:List Cl) 0))
noncomputable def amO {S:Type} (k:Nat) (f g:List Cl) (ret:List Cl×Int→Option S):Option S:=Id k ret (fun out6 i7=>am5 k ret f g k out6 i7) f g
def xz {S:Type} (k:Nat) (ret:List Cl×Int→Option S) (f:List Cl) (rec0:(List Cl)→Int→Int→Option S) (v4:List Cl) (v5 i6:Int):Option S:=
 ab (decide ((i6:Int)<(f.length:Int))) (
 ab (v5==0) (
  Option.bind (af f i6) fun x2=>
  aa k (zl k x2) fun r3=>
  aa k (amO k v4 r3) fun r4=>
   rec0 r4.1 r4.2 (IntKind.wrap .i64 (i6+1))) (
  ret (v4,v5))) (
 ret (v4,v5))
noncomputable def qx {S:Type} (k:Nat) (ret:List Cl×Int→Option S) (f:List Cl):Nat→(List Cl)→Int→Int→Option S
 |0=>fun _ _ _=> .none
 |m+1=>fun v4 v5 i6=>xz k ret f (qx k ret f m) v4 v5 i6
def Ie {S:Type} (k:Nat) (ret:List Cl×Int→Option S) (J0:(List Cl)→Int→Int→Option S) (f:List Cl):Option S:=
 aa k (al6 k f) fun r1=>
 ab (!r1) (
 ret (([]:List Cl),2)) (
  J0 [(Cl.mk 0 0)] 0 0)
noncomputable def pu {S:Type} (k:Nat) (f:List Cl) (ret:List Cl×Int→Option S):Option S:=Ie k ret (fun v4 v5 i6=>qx k ret f k v4 v5 i6) f
def Tp {S:Type} (k:Nat) (ret:List Cl×Int→Option S) (f:List Cl):Option S:=
 aa k (pu k f) fun r1=>
 ab (!(r1.2==0)) (
 ret (([]:List Cl),r1.2)) (
 aa k (ng k r1.1) fun r2=>
 ret (r2.1,r2.2))
noncomputable def tW {S:Type} (k:Nat) (f:List Cl) (ret:List Cl×Int→Option S):Option S:=Tp k ret f
def xB {S:Type} (k:Nat) (ret:List Cl×Int→Option S) (f g:List Cl) (i7:Int) (rec0:(List Cl)→Int→Option S) (rec1:(List Cl)→Int→Option S) (out6':List Cl) (v8:Int):Option S:=
 ab (decide ((v8:Int)<(g.length:Int))) (
 Option.bind (af f i7) fun x3=>
 Option.bind (af g v8) fun x4=>
 aa k (tR k x3 x4) fun r5=>
 Option.bind (aw 1099511627776 out6'.length [r5].length) fun x6=>
  rec1 (out6'++[r5]) (IntKind.wrap .i64 (v8+1))) (
  rec0 out6' (IntKind.wrap .i64 (i7+1)))
noncomputable def ana {S:Type} (k:Nat) (ret:List Cl×Int→Option S) (rec0:(List Cl)→Int→Option S) (f g:List Cl) (i7:Int):Nat→(List Cl)→Int→Option S
 |0=>fun _ _=> .none
 |m+1=>fun out6' v8=>xB k ret f g i7 rec0 (ana k ret rec0 f g i7 m) out6' v8
def sM {S:Type} (k:Nat) (ret:List Cl×Int→Option S) (f g:List Cl) (J1:Int→(List Cl)→Int→Option S) (rec0:(List Cl)→Int→Option S) (out6:List Cl) (i7:Int):Option S:=
 ab (decide ((i7:Int)<(f.length:Int))) (
  J1 i7 out6 0) (
 aa k (ng k out6) fun r7=>
 ret (r7.1,r7.2))
noncomputable def mb {S:Type} (k:Nat) (ret:List Cl×Int→Option S) (f g:List Cl):Nat→(List Cl)→Int→Option S
 |0=>fun _ _=> .none
 |m+1=>fun out6 i7=>sM k ret f g (fun i7 out6' v8=>ana k ret (mb k ret f g m) f g i7 k out6' v8) (mb k ret f g m) out6 i7
def Ih {S:Type} (k:Nat) (ret:List Cl×Int→Option S) (J0:(List Cl)→Int→Option S) (f g:List Cl):Option S:=
 aa k (jd k f) fun r1=>
 ab (!r1) (
 ret (([]:List Cl),2)) (
 aa k (jd k g) fun r2=>
 ab (!r2) (
  ret (([]:List Cl),2)) (
   J0 ([]:List Cl) 0))
noncomputable def amZ {S:Type} (k:Nat) (f g:List Cl) (ret:List Cl×Int→Option S):Option S:=Ih k ret (fun out6 i7=>mb k ret f g k out6 i7) f g
def Tn {S:Type} (k:Nat) (ret:List Cl×Int→Option S) (f g:List Cl):Option S:=
 aa k (jd k f) fun r1=>
 ab (!r1) (
 ret (([]:List Cl),2)) (
 aa k (jd k g) fun r2=>
 ab (!r2) (
  ret (([]:List Cl),2)) (
  Option.bind (aw 1099511627776 ([]:List Cl).length f.length) fun x3=>
  Option.bind (aw 1099511627776 (([]:List Cl)++f).length g.length) fun x4=>
  aa k (ng k ((([]:List Cl)++f)++g)) fun r5=>
  ret (r5.1,r5.2)))
noncomputable def gD {S:Type} (k:Nat) (f g:List Cl) (ret:List Cl×Int→Option S):Option S:=Tn k ret f g
def xD {S:Type} (k:Nat) (ret:List Cl×Int→Option S) (f:List Cl) (i:Int) (a_r:List Cl) (rec0:(List Cl)→Int→Option S) (v8:List Cl) (v9:Int):Option S:=
 ab (decide ((v9:Int)<(f.length:Int))) (
 Option.bind (af f v9) fun x3=>
 aa k (gC k x3.pos i) fun r4=>
 aa k (gC k x3.neg i) fun r5=>
 aa k (al0 k x3.pos i) fun r6=>
 ab (r6) (
  aa k (zm k a_r) fun r7=>
  aa k (al0 k x3.neg i) fun r8=>
  ab (r8) (
  aa k (tW k a_r) fun r9=>
  ab (r9.2==0) (
   aa k (amZ k [(Cl.mk r4 r5)] r9.1) fun r10=>
   ab (r10.2==0) (
   aa k (gD k v8 r10.1) fun r11=>
   ab (!(r11.2==0)) (
    ret (([]:List Cl),r11.2)) (
       rec0 r11.1 (IntKind.wrap .i64 (v9+1)))) (
   ab (!(r10.2==0)) (
    ret (([]:List Cl),r10.2)) (
       rec0 v8 (IntKind.wrap .i64 (v9+1))))) (
   ab (r9.2==0) (
   aa k (gD k v8 [(Cl.mk r4 r5)]) fun r12=>
   ab (!(r12.2==0)) (
    ret (([]:List Cl),r12.2)) (
       rec0 r12.1 (IntKind.wrap .i64 (v9+1)))) (
   ab (!(r9.2==0)) (
    ret (([]:List Cl),r9.2)) (
       rec0 v8 (IntKind.wrap .i64 (v9+1)))))) (
  ab (r7.2==0) (
   aa k (amZ k [(Cl.mk r4 r5)] r7.1) fun r13=>
   ab (r13.2==0) (
   aa k (gD k v8 r13.1) fun r14=>
   ab (!(r14.2==0)) (
    ret (([]:List Cl),r14.2)) (
       rec0 r14.1 (IntKind.wrap .i64 (v9+1)))) (
   ab (!(r13.2==0)) (
    ret (([]:List Cl),r13.2)) (
       rec0 v8 (IntKind.wrap .i64 (v9+1))))) (
   ab (r7.2==0) (
   aa k (gD k v8 [(Cl.mk r4 r5)]) fun r15=>
   ab (!(r15.2==0)) (
    ret (([]:List Cl),r15.2)) (
       rec0 r15.1 (IntKind.wrap .i64 (v9+1)))) (
   ab (!(r7.2==0)) (
    ret (([]:List Cl),r7.2)) (
       rec0 v8 (IntKind.wrap .i64 (v9+1))))))) (
  aa k (al0 k x3.neg i) fun r16=>
  ab (r16) (
  aa k (tW k a_r) fun r17=>
  ab (r17.2==0) (
   aa k (amZ k [(Cl.mk r4 r5)] r17.1) fun r18=>
   ab (r18.2==0) (
   aa k (gD k v8 r18.1) fun r19=>
   ab (!(r19.2==0)) (
    ret (([]:List Cl),r19.2)) (
       rec0 r19.1 (IntKind.wrap .i64 (v9+1)))) (
   ab (!(r18.2==0)) (
    ret (([]:List Cl),r18.2)) (
       rec0 v8 (IntKind.wrap .i64 (v9+1))))) (
   ab (r17.2==0) (
   aa k (gD k v8 [(Cl.mk r4 r5)]) fun r20=>
   ab (!(r20.2==0)) (
    ret (([]:List Cl),r20.2)) (
       rec0 r20.1 (IntKind.wrap .i64 (v9+1)))) (
   ab (!(r17.2==0)) (
    ret (([]:List Cl),r17.2)) (
       rec0 v8 (IntKind.wrap .i64 (v9+1)))))) (
  aa k (amZ k [(Cl.mk r4 r5)] [(Cl.mk 0 0)]) fun r21=>
  ab (r21.2==0) (
   aa k (gD k v8 r21.1) fun r22=>
   ab (!(r22.2==0)) (
   ret (([]:List Cl),r22.2)) (
      rec0 r22.1 (IntKind.wrap .i64 (v9+1)))) (
   ab (!(r21.2==0)) (
   ret (([]:List Cl),r21.2)) (
      rec0 v8 (IntKind.wrap .i64 (v9+1))))))) (
 ret (v8,0))
noncomputable def anb {S:Type} (k:Nat) (ret:List Cl×Int→Option S) (f:List Cl) (i:Int) (a_r:List Cl):Nat→(List Cl)→Int→Option S
 |0=>fun _ _=> .none
 |m+1=>fun v8 v9=>xD k ret f i a_r (anb k ret f i a_r m) v8 v9
def Ii {S:Type} (k:Nat) (ret:List Cl×Int→Option S) (J0:(List Cl)→Int→Option S) (f:List Cl) (i:Int) (a_r:List Cl):Option S:=
 aa k (jd k f) fun r1=>
 ab (!r1) (
 ret (([]:List Cl),2)) (
 ab (decide ((i:Int)<0)) (
  ret (([]:List Cl),2)) (
  ab (decide ((i:Int)≥24)) (
  ret (([]:List Cl),2)) (
  aa k (al6 k a_r) fun r2=>
  ab (!r2) (
   ret (([]:List Cl),2)) (
     J0 [] 0))))
noncomputable def zn {S:Type} (k:Nat) (f:List Cl) (i:Int) (a_r:List Cl) (ret:List Cl×Int→Option S):Option S:=Ii k ret (fun v8 v9=>anb k ret f i a_r k v8 v9) f i a_r
def Tj {S:Type} (k:Nat) (ret:List Cl×Int→Option S) (f g:List Cl):Option S:=
 aa k (al6 k f) fun r1=>
 ab (!r1) (
 ret (([]:List Cl),2)) (
 aa k (al6 k g) fun r2=>
 ab (!r2) (
  ret (([]:List Cl),2)) (
  Option.bind (aw 1099511627776 ([]:List Cl).length f.length) fun x3=>
  Option.bind (aw 1099511627776 (([]:List Cl)++f).length g.length) fun x4=>
  aa k (amJ k ((([]:List Cl)++f)++g)) fun r5=>
  ret (r5.1,r5.2)))
noncomputable def zj {S:Type} (k:Nat) (f g:List Cl) (ret:List Cl×Int→Option S):Option S:=Tj k ret f g
def Dc {S:Type} (k:Nat) (ret:List Cl×Int→Option S) (f:List Cl) (i:Int) (a_r v8:List Cl) (v9:Int) (rec0:(List Cl)→Int→Option S) (g11:List Cl) (v12:Int):Option S:=
 ab (v12==0) (
 aa k (zj k v8 g11) fun r11=>
 ab (!(r11.2==0)) (
  ret (([]:List Cl),r11.2)) (
   rec0 r11.1 (IntKind.wrap .i64 (v9+1)))) (
 ab (!(v12==0)) (
  ret (([]:List Cl),v12)) (
   rec0 v8 (IntKind.wrap .i64 (v9+1))))
noncomputable def qy {S:Type} (k:Nat) (ret:List Cl×Int→Option S) (rec0:(List Cl)→Int→Option S) (f:List Cl) (i:Int) (a_r v8:List Cl) (v9:Int):Nat→(List Cl)→Int→Option S
 |0=>fun _ _=> .none
 |_+1=>fun g11 v12=>Dc k ret f i a_r v8 v9 rec0 g11 v12
def sL {S:Type} (k:Nat) (ret:List Cl×Int→Option S) (f:List Cl) (i:Int) (a_r:List Cl) (J1:(List Cl)→Int→(List Cl)→Int→Option S) (rec0:(List Cl)→Int→Option S) (v8:List Cl) (v9:Int):Option S:=
 ab (decide ((v9:Int)<(f.length:Int))) (
 Option.bind (af f v9) fun x3=>
 aa k (gC k x3.pos i) fun r4=>
 aa k (gC k x3.neg i) fun r5=>
 aa k (al0 k x3.pos i) fun r6=>
 ab (r6) (
  aa k (amO k [(Cl.mk r4 r5)] a_r) fun r7=>
  ab (r7.2==0) (
  aa k (al0 k x3.neg i) fun r8=>
  ab (r8) (
   aa k (pu k a_r) fun r9=>
   ab (r9.2==0) (
   aa k (amO k r7.1 r9.1) fun r10=>
      J1 v8 v9 r10.1 r10.2) (
      J1 v8 v9 r7.1 r9.2)) (
     J1 v8 v9 r7.1 r7.2)) (
    J1 v8 v9 r7.1 r7.2)) (
  aa k (al0 k x3.neg i) fun r12=>
  ab (r12) (
  aa k (pu k a_r) fun r13=>
  ab (r13.2==0) (
   aa k (amO k [(Cl.mk r4 r5)] r13.1) fun r14=>
     J1 v8 v9 r14.1 r14.2) (
     J1 v8 v9 [(Cl.mk r4 r5)] r13.2)) (
    J1 v8 v9 [(Cl.mk r4 r5)] 0))) (
 ret (v8,0))
noncomputable def am6 {S:Type} (k:Nat) (ret:List Cl×Int→Option S) (f:List Cl) (i:Int) (a_r:List Cl):Nat→(List Cl)→Int→Option S
 |0=>fun _ _=> .none
 |m+1=>fun v8 v9=>sL k ret f i a_r (fun v8 v9 g11 v12=>qy k ret (am6 k ret f i a_r m) f i a_r v8 v9 k g11 v12) (am6 k ret f i a_r m) v8 v9
def If {S:Type} (k:Nat) (ret:List Cl×Int→Option S) (J0:(List Cl)→Int→Option S) (f:List Cl) (i:Int) (a_r:List Cl):Option S:=
 aa k (al6 k f) fun r1=>
 ab (!r1) (
 ret (([]:List Cl),2)) (
 aa k (al6 k a_r) fun r2=>
 ab (!r2) (
  ret (([]:List Cl),2)) (
  ab (decide ((i:Int)<0)) (
  ret (([]:List Cl),2)) (
  ab (decide ((i:Int)≥24)) (
   ret (([]:List Cl),2)) (
     J0 [] 0))))
noncomputable def zk {S:Type} (k:Nat) (f:List Cl) (i:Int) (a_r:List Cl) (ret:List Cl×Int→Option S):Option S:=If k ret (fun v8 v9=>am6 k ret f i a_r k v8 v9) f i a_r
def TD {S:Type} (k:Nat) (ret:List Cl×Int→Option S) (f:List Cl) (isFace:Bool) (i:Int) (a_r:List Cl) (depth:Int):Option S:=
 aa k (tV k f) fun r1=>
 aa k (al0 k r1 (IntKind.wrap .i64 (i+depth))) fun r2=>
 ab (!r2) (
 ret (f,0)) (
 aa k (amY k a_r 0 depth) fun r3=>
 ab (!(r3.2==0)) (
  ret (([]:List Cl),r3.2)) (
  ab (isFace) (
  aa k (zn k f (IntKind.wrap .i64 (i+depth)) r3.1) fun r4=>
  ret (r4.1,r4.2)) (
  aa k (zk k f (IntKind.wrap .i64 (i+depth)) r3.1) fun r5=>
  ret (r5.1,r5.2))))
noncomputable def t_ {S:Type} (k:Nat) (f:List Cl) (isFace:Bool) (i:Int) (a_r:List Cl) (depth:Int) (ret:List Cl×Int→Option S):Option S:=TD k ret f isFace i a_r depth
def xk {S:Type} (k:Nat) (ret:Int→Option S) (i:Int) (rec0:(List Int)→Int→Option S) (l5:List Int) (v6:Int):Option S:=
 ab (decide ((v6:Int)<(l5.length:Int))) (
 ab (decide ((i:Int)≥0)) (
  Option.bind (af l5 v6) fun x3=>
  Option.bind (af l5 v6) fun x4=>
  ab (decide ((x4:Int)>i)) (
  Option.bind (af l5 v6) fun x5=>
  Option.bind (af l5 v6) fun x6=>
  Option.bind (af l5 v6) fun x7=>
  Option.bind (af l5 v6) fun x8=>
    rec0 (l5.set (Int.toNat v6) (IntKind.wrap .i64 (x6-1))) (IntKind.wrap .i64 (v6+1))) (
    rec0 l5 (IntKind.wrap .i64 (v6+1)))) (
   rec0 l5 (IntKind.wrap .i64 (v6+1)))) (
 aa k (amI k l5) fun r9=>
 ret r9)
noncomputable def nI {S:Type} (k:Nat) (ret:Int→Option S) (i:Int):Nat→(List Int)→Int→Option S
 |0=>fun _ _=> .none
 |m+1=>fun l5 v6=>xk k ret i (nI k ret i m) l5 v6
noncomputable def H3 {S:Type} (k:Nat) (ret:Int→Option S) (J0:(List Int)→Int→Option S) (s i:Int):Option S:=
 aa k (gC k s i) fun r1=>
 aa k (amH k r1) fun r2=>
 J0 r2 0
noncomputable def po {S:Type} (k:Nat) (s i:Int) (ret:Int→Option S):Option S:=H3 k ret (fun l5 v6=>nI k ret i k l5 v6) s i
def xW {S:Type} (k:Nat) (ret:List Cl→Option S) (f:List Cl) (i:Int) (rec0:(List Cl)→Int→Option S) (out5:List Cl) (v6:Int):Option S:=
 ab (decide ((v6:Int)<(f.length:Int))) (
 Option.bind (af f v6) fun x1=>
 aa k (po k x1.pos i) fun r2=>
 Option.bind (af f v6) fun x3=>
 aa k (po k x3.neg i) fun r4=>
 Option.bind (aw 1099511627776 out5.length [(Cl.mk r2 r4)].length) fun x5=>
  rec0 (out5++[(Cl.mk r2 r4)]) (IntKind.wrap .i64 (v6+1))) (
 aa k (amJ k out5) fun r6=>
 ret r6.1)
noncomputable def anv {S:Type} (k:Nat) (ret:List Cl→Option S) (f:List Cl) (i:Int):Nat→(List Cl)→Int→Option S
 |0=>fun _ _=> .none
 |m+1=>fun out5 v6=>xW k ret f i (anv k ret f i m) out5 v6
noncomputable def IC {S:Type} (k:Nat) (ret:List Cl→Option S) (J0:(List Cl)→Int→Option S) (f:List Cl) (i:Int):Option S:=
 J0 ([]:List Cl) 0
noncomputable def t8 {S:Type} (k:Nat) (f:List Cl) (i:Int) (ret:List Cl→Option S):Option S:=IC k ret (fun out5 v6=>anv k ret f i k out5 v6) f i
abbrev g6 (S:Type):=Tm→Int→(List Cl)→Int→Bool→(Tm→Option S)→Option S
def xX {S:Type} (hd:g6 S) (k:Nat) (ret:Tm→Option S) (t:Tm) (b11_3:List Cl) (b11_4:List Tm) (b11_5:List (Br Tm)) (i v18:Int) (a_r:List Cl) (depth:Int) (drop:Bool) (rec1:(List (Br Tm))→Int→Option S) (rec2:(List Cl)→(List Tm)→Int→Option S) (b21_0:List Cl) (b21_1:List Tm) (v22:Int):Option S:=
 Option.bind (af t.sys v18) fun x12=>
 ab (decide ((v22:Int)<(x12.kids.length:Int))) (
 Option.bind (af t.sys v18) fun x13=>
 Option.bind (af x13.kids v22) fun x14=>
 aa k (am2 k t.kind) fun r15=>
 hd (ac x14) i a_r (IntKind.wrap .i64 (depth+r15)) drop fun r16=>
 ab (decide ((r16.kind:Int)<0)) (
  ret (ac r16)) (
  Option.bind (aw 1099511627776 b21_1.length [(ac r16)].length) fun x17=>
   rec2 b21_0 (b21_1++[(ac r16)]) (IntKind.wrap .i64 (v22+1)))) (
 Option.bind (aw 1099511627776 b11_5.length [(Br.mk b21_0 b21_1)].length) fun x18=>
  rec1 (b11_5++[(Br.mk b21_0 b21_1)]) (IntKind.wrap .i64 (v18+1)))
noncomputable def kI {S:Type} (hd:g6 S) (k:Nat) (ret:Tm→Option S) (rec1:(List (Br Tm))→Int→Option S) (t:Tm) (b11_3:List Cl) (b11_4:List Tm) (b11_5:List (Br Tm)) (i v18:Int) (a_r:List Cl) (depth:Int) (drop:Bool):Nat→(List Cl)→(List Tm)→Int→Option S
 |0=>fun _ _ _=> .none
 |m+1=>fun b21_0 b21_1 v22=>xX hd k ret t b11_3 b11_4 b11_5 i v18 a_r depth drop rec1 (kI hd k ret rec1 t b11_3 b11_4 b11_5 i v18 a_r depth drop m) b21_0 b21_1 v22
def tg {S:Type} (hd:g6 S) (k:Nat) (ret:Tm→Option S) (t:Tm) (b11_3:List Cl) (b11_4:List Tm) (i:Int) (a_r:List Cl) (depth:Int) (drop:Bool) (J2:(List (Br Tm))→Int→(List Cl)→(List Tm)→Int→Option S) (rec1:(List (Br Tm))→Int→Option S) (b11_5:List (Br Tm)) (v18:Int):Option S:=
 ab (decide ((v18:Int)<(t.sys.length:Int))) (
 Option.bind (af t.sys v18) fun x8=>
 aa k (t_ k x8.face true i a_r depth) fun r9=>
 ab (!(r9.2==0)) (
  aa k (alY k r9.2) fun r10=>
  ret (Tm.mk r10.1 r10.2.1 r10.2.2 [] [] [])) (
  ab ((r9.1.length:Int)==0) (
    rec1 b11_5 (IntKind.wrap .i64 (v18+1))) (
  ab (drop) (
   aa k (t8 k r9.1 (IntKind.wrap .i64 (i+depth))) fun r11=>
     J2 b11_5 v18 r11 ([]:List Tm) 0) (
     J2 b11_5 v18 r9.1 ([]:List Tm) 0)))) (
 ret (Tm.mk t.kind t.n t.name b11_3 b11_4 b11_5))
noncomputable def amF {S:Type} (hd:g6 S) (k:Nat) (ret:Tm→Option S) (t:Tm) (b11_3:List Cl) (b11_4:List Tm) (i:Int) (a_r:List Cl) (depth:Int) (drop:Bool):Nat→(List (Br Tm))→Int→Option S
 |0=>fun _ _=> .none
 |m+1=>fun b11_5 v18=>tg hd k ret t b11_3 b11_4 i a_r depth drop (fun b11_5 v18 b21_0 b21_1 v22=>kI hd k ret (amF hd k ret t b11_3 b11_4 i a_r depth drop m) t b11_3 b11_4 b11_5 i v18 a_r depth drop k b21_0 b21_1 v22) (amF hd k ret t b11_3 b11_4 i a_r depth drop m) b11_5 v18
def tf {S:Type} (hd:g6 S) (k:Nat) (ret:Tm→Option S) (t:Tm) (i:Int) (a_r:List Cl) (depth:Int) (drop:Bool) (J1:(List Cl)→(List Tm)→(List (Br Tm))→Int→Option S) (rec0:(List Cl)→(List Tm)→Int→Option S) (b11_3:List Cl) (b11_4:List Tm) (v14:Int):Option S:=
 ab (decide ((v14:Int)<(t.kids.length:Int))) (
 aa k (am0 k t.kind v14) fun r4=>
 Option.bind (af t.kids v14) fun x5=>
 hd (ac x5) i a_r (IntKind.wrap .i64 (depth+r4.2)) drop fun r6=>
 ab (decide ((r6.kind:Int)<0)) (
  ret (ac r6)) (
  Option.bind (aw 1099511627776 b11_4.length [(ac r6)].length) fun x7=>
   rec0 b11_3 (b11_4++[(ac r6)]) (IntKind.wrap .i64 (v14+1)))) (
  J1 b11_3 b11_4 ([]:List (Br Tm)) 0)
noncomputable def mg {S:Type} (hd:g6 S) (k:Nat) (ret:Tm→Option S) (t:Tm) (i:Int) (a_r:List Cl) (depth:Int) (drop:Bool):Nat→(List Cl)→(List Tm)→Int→Option S
 |0=>fun _ _ _=> .none
 |m+1=>fun b11_3 b11_4 v14=>tf hd k ret t i a_r depth drop (fun b11_3 b11_4 b11_5 v18=>amF hd k ret t b11_3 b11_4 i a_r depth drop k b11_5 v18) (mg hd k ret t i a_r depth drop m) b11_3 b11_4 v14
def ID {S:Type} (hd:g6 S) (k:Nat) (ret:Tm→Option S) (J0:(List Cl)→(List Tm)→Int→Option S) (t:Tm) (i:Int) (a_r:List Cl) (depth:Int) (drop:Bool):Option S:=
 aa k (t_ k t.r (t.kind==14) i a_r depth) fun r1=>
 ab (!(r1.2==0)) (
 aa k (alY k r1.2) fun r2=>
 ret (Tm.mk r2.1 r2.2.1 r2.2.2 [] [] [])) (
 ab (drop) (
  aa k (t8 k r1.1 (IntKind.wrap .i64 (i+depth))) fun r3=>
   J0 r3 ([]:List Tm) 0) (
   J0 r1.1 ([]:List Tm) 0))
noncomputable def fR {S:Type}:Nat→Tm→Int→(List Cl)→Int→Bool→(Tm→Option S)→Option S
 |0=>fun _ _ _ _ _ _=> .none
 |k+1=>fun t i a_r depth drop ret=>ID (fR k) k ret (fun b11_3 b11_4 v14=>mg (fR k) k ret t i a_r depth drop k b11_3 b11_4 v14) t i a_r depth drop
def TC {S:Type} (k:Nat) (ret:Tm→Option S) (t:Tm) (i:Int) (a_r:List Cl):Option S:=
 ab (decide ((t.kind:Int)<0)) (
 ret (ac t)) (
 aa k (amY k a_r i 1) fun r1=>
 ab (!(r1.2==0)) (
  aa k (alY k r1.2) fun r2=>
  ret (Tm.mk r2.1 r2.2.1 r2.2.2 [] [] [])) (
  fR k (ac t) i r1.1 0 true fun r3=>
  ret (ac r3)))
noncomputable def py {S:Type} (k:Nat) (t:Tm) (i:Int) (a_r:List Cl) (ret:Tm→Option S):Option S:=TC k ret t i a_r
def TG {S:Type} (k:Nat) (ret:Tm→Option S) (line:Tm) (a_r:List Cl):Option S:=
 ab (decide ((line.kind:Int)<0)) (
 ret (ac line)) (
 aa k (zr k (ac line) 1 2) fun r1=>
 ab (!(r1.2==0)) (
  aa k (alY k r1.2) fun r2=>
  ret (Tm.mk r2.1 r2.2.1 r2.2.2 [] [] [])) (
  aa k (py k (ac r1.1) 0 a_r) fun r3=>
  ret (ac r3)))
noncomputable def ni {S:Type} (k:Nat) (line:Tm) (a_r:List Cl) (ret:Tm→Option S):Option S:=TG k ret line a_r
def IF {S:Type} (k:Nat) (ret:Tm→Option S) (t:Tm) (f:List Cl) (kid:Tm):Option S:=
 ab (decide ((t.kind:Int)<0)) (
 ret (ac t)) (
 ab (decide ((kid.kind:Int)<0)) (
  ret (ac kid)) (
  Option.bind (aw 1099511627776 ([]:List (Br Tm)).length t.sys.length) fun x1=>
  Option.bind (aw 1099511627776 (([]:List (Br Tm))++t.sys).length [(Br.mk f [(ac kid)])].length) fun x2=>
  ret (Tm.mk t.kind t.n t.name t.r t.kids ((([]:List (Br Tm))++t.sys)++[(Br.mk f [(ac kid)])]))))
noncomputable def amx {S:Type} (k:Nat) (t:Tm) (f:List Cl) (kid:Tm) (ret:Tm→Option S):Option S:=IF k ret t f kid
def oW {S:Type} (k:Nat) (ret:Tm→Option S) (a:Tm) (sys:List (Br Tm)) (rec0:Tm→Int→Option S) (b7:Tm) (i8:Int):Option S:=
 ab (decide ((i8:Int)<(sys.length:Int))) (
 ab (decide ((b7.kind:Int)≥0)) (
  Option.bind (af sys i8) fun x4=>
  aa k (amY k x4.face 0 1) fun r5=>
  ab (!(r5.2==0)) (
  aa k (alY k r5.2) fun r6=>
  ret (Tm.mk r6.1 r6.2.1 r6.2.2 [] [] [])) (
  Option.bind (af sys i8) fun x7=>
  Option.bind (af x7.kids 0) fun x8=>
  aa k (ni k (ac x8) [(Cl.mk 3 0)]) fun r9=>
  aa k (amx k (ac b7) r5.1 (ac r9)) fun r10=>
    rec0 (ac r10) (IntKind.wrap .i64 (i8+1)))) (
  aa k (amA k (ac a) 0 2) fun r11=>
  aa k (amx k (ac b7) [(Cl.mk 0 1)] (ac r11)) fun r12=>
  ret (ac r12))) (
 aa k (amA k (ac a) 0 2) fun r13=>
 aa k (amx k (ac b7) [(Cl.mk 0 1)] (ac r13)) fun r14=>
 ret (ac r14))
noncomputable def kJ {S:Type} (k:Nat) (ret:Tm→Option S) (a:Tm) (sys:List (Br Tm)):Nat→Tm→Int→Option S
 |0=>fun _ _=> .none
 |m+1=>fun b7 i8=>oW k ret a sys (kJ k ret a sys m) b7 i8
noncomputable def IH {S:Type} (k:Nat) (ret:Tm→Option S) (J0:Tm→Int→Option S) (t a:Tm) (sys:List (Br Tm)):Option S:=
 aa k (amA k (ac t) 0 1) fun r1=>
 aa k (amA k (ac a) 0 1) fun r2=>
 aa k (gH k 15 (ac r1) (ac r2)) fun r3=>
 J0 (ac r3) 0
noncomputable def uc {S:Type} (k:Nat) (t a:Tm) (sys:List (Br Tm)) (ret:Tm→Option S):Option S:=IH k ret (fun b7 i8=>kJ k ret a sys k b7 i8) t a sys
def TF {S:Type} (k:Nat) (ret:Tm×Int→Option S) (t:Tm):Option S:=
 ab (decide ((t.kind:Int)<0)) (
 ret ((Tm.mk 0 0 ByteArray.empty [] [] []),IntKind.wrap .i64 (0-t.kind))) (
 aa k (am1 k (ac t)) fun r1=>
 ab (!(r1==0)) (
  ret ((Tm.mk 0 0 ByteArray.empty [] [] []),r1)) (
  ret ((ac t),0)))
noncomputable def nh {S:Type} (k:Nat) (t:Tm) (ret:Tm×Int→Option S):Option S:=TF k ret t
def TH {S:Type} (k:Nat) (ret:Tm×Int→Option S) (t a:Tm) (sys:List (Br Tm)):Option S:=
 aa k (ua k 15 sys) fun r1=>
 aa k (pz k [(ac t),(ac a),(ac r1)]) fun r2=>
 ab (!(r2==0)) (
 ret ((Tm.mk 0 0 ByteArray.empty [] [] []),r2)) (
 aa k (uc k (ac t) (ac a) sys) fun r3=>
 aa k (nh k (ac r3)) fun r4=>
 ret ((ac r4.1),r4.2))
noncomputable def zw {S:Type} (k:Nat) (t a:Tm) (sys:List (Br Tm)) (ret:Tm×Int→Option S):Option S:=TH k ret t a sys
def TJ {S:Type} (k:Nat) (ret:Tm→Option S) (t:Tm) (dims:Int):Option S:=
 ab (decide ((t.kind:Int)<0)) (
 ret (ac t)) (
 aa k (amA k (ac t) 0 dims) fun r1=>
 ret (ac r1))
noncomputable def DS {S:Type} (k:Nat) (t:Tm) (dims:Int) (ret:Tm→Option S):Option S:=TJ k ret t dims
abbrev fM (S:Type):=Tm→Int→(Int→Option S)→Option S
def xU {S:Type} (hd:fM S) (k:Nat) (ret:Int→Option S) (t:Tm) (a_n i9:Int) (rec2:Int→Int→Option S) (rec3:Int→Int→Option S) (v10 sum5''':Int):Option S:=
 Option.bind (af t.sys i9) fun x4=>
 ab (decide ((v10:Int)<(x4.kids.length:Int))) (
 Option.bind (af t.sys i9) fun x5=>
 Option.bind (af x5.kids v10) fun x6=>
 hd (ac x6) a_n fun r7=>
  rec3 (IntKind.wrap .i64 (v10+1)) (IntKind.wrap .i64 (sum5'''+r7))) (
  rec2 sum5''' (IntKind.wrap .i64 (i9+1)))
noncomputable def nW {S:Type} (hd:fM S) (k:Nat) (ret:Int→Option S) (rec2:Int→Int→Option S) (t:Tm) (a_n i9:Int):Nat→Int→Int→Option S
 |0=>fun _ _=> .none
 |m+1=>fun v10 sum5'''=>xU hd k ret t a_n i9 rec2 (nW hd k ret rec2 t a_n i9 m) v10 sum5'''
def tc {S:Type} (hd:fM S) (k:Nat) (ret:Int→Option S) (t:Tm) (a_n:Int) (J3:Int→Int→Int→Option S) (rec2:Int→Int→Option S) (sum5'' i9:Int):Option S:=
 ab (decide ((i9:Int)<(t.sys.length:Int))) (
  J3 i9 0 sum5'') (
 ret sum5'')
noncomputable def kG {S:Type} (hd:fM S) (k:Nat) (ret:Int→Option S) (t:Tm) (a_n:Int):Nat→Int→Int→Option S
 |0=>fun _ _=> .none
 |m+1=>fun sum5'' i9=>tc hd k ret t a_n (fun i9 v10 sum5'''=>nW hd k ret (kG hd k ret t a_n m) t a_n i9 k v10 sum5''') (kG hd k ret t a_n m) sum5'' i9
def tb {S:Type} (hd:fM S) (k:Nat) (ret:Int→Option S) (t:Tm) (a_n:Int) (J2:Int→Int→Option S) (rec1:Int→Int→Option S) (sum5' i6:Int):Option S:=
 ab (decide ((i6:Int)<(t.kids.length:Int))) (
 aa k (am0 k t.kind i6) fun r1=>
 Option.bind (af t.kids i6) fun x2=>
 hd (ac x2) (IntKind.wrap .i64 (a_n+r1.1)) fun r3=>
  rec1 (IntKind.wrap .i64 (sum5'+r3)) (IntKind.wrap .i64 (i6+1))) (
  J2 sum5' 0)
noncomputable def nV {S:Type} (hd:fM S) (k:Nat) (ret:Int→Option S) (t:Tm) (a_n:Int):Nat→Int→Int→Option S
 |0=>fun _ _=> .none
 |m+1=>fun sum5' i6=>tb hd k ret t a_n (fun sum5'' i9=>kG hd k ret t a_n k sum5'' i9) (nV hd k ret t a_n m) sum5' i6
noncomputable def xS {S:Type} (hd:fM S) (k:Nat) (ret:Int→Option S) (t:Tm) (a_n:Int) (J1:Int→Int→Option S) (sum5:Int):Option S:=
 J1 sum5 0
noncomputable def Ap {S:Type} (hd:fM S) (k:Nat) (ret:Int→Option S) (t:Tm) (a_n:Int):Nat→Int→Option S
 |0=>fun _=> .none
 |_+1=>fun sum5=>xS hd k ret t a_n (fun sum5' i6=>nV hd k ret t a_n k sum5' i6) sum5
def IB {S:Type} (hd:fM S) (k:Nat) (ret:Int→Option S) (J0:Int→Option S) (t:Tm) (a_n:Int):Option S:=
 ab (t.kind==1) (
 ab (t.n==a_n) (
   J0 1) (
   J0 0)) (
  J0 0)
noncomputable def amB {S:Type}:Nat→Tm→Int→(Int→Option S)→Option S
 |0=>fun _ _ _=> .none
 |k+1=>fun t a_n ret=>IB (amB k) k ret (fun sum5=>Ap (amB k) k ret t a_n k sum5) t a_n
def Dh {S:Type} (k:Nat) (ret:Tm×Int→Option S) (t:Tm) (a_from a_by:Int) (v8:Int):Option S:=
 ab (!(v8==0)) (
 ret ((Tm.mk 0 0 ByteArray.empty [] [] []),v8)) (
 ab (decide ((a_from:Int)>2000000000)) (
  alI k (ac t) 2000000000 a_by 0 0 fun r2=>
  aa k (amP k (ac r2)) fun r3=>
  ret ((ac r3.1),r3.2)) (
  alI k (ac t) a_from a_by 0 0 fun r4=>
  aa k (amP k (ac r4)) fun r5=>
  ret ((ac r5.1),r5.2)))
noncomputable def E_ {S:Type} (k:Nat) (ret:Tm×Int→Option S) (t:Tm) (a_from a_by:Int):Nat→Int→Option S
 |0=>fun _=> .none
 |_+1=>fun v8=>Dh k ret t a_from a_by v8
def Iw {S:Type} (k:Nat) (ret:Tm×Int→Option S) (J0:Int→Option S) (t:Tm) (a_from a_by:Int):Option S:=
 aa k (t6 k (ac t) a_from a_by) fun r1=>
 ab (r1==0) (
 ab (decide ((a_by:Int)>1000000)) (
   J0 2) (
   J0 r1)) (
  J0 r1)
noncomputable def zt {S:Type} (k:Nat) (t:Tm) (a_from a_by:Int) (ret:Tm×Int→Option S):Option S:=Iw k ret (fun v8=>E_ k ret t a_from a_by k v8) t a_from a_by
def Dg {S:Type} (k:Nat) (ret:Tm×Int→Option S) (t:Tm) (r1:Tm×Int) (dims:Int) (v9:Int):Option S:=
 ab (!(v9==0)) (
 ab (decide ((dims:Int)<0)) (
  ab (v9==100) (
  aa k (am1 k (ac t)) fun r2=>
  ab (r2==0) (
   ret ((Tm.mk 0 0 ByteArray.empty [] [] []),2)) (
   ret ((Tm.mk 0 0 ByteArray.empty [] [] []),v9))) (
  ret ((Tm.mk 0 0 ByteArray.empty [] [] []),v9))) (
  ret ((Tm.mk 0 0 ByteArray.empty [] [] []),v9))) (
 alI k (ac r1.1) 0 0 0 dims fun r3=>
 aa k (amP k (ac r3)) fun r4=>
 ret ((ac r4.1),r4.2))
noncomputable def E9 {S:Type} (k:Nat) (ret:Tm×Int→Option S) (t:Tm) (r1:Tm×Int) (dims:Int):Nat→Int→Option S
 |0=>fun _=> .none
 |_+1=>fun v9=>Dg k ret t r1 dims v9
def Iv {S:Type} (k:Nat) (ret:Tm×Int→Option S) (J0:(Tm×Int)→Int→Option S) (t:Tm) (vars dims:Int):Option S:=
 aa k (zt k (ac t) 0 vars) fun r1=>
 ab (r1.2==0) (
 ab (decide ((dims:Int)<0)) (
   J0 r1 2) (
   J0 r1 r1.2)) (
  J0 r1 r1.2)
noncomputable def zq {S:Type} (k:Nat) (t:Tm) (vars dims:Int) (ret:Tm×Int→Option S):Option S:=Iv k ret (fun r1 v9=>E9 k ret t r1 dims k v9) t vars dims
abbrev eO (S:Type):=Tm→Int→Tm→Int→Int→(Tm→Option S)→Option S
def xV {S:Type} (hd:eO S) (k:Nat) (ret:Tm→Option S) (t:Tm) (b13_1:Int) (b13_4:List Tm) (b13_5:List (Br Tm)) (x7:(Br Tm)) (u:Tm) (a_n i18 vars dims:Int) (rec3:(List (Br Tm))→Int→Option S) (rec4:(List Tm)→Int→Option S) (b19_1:List Tm) (m20:Int):Option S:=
 Option.bind (af t.sys i18) fun x8=>
 ab (decide ((m20:Int)<(x8.kids.length:Int))) (
 Option.bind (af t.sys i18) fun x9=>
 Option.bind (af x9.kids m20) fun x10=>
 aa k (am2 k t.kind) fun r11=>
 hd (ac x10) a_n (ac u) vars (IntKind.wrap .i64 (dims+r11)) fun r12=>
 ab (decide ((r12.kind:Int)<0)) (
  ret (ac r12)) (
  Option.bind (aw 1099511627776 b19_1.length [(ac r12)].length) fun x13=>
   rec4 (b19_1++[(ac r12)]) (IntKind.wrap .i64 (m20+1)))) (
 Option.bind (aw 1099511627776 b13_5.length [(Br.mk x7.face b19_1)].length) fun x14=>
  rec3 (b13_5++[(Br.mk x7.face b19_1)]) (IntKind.wrap .i64 (i18+1)))
noncomputable def mf {S:Type} (hd:eO S) (k:Nat) (ret:Tm→Option S) (rec3:(List (Br Tm))→Int→Option S) (t:Tm) (b13_1:Int) (b13_4:List Tm) (b13_5:List (Br Tm)) (x7:(Br Tm)) (u:Tm) (a_n i18 vars dims:Int):Nat→(List Tm)→Int→Option S
 |0=>fun _ _=> .none
 |m+1=>fun b19_1 m20=>xV hd k ret t b13_1 b13_4 b13_5 x7 u a_n i18 vars dims rec3 (mf hd k ret rec3 t b13_1 b13_4 b13_5 x7 u a_n i18 vars dims m) b19_1 m20
def te {S:Type} (hd:eO S) (k:Nat) (ret:Tm→Option S) (t:Tm) (b13_1:Int) (b13_4:List Tm) (u:Tm) (a_n vars dims:Int) (J4:(List (Br Tm))→(Br Tm)→Int→(List Tm)→Int→Option S) (rec3:(List (Br Tm))→Int→Option S) (b13_5:List (Br Tm)) (i18:Int):Option S:=
 ab (decide ((i18:Int)<(t.sys.length:Int))) (
 Option.bind (af t.sys i18) fun x7=>
  J4 b13_5 x7 i18 ([]:List Tm) 0) (
 ret (Tm.mk t.kind b13_1 t.name t.r b13_4 b13_5))
noncomputable def kH {S:Type} (hd:eO S) (k:Nat) (ret:Tm→Option S) (t:Tm) (b13_1:Int) (b13_4:List Tm) (u:Tm) (a_n vars dims:Int):Nat→(List (Br Tm))→Int→Option S
 |0=>fun _ _=> .none
 |m+1=>fun b13_5 i18=>te hd k ret t b13_1 b13_4 u a_n vars dims (fun b13_5 x7 i18 b19_1 m20=>mf hd k ret (kH hd k ret t b13_1 b13_4 u a_n vars dims m) t b13_1 b13_4 b13_5 x7 u a_n i18 vars dims k b19_1 m20) (kH hd k ret t b13_1 b13_4 u a_n vars dims m) b13_5 i18
def td {S:Type} (hd:eO S) (k:Nat) (ret:Tm→Option S) (t:Tm) (b13_1:Int) (u:Tm) (a_n vars dims:Int) (J3:(List Tm)→(List (Br Tm))→Int→Option S) (rec2:(List Tm)→Int→Option S) (b13_4:List Tm) (i14:Int):Option S:=
 ab (decide ((i14:Int)<(t.kids.length:Int))) (
 aa k (am0 k t.kind i14) fun r3=>
 Option.bind (af t.kids i14) fun x4=>
 hd (ac x4) a_n (ac u) (IntKind.wrap .i64 (vars+r3.1)) (IntKind.wrap .i64 (dims+r3.2)) fun r5=>
 ab (decide ((r5.kind:Int)<0)) (
  ret (ac r5)) (
  Option.bind (aw 1099511627776 b13_4.length [(ac r5)].length) fun x6=>
   rec2 (b13_4++[(ac r5)]) (IntKind.wrap .i64 (i14+1)))) (
  J3 b13_4 ([]:List (Br Tm)) 0)
noncomputable def me {S:Type} (hd:eO S) (k:Nat) (ret:Tm→Option S) (t:Tm) (b13_1:Int) (u:Tm) (a_n vars dims:Int):Nat→(List Tm)→Int→Option S
 |0=>fun _ _=> .none
 |m+1=>fun b13_4 i14=>td hd k ret t b13_1 u a_n vars dims (fun b13_4 b13_5 i18=>kH hd k ret t b13_1 b13_4 u a_n vars dims k b13_5 i18) (me hd k ret t b13_1 u a_n vars dims m) b13_4 i14
noncomputable def Di {S:Type} (hd:eO S) (k:Nat) (ret:Tm→Option S) (t u:Tm) (a_n vars dims:Int) (J2:Int→(List Tm)→Int→Option S) (b13_1:Int):Option S:=
 J2 b13_1 ([]:List Tm) 0
noncomputable def anu {S:Type} (hd:eO S) (k:Nat) (ret:Tm→Option S) (t u:Tm) (a_n vars dims:Int):Nat→Int→Option S
 |0=>fun _=> .none
 |_+1=>fun b13_1=>Di hd k ret t u a_n vars dims (fun b13_1 b13_4 i14=>me hd k ret t b13_1 u a_n vars dims k b13_4 i14) b13_1
def oU {S:Type} (hd:eO S) (k:Nat) (ret:Tm→Option S) (t u:Tm) (a_n vars dims:Int) (J1:Int→Option S):Option S:=
 ab (t.kind==1) (
 ab (decide ((t.n:Int)>(IntKind.wrap .i64 (a_n+vars)))) (
   J1 (IntKind.wrap .i64 (t.n-1))) (
   J1 t.n)) (
  J1 t.n)
noncomputable def uM {S:Type} (hd:eO S) (k:Nat) (ret:Tm→Option S) (t u:Tm) (a_n vars dims:Int):Nat→Option S
 |0=> .none
 |_+1=>oU hd k ret t u a_n vars dims (fun b13_1=>anu hd k ret t u a_n vars dims k b13_1)
def BW {S:Type} (hd:eO S) (k:Nat) (ret:Tm→Option S) (J0:Option S) (t:Tm) (a_n:Int) (u:Tm) (vars dims:Int):Option S:=
 ab (t.kind==1) (
 ab (t.n==(IntKind.wrap .i64 (a_n+vars))) (
  aa k (zq k (ac u) vars dims) fun r1=>
  ab (!(r1.2==0)) (
  aa k (alY k r1.2) fun r2=>
  ret (Tm.mk r2.1 r2.2.1 r2.2.2 [] [] [])) (
  ret (ac r1.1))) (
   J0)) (
  J0)
noncomputable def alZ {S:Type}:Nat→Tm→Int→Tm→Int→Int→(Tm→Option S)→Option S
 |0=>fun _ _ _ _ _ _=> .none
 |k+1=>fun t a_n u vars dims ret=>BW (alZ k) k ret (uM (alZ k) k ret t u a_n vars dims k) t a_n u vars dims
def IA {S:Type} (k:Nat) (ret:Tm→Option S) (t:Tm) (a_n:Int) (u:Tm):Option S:=
 ab (decide ((t.kind:Int)<0)) (
 ret (ac t)) (
 ab (decide ((u.kind:Int)<0)) (
  ret (ac u)) (
  fQ k (ac t) fun r1=>
  amB k (ac t) a_n fun r2=>
  fQ k (ac u) fun r3=>
  ab (decide ((IntKind.wrap .i64 (r1+(IntKind.wrap .i64 (r2*(IntKind.wrap .i64 (r3-1))))):Int)>20000)) (
  aa k (alY k 221) fun r4=>
  ret (Tm.mk r4.1 r4.2.1 r4.2.2 [] [] [])) (
  alZ k (ac t) a_n (ac u) 0 0 fun r5=>
  ab (decide ((r5.kind:Int)≥0)) (
   gF k (ac r5) fun r6=>
   ab (decide ((r6:Int)>200)) (
   aa k (alY k 62) fun r7=>
   ret (Tm.mk r7.1 r7.2.1 r7.2.2 [] [] [])) (
   ret (ac r5))) (
   ret (ac r5)))))
noncomputable def t7 {S:Type} (k:Nat) (t:Tm) (a_n:Int) (u:Tm) (ret:Tm→Option S):Option S:=IA k ret t a_n u
def oV {S:Type} (k:Nat) (ret:Tm→Option S) (line:Tm) (sys:List (Br Tm)) (rec0:Tm→Int→Option S) (b7:Tm) (i8:Int):Option S:=
 ab (decide ((i8:Int)<(sys.length:Int))) (
 ab (decide ((b7.kind:Int)≥0)) (
  aa k (ni k (ac line) [(Cl.mk 1 0),(Cl.mk 2 0)]) fun r4=>
  Option.bind (af sys i8) fun x5=>
  Option.bind (af x5.kids 0) fun x6=>
  aa k (gH k 14 (ac r4) (ac x6)) fun r7=>
  ab (decide ((r7.kind:Int)≥0)) (
  Option.bind (af sys i8) fun x8=>
  aa k (amx k (ac b7) x8.face (Tm.mk r7.kind r7.n r7.name [(Cl.mk 1 0)] r7.kids r7.sys)) fun r9=>
    rec0 (ac r9) (IntKind.wrap .i64 (i8+1))) (
  Option.bind (af sys i8) fun x10=>
  aa k (amx k (ac b7) x10.face (ac r7)) fun r11=>
    rec0 (ac r11) (IntKind.wrap .i64 (i8+1)))) (
  ret (ac b7))) (
 ret (ac b7))
noncomputable def jo {S:Type} (k:Nat) (ret:Tm→Option S) (line:Tm) (sys:List (Br Tm)):Nat→Tm→Int→Option S
 |0=>fun _ _=> .none
 |m+1=>fun b7 i8=>oV k ret line sys (jo k ret line sys m) b7 i8
def IG {S:Type} (k:Nat) (ret:Tm→Option S) (J0:Tm→Int→Option S) (line a:Tm) (sys:List (Br Tm)):Option S:=
 ab (decide ((line.kind:Int)<0)) (
 ret (ac line)) (
 aa k (py k (ac line) 0 [(Cl.mk 0 0)]) fun r1=>
 aa k (gH k 14 (ac line) (ac a)) fun r2=>
 aa k (gH k 15 (ac r1) (ac r2)) fun r3=>
  J0 (ac r3) 0)
noncomputable def ub {S:Type} (k:Nat) (line a:Tm) (sys:List (Br Tm)) (ret:Tm→Option S):Option S:=IG k ret (fun b7 i8=>jo k ret line sys k b7 i8) line a sys
def TE {S:Type} (k:Nat) (ret:Tm×Int→Option S) (line a:Tm) (sys:List (Br Tm)):Option S:=
 aa k (ua k 15 sys) fun r1=>
 aa k (pz k [(ac line),(ac a),(ac r1)]) fun r2=>
 ab (!(r2==0)) (
 ret ((Tm.mk 0 0 ByteArray.empty [] [] []),r2)) (
 aa k (ub k (ac line) (ac a) sys) fun r3=>
 aa k (nh k (ac r3)) fun r4=>
 ret ((ac r4.1),r4.2))
noncomputable def zu {S:Type} (k:Nat) (line a:Tm) (sys:List (Br Tm)) (ret:Tm×Int→Option S):Option S:=TE k ret line a sys
def ya {S:Type} (k:Nat) (ret:Tm→Option S) (t x2 r8 r9 x12:Tm) (sys10:List (Br Tm)) (i11:Int) (rec1:(List (Br Tm))→Int→Option S) (rec2:(List Tm)→Int→Option S) (kids12:List Tm) (v13:Int):Option S:=
 ab (decide ((v13:Int)<(IntKind.wrap .i64 ((t.kids.length:Int)-1)))) (
 Option.bind (af t.kids v13) fun x14=>
 aa k (amA k (ac x14) 0 1) fun r15=>
 Option.bind (aw 1099511627776 kids12.length [(ac r15)].length) fun x16=>
  rec2 (kids12++[(ac r15)]) (IntKind.wrap .i64 (v13+1))) (
 Option.bind (af x2.sys i11) fun x17=>
 Option.bind (af x17.kids 0) fun x18=>
 Option.bind (aw 1099511627776 kids12.length [(ac x18)].length) fun x19=>
 aa k (ue k t.kind (kids12++[(ac x18)])) fun r20=>
 ab (decide ((r20.kind:Int)<0)) (
  ret (ac r20)) (
  Option.bind (af x2.sys i11) fun x21=>
  Option.bind (aw 1099511627776 sys10.length [(Br.mk x21.face [(ac r20)])].length) fun x22=>
   rec1 (sys10++[(Br.mk x21.face [(ac r20)])]) (IntKind.wrap .i64 (i11+1))))
noncomputable def nX {S:Type} (k:Nat) (ret:Tm→Option S) (rec1:(List (Br Tm))→Int→Option S) (t x2 r8 r9 x12:Tm) (sys10:List (Br Tm)) (i11:Int):Nat→(List Tm)→Int→Option S
 |0=>fun _ _=> .none
 |m+1=>fun kids12 v13=>ya k ret t x2 r8 r9 x12 sys10 i11 rec1 (nX k ret rec1 t x2 r8 r9 x12 sys10 i11 m) kids12 v13
def th {S:Type} (k:Nat) (ret:Tm→Option S) (t x2 r8 r9 x12:Tm) (J2:(List (Br Tm))→Int→(List Tm)→Int→Option S) (rec1:(List (Br Tm))→Int→Option S) (sys10:List (Br Tm)) (i11:Int):Option S:=
 ab (decide ((i11:Int)<(x2.sys.length:Int))) (
  J2 sys10 i11 [(ac r8)] 1) (
 aa k (zu k (ac r9) (Tm.mk t.kind 0 ByteArray.empty [] ((([]:List Tm)++(List.take (Int.toNat (IntKind.wrap .i64 ((t.kids.length:Int)-1))) t.kids))++[(ac x12)]) []) sys10) fun r23=>
 ab (!(r23.2==0)) (
  aa k (alY k r23.2) fun r24=>
  ret (Tm.mk r24.1 r24.2.1 r24.2.2 [] [] [])) (
  ret (ac r23.1)))
noncomputable def amU {S:Type} (k:Nat) (ret:Tm→Option S) (t x2 r8 r9 x12:Tm):Nat→(List (Br Tm))→Int→Option S
 |0=>fun _ _=> .none
 |m+1=>fun sys10 i11=>th k ret t x2 r8 r9 x12 (fun sys10 i11 kids12 v13=>nX k ret (amU k ret t x2 r8 r9 x12 m) t x2 r8 r9 x12 sys10 i11 k kids12 v13) (amU k ret t x2 r8 r9 x12 m) sys10 i11
def x_ {S:Type} (k:Nat) (ret:Tm→Option S) (t:Tm) (J1:Tm→Tm→Tm→Tm→(List (Br Tm))→Int→Option S):Option S:=
 Option.bind (af t.kids (IntKind.wrap .i64 ((t.kids.length:Int)-1))) fun x2=>
 Option.bind (af x2.kids 0) fun x3=>
 Option.bind (af x2.kids 1) fun x4=>
 aa k (zw k (ac x3) (ac x4) x2.sys) fun r5=>
 ab (!(r5.2==0)) (
 aa k (alY k r5.2) fun r6=>
 ret (Tm.mk r6.1 r6.2.1 r6.2.2 [] [] [])) (
 Option.bind (af t.kids 0) fun x7=>
 aa k (DS k (ac x7) 1) fun r8=>
 aa k (t7 k (ac r8) 0 (ac r5.1)) fun r9=>
 ab (decide ((r9.kind:Int)<0)) (
  ret (ac r9)) (
  Option.bind (bR (0≤(IntKind.wrap .i64 ((t.kids.length:Int)-1))∧(IntKind.wrap .i64 ((t.kids.length:Int)-1))≤(t.kids.length:Int))) fun x10=>
  Option.bind (aw 1099511627776 ([]:List Tm).length (List.take (Int.toNat (IntKind.wrap .i64 ((t.kids.length:Int)-1))) t.kids).length) fun x11=>
  Option.bind (af x2.kids 1) fun x12=>
  Option.bind (aw 1099511627776 (([]:List Tm)++(List.take (Int.toNat (IntKind.wrap .i64 ((t.kids.length:Int)-1))) t.kids)).length [(ac x12)].length) fun x13=>
   J1 x2 r8 r9 x12 ([]:List (Br Tm)) 0))
noncomputable def am7 {S:Type} (k:Nat) (ret:Tm→Option S) (t:Tm):Nat→Option S
 |0=> .none
 |_+1=>x_ k ret t (fun x2 r8 r9 x12 sys10 i11=>amU k ret t x2 r8 r9 x12 k sys10 i11)
def IK {S:Type} (k:Nat) (ret:Tm→Option S) (J0:Option S) (t:Tm):Option S:=
 ab (!(t.kind==22)) (
 ab (!(t.kind==27)) (
  ret (Tm.mk 0 0 ByteArray.empty [] [] [])) (
  Option.bind (af t.kids (IntKind.wrap .i64 ((t.kids.length:Int)-1))) fun x1=>
  ab (!(x1.kind==15)) (
  ret (Tm.mk 0 0 ByteArray.empty [] [] [])) (
    J0))) (
 Option.bind (af t.kids (IntKind.wrap .i64 ((t.kids.length:Int)-1))) fun x25=>
 ab (!(x25.kind==15)) (
  ret (Tm.mk 0 0 ByteArray.empty [] [] [])) (
   J0))
noncomputable def zy {S:Type} (k:Nat) (t:Tm) (ret:Tm→Option S):Option S:=IK k ret (am7 k ret t k) t
def IJ {S:Type} (k:Nat) (ret:Tm×Bool×Int→Option S) (t out:Tm):Option S:=
 ab (out.kind==0) (
 ret ((Tm.mk 0 0 ByteArray.empty [] [] []),false,0)) (
 aa k (nh k (ac out)) fun r1=>
 ret ((ac r1.1),r1.2==0,r1.2))
noncomputable def pA {S:Type} (k:Nat) (t out:Tm) (ret:Tm×Bool×Int→Option S):Option S:=IJ k ret t out
def TK {S:Type} (k:Nat) (ret:Tm×Bool×Int→Option S) (t:Tm):Option S:=
 aa k (am1 k (ac t)) fun r1=>
 ab (!(r1==0)) (
 ret ((Tm.mk 0 0 ByteArray.empty [] [] []),false,r1)) (
 aa k (zy k (ac t)) fun r2=>
 aa k (pA k (ac t) (ac r2)) fun r3=>
 ret ((ac r3.1),r3.2.1,r3.2.2))
noncomputable def zx {S:Type} (k:Nat) (t:Tm) (ret:Tm×Bool×Int→Option S):Option S:=TK k ret t
def SQ {S:Type} (k:Nat) (ret:Bool→Option S) (t:Tm):Option S:=
 aa k (DR k (ac t)) fun r1=>
 ab (r1) (
 aa k (tM k) fun r2=>
 ret r2) (
 je k (ac t) fun r3=>
 aa k (tL k (ac r3)) fun r4=>
 aa k (zx k (ac t)) fun r5=>
 d8 k (ac r4.1) (ac r5.1) fun r6=>
 ab (r6) (
  ab (r4.2.1==r5.2.1) (
  ab (r4.2.2==r5.2.2) (
   d8 k (ac r3) (ac t) fun r7=>
   ab (r7) (
   aa k (tM k) fun r8=>
   ret r8) (
   ret false)) (
   ret false)) (
  ret false)) (
  ret false))
noncomputable def DQ {S:Type} (k:Nat) (t:Tm) (ret:Bool→Option S):Option S:=SQ k ret t
abbrev WX (S:Type):=Tm→(Int→Option S)→Option S
end
end Go.Proofs.YtfkkpkhfjpaafaaGreatDoor
namespace Go.Proofs.YtfkkpkhfjpaafaaGreatDoor
open Go PI
set_option linter.unusedVariables false
set_option maxRecDepth 100000
noncomputable section
end
end Go.Proofs.YtfkkpkhfjpaafaaGreatDoor
namespace Go.Proofs.YtfkkpkhfjpaafaaGreatDoor
open Go PI
set_option linter.unusedVariables false
set_option linter.unusedSimpArgs false
abbrev M24:Nat:=16777215
theorem N4 {n:Nat} (h:n<24):2^n<4294967296:=Nat.lt_of_lt_of_le (Nat.pow_lt_pow_right (by decide) h) (by decide)
theorem Dt (n:Nat):(2:Int)^n=((2^n:Nat):Int):=by simp
theorem Es (m n:Nat):Int.fdiv (m:Int) ((2:Int)^n)=((m/2^n:Nat):Int):=by
 grind
variable {S:Type} {k:Nat}
theorem BM (hk:Fu k) (i:Int) (ret:Bool→Option S):nd k i ret=ret (decide (0≤i∧i<24)):=by
 grind [nd,S2,aY]
theorem akm (hk:Fu k) {m:Nat} (hm:m<4294967296) (ret:Bool→Option S):pm k (m:Int) ret=ret (decide (m<16777216)):=by
 simp only [pm,SY]
 rw [show (16777215:Int)=((16777215:Nat):Int) from rfl,C_ hm (by decide)]
 congr 1
 rw [Bool.eq_iff_iff]
 simp only [beq_iff_eq,decide_eq_true_eq]
 have key:dL m 16777215=0↔m<16777216:=by
  constructor
  ·intro h
   apply Nat.lt_pow_two_of_testBit (n:=24)
   intro i hi
   have h2:=mm m 16777215 i
   rw [h,Nat.zero_testBit] at h2
   have:(16777215:Nat).testBit i=false:=Nat.testBit_lt_two_pow (Nat.lt_of_lt_of_le (by decide:16777215<2^24) (Nat.pow_le_pow_right (by decide) hi))
   grind
  ·intro h
   apply Nat.eq_of_testBit_eq
   intro i
   rw [mm,Nat.zero_testBit]
   by_cases hi:i<24
   ·have:(16777215:Nat).testBit i=true:=by
     rw [show (16777215:Nat)=2^24-1 from rfl,Nat.testBit_two_pow_sub_one];grind
    grind
   ·have h2:(2:Nat)^24≤2^i:=Nat.pow_le_pow_right (by decide) (by omega)
    grind [Nat.testBit_lt_two_pow]
 omega
theorem akk (hk:Fu k) {m:Nat} (hm:m<4294967296) (i:Int) (ret:Bool→Option S):amz k (m:Int) i ret=ret (decide (0≤i∧i<24)&&m.testBit i.toNat):=by
 simp only [amz,SX,BM hk,ag hk]
 by_cases h:0≤i∧i<24
 ·obtain ⟨n,rfl⟩: ∃n:Nat,i=n:=⟨i.toNat,by omega⟩
  have hn:n<24:=by omega
  rw [decide_eq_true h,ae,Bool.true_and,iR n (by omega),fN _ (by omega)]
  congr 1
  rw [Int.toNat_natCast,Nat.min_eq_left (by omega),Es,show (1:Int)=((1:Nat):Int) from rfl,lj (Nat.lt_of_le_of_lt (Nat.div_le_self _ _) hm) (by decide)]
  grind
 grind [ad]
theorem akn (hk:Fu k) {m:Nat} (hm:m<4294967296) (i:Int) (ret:Int→Option S):i_ k (m:Int) i ret=ret (if 0≤i∧i<24 then (((m&&&M24)|||2^i.toNat:Nat):Int) else ((m&&&M24:Nat):Int)):=by
 simp only [i_,SZ,BM hk,ag hk]
 have hand:bj .and .u32 (m:Int) 16777215=((m&&&M24:Nat):Int):=lj hm (by decide:(16777215:Nat)<4294967296)
 have hlt:m&&&M24<4294967296:=sk (n:=32) hm
 rw [hand]
 by_cases h:0≤i∧i<24
 ·obtain ⟨n,rfl⟩: ∃n:Nat,i=n:=⟨i.toNat,by omega⟩
  grind [iR,ad,fN,Int.toNat_natCast,ld,N4,wK]
 ·rw [decide_eq_false h,if_neg h];rfl
theorem ako (hk:Fu k) {m:Nat} (hm:m<4294967296) (i:Int) (ret:Int→Option S):jX k (m:Int) i ret=ret (if 0≤i∧i<24 then ((dL (m&&&M24) (2^i.toNat):Nat):Int) else ((m&&&M24:Nat):Int)):=by
 simp only [jX,S0,BM hk,ag hk]
 have hand:bj .and .u32 (m:Int) 16777215=((m&&&M24:Nat):Int):=lj hm (by decide:(16777215:Nat)<4294967296)
 have hlt:m&&&M24<4294967296:=sk (n:=32) hm
 rw [hand]
 by_cases h:0≤i∧i<24
 ·grind [iR,ad,fN,Int.toNat_natCast,ld,N4,C_]
 ·rw [decide_eq_false h,if_neg h];rfl
theorem R5 (hk:Fu k) (n:Nat) (hn:n<18446744073709551616) (ret:Int→Option S):pn k (n:Int) ret=ret ((2^min n 24-1:Nat):Int):=by
 simp only [pn,S1]
 have e:(if (24:Int)<(n:Int) then (24:Int) else (n:Int))=((min n 24:Nat):Int):=by
  omega
 rw [e,iR _ (by omega),fN _ (by omega),Int.toNat_natCast]
 congr 1
 generalize hq:min n 24=q
 have hq24:q≤24:=by omega
 rw [Nat.min_eq_left (by omega),Int.one_mul,Dt]
 have h1:2^q≤2^24:=Nat.pow_le_pow_right (by decide) hq24
 grind [iR,ld]
def gO (m n:Nat):Nat:=(m&&&M24)&&&(2^min n 24-1)
def dl (m n:Nat):Nat:=dL (m&&&M24) (2^min n 24-1)
def amc (m n b:Nat):Nat×Nat:=
 if dl m n=0 then (gO m n,0) else if 24≤b then (0,10) else if dl m n*2^b>16777215 then (0,10) else (gO m n|||(dl m n*2^b),0)
theorem akl (hk:Fu k) {m:Nat} (hm:m<4294967296) (n b:Nat) (hn:n<9223372036854775808) (hb:b<9223372036854775808) (ret:Int×Int→Option S):
  lx k (m:Int) (n:Int) (b:Int) ret=ret (((amc m n b).1:Int),((amc m n b).2:Int)):=by
 have hand:bj .and .u32 (m:Int) 16777215=((m&&&M24:Nat):Int):=lj hm (by decide:(16777215:Nat)<4294967296)
 have hlt:m&&&M24<16777216:=Nat.lt_of_le_of_lt Nat.and_le_right (by decide)
 have hbl:2^min n 24-1<4294967296:=by
  have:2^min n 24≤2^24:=Nat.pow_le_pow_right (by decide) (by omega)
  omega
 have hhi:dl m n<16777216:=vq (n:=24) hlt
 have hlow:bj .and .u32 ((m&&&M24:Nat):Int) ((2^min n 24-1:Nat):Int)=((gO m n:Nat):Int):=lj (by omega) hbl
 have hhigh:bj .andNot .u32 ((m&&&M24:Nat):Int) ((2^min n 24-1:Nat):Int)=((dl m n:Nat):Int):=C_ (by omega) hbl
 simp only [lx,BT]
 rw [aY,aY,if_neg (by omega),if_neg (by omega)]
 simp only [R5 hk n (by omega),ag hk,hand,hlow,hhigh]
 rw [iR _ (by omega)]
 unfold amc
 by_cases h0:dl m n=0
 ·grind [ae]
 ·rw [if_neg h0]
  have hb0:(((dl m n:Nat):Int)==0)=false:=by
   grind
  simp only [hb0,ad,aY]
  by_cases h24:24≤b
  ·grind
  ·rw [if_neg (by omega),if_neg h24,iR b (by omega),fN _ (by omega),Int.toNat_natCast,Nat.min_eq_left (by omega),Dt]
   have hp:2^b≤2^23:=Nat.pow_le_pow_right (by decide) (by omega)
   have h23:(2:Nat)^23=8388608:=by decide
   have hmul:dl m n*2^b<18446744073709551616:=by
    have:=Nat.mul_le_mul (Nat.le_of_lt hhi) hp
    omega
   have ec:((dl m n:Nat):Int)*((2^b:Nat):Int)=((dl m n*2^b:Nat):Int):=by simp
   rw [ec,iR _ hmul]
   by_cases hg:dl m n*2^b>16777215
   ·grind
   ·rw [if_neg (by omega),if_neg hg]
    rw [ld _ (by omega),fN _ (by omega),wK (by grind [gO,Nat.and_le_left]) (by omega)]
    rfl
end Go.Proofs.YtfkkpkhfjpaafaaGreatDoor
namespace Go.Proofs.YtfkkpkhfjpaafaaGreatDoor
open Go PI
set_option linter.unusedVariables false
set_option linter.unusedSimpArgs false
set_option maxRecDepth 20000
variable {S:Type} {k:Nat}
def alK (l:List Nat):Nat:=(l.map (2^ ·)).sum
theorem Zr {x a:Nat} (h:x.testBit a=false):x+2^a=x|||2^a:=by
 have h1:x=2^(a+1)*(x/2^(a+1))+x%2^(a+1):=(Nat.div_add_mod _ _).symm
 have hlt:x%2^(a+1)<2^a:=by
  have hb:(x%2^(a+1)).testBit a=false:=by grind
  grind [Nat.lt_pow_two_of_testBit,Nat.testBit_lt_two_pow]
 generalize x/2^(a+1)=q at h1
 generalize x%2^(a+1)=r at h1 hlt
 have hp:(2:Nat)^(a+1)=2^a*2:=Nat.pow_succ 2 a
 have e1:2^a+r=2^a|||r:=by
  have:=Nat.two_pow_add_eq_or_of_lt hlt 1
  grind
 have e2:x=2^(a+1)*q|||r:=by grind [Nat.two_pow_add_eq_or_of_lt]
 grind [Nat.two_pow_add_eq_or_of_lt]
theorem oG: ∀ (l:List Nat),l.Nodup→ ∀j,(alK l).testBit j=decide (j∈l):=by
 intro l
 induction l with
 |nil=>grind [alK]
 |cons a l ih=>
  intro hn j
  have hn':=List.nodup_cons.1 hn
  have ha:(alK l).testBit a=false:=by grind
  have e:alK (a::l)=alK l|||2^a:=by
   grind [Zr,alK]
  grind
theorem aj8: ∀ (l:List Nat),(∀x∈l,x<24)→alK l≤l.length*8388608:=by
 intro l
 induction l with
 |nil=>intro _;simp [alK]
 |cons a l ih=>
  intro h
  have h1:=ih fun x hx=>h x (by simp [hx])
  have h2:2^a≤2^23:=Nat.pow_le_pow_right (by decide) (by have:=h a (by simp);omega)
  grind [alK]
def bW (m:Nat):List Nat:=(List.range 24).filter m.testBit
theorem oY (m:Nat):(bW m).Nodup:=List.nodup_range.filter _
theorem mem_bitsN {m j:Nat}:j∈bW m↔j<24∧m.testBit j=true:=by simp [bW]
theorem gu (m:Nat):(bW m).length≤24:=by
 grind [bW]
theorem g8 (j:Nat):M24.testBit j=decide (j<24):=by
 rw [show M24=2^24-1 from rfl,Nat.testBit_two_pow_sub_one]
theorem Hk (m:Nat):alK (bW m)=m&&&M24:=by
 apply Nat.eq_of_testBit_eq
 grind [oG,oY,g8,mem_bitsN]
theorem afi (ret:Int→Option S) (n:Nat) (hn:n≤30): ∀ (d i m:Nat),i+d=n→d<m→qm k ret (n:Int) m ((2^i:Nat):Int) (i:Int)=ret ((2^n:Nat):Int):=by
 intro d
 induction d with
 |zero=>
  intro i m h hm
  obtain ⟨m,rfl⟩: ∃q,m=q+1:=⟨m-1,by omega⟩
  grind [qm,xp,aY]
 |succ d ih=>
  intro i m h hm
  obtain ⟨m,rfl⟩: ∃q,m=q+1:=⟨m-1,by omega⟩
  simp only [qm,xp,aY]
  have hp:2^i≤2^30:=Nat.pow_le_pow_right (by decide) (by omega)
  have h30:(2:Nat)^30=1073741824:=by decide
  have hc:(0:Int)≤((2^i:Nat):Int):=Int.natCast_nonneg _
  rw [if_pos (by omega),alX (by omega) (by omega),alX (by omega) (by omega)]
  have e1:((2^i:Nat):Int)*2=((2^(i+1):Nat):Int):=by rfl
  grind
theorem Ho (hk:Fu k) (n:Nat) (hn:n≤30) (ret:Int→Option S):pr k (n:Int) ret=ret ((2^n:Nat):Int):=by
 simp only [pr,H7]
 have:=afi (k:=k) ret n hn n 0 k (by omega) (by omega)
 omega
theorem akr (hk:Fu k) {m:Nat} (hm:m<4294967296) (ret:Bool→Option S):pq k (m:Int) ret=ret (decide (m<16777216)):=by
 simp only [pq,Tc,ag hk]
 rw [show (24:Int)=((24:Nat):Int) from rfl,Ho hk 24 (by omega),alX (by omega) (by omega)]
 grind [decide]
theorem R6 (hk:Fu k) {m:Nat} (hm:m<4294967296) (i:Int) (ret:Bool→Option S):al0 k (m:Int) i ret=ret (decide (0≤i∧i<24)&&m.testBit i.toNat):=by
 simp only [al0,Tb,aY,ag hk]
 by_cases h0:i≥0
 ·rw [if_pos h0]
  by_cases h1:i<24
  ·rw [if_pos h1]
   obtain ⟨n,rfl⟩: ∃n:Nat,i=n:=⟨i.toNat,by omega⟩
   have hp:0<2^n:=Nat.two_pow_pos n
   rw [Ho hk n (by omega),fN _ (by omega)]
   rw [alX (n:=(m:Int)) (by omega) (by omega)]
   have e1:Int.tdiv (m:Int) ((2^n:Nat):Int)=((m/2^n:Nat):Int):=(Int.ofNat_tdiv m (2^n)).symm
   rw [e1]
   have hd:m/2^n≤m:=Nat.div_le_self _ _
   have hc:(0:Int)≤((m/2^n:Nat):Int):=Int.natCast_nonneg _
   rw [alX (by omega) (by omega)]
   have e2:Int.tmod ((m/2^n:Nat):Int) 2=((m/2^n%2:Nat):Int):=(Int.ofNat_tmod (m/2^n) 2).symm
   rw [e2,decide_eq_true (by omega),Bool.true_and,Int.toNat_natCast]
   congr 1
   grind
  grind
 grind
def ints (l:List Nat):List Int:=l.map Int.ofNat
theorem EO (l:List Nat) (i:Nat):(ints l)[i]? =(l[i]?).map Int.ofNat:=by simp [ints]
theorem amb (l:List Nat):(ints l).length=l.length:=by simp [ints]
theorem aek (hk:Fu k) (ret:Int→Option S) (l:List Nat) (hl:l.length≤64) (h24: ∀x∈l,x<24): ∀ (d i m:Nat),i+d=l.length→d<m→qk k ret (ints l) m ((alK (l.take i):Nat):Int) (i:Int)=ret ((alK l:Nat):Int):=by
 have hbound: ∀i,alK (l.take i)≤64*8388608:=by
  grind [aj8]
 intro d
 induction d with
 |zero=>
  intro i m h hm
  obtain ⟨m,rfl⟩: ∃q,m=q+1:=⟨m-1,by omega⟩
  grind [qk,xm,aY,amb,ld]
 |succ d ih=>
  intro i m h hm
  obtain ⟨m,rfl⟩: ∃q,m=q+1:=⟨m-1,by omega⟩
  simp only [qk,xm,aY,amb,ag hk]
  have hi:i<l.length:=by omega
  rw [if_pos (by omega),pU,EO,List.getElem?_eq_getElem hi]
  simp only [Option.map_some,Option.bind_some]
  have hx:=h24 _ (List.getElem_mem hi)
  have hb:=hbound i
  rw [show Int.ofNat l[i]=((l[i]:Nat):Int) from rfl,Ho hk _ (by omega)]
  have hp:2^l[i]≤2^24:=Nat.pow_le_pow_right (by decide) (by omega)
  have h24:(2:Nat)^24=16777216:=by decide
  have hc:(0:Int)≤((2^l[i]:Nat):Int):=Int.natCast_nonneg _
  rw [alX (by omega) (by omega),alX (by omega) (by omega)]
  have e1:((alK (l.take i):Nat):Int)+((2^l[i]:Nat):Int)=((alK (l.take (i+1)):Nat):Int):=by
   grind [List.take_add_one,alK]
  grind
theorem anG (hk:Fu k) (l:List Nat) (hl:l.length≤64) (h24: ∀x∈l,x<24) (ret:Int→Option S):amI k (ints l) ret=ret ((alK l:Nat):Int):=by
 simp only [amI,H5]
 have:=aek hk ret l hl h24 l.length 0 k (by omega) (by omega)
 grind [alK]
theorem aei (hk:Fu k) (ret:List Int→Option S) {q:Nat} (hq:q<4294967296): ∀ (d i m:Nat),i+d=24→d<m→uK k ret (q:Int) m (ints ((List.range i).filter q.testBit)) (i:Int)=ret (ints (bW q)):=by
 intro d
 induction d with
 |zero=>
  intro i m h hm
  obtain ⟨m,rfl⟩: ∃q,m=q+1:=⟨m-1,by omega⟩
  have:i=24:=by omega
  subst this
  rfl
 |succ d ih=>
  intro i m h hm
  obtain ⟨m,rfl⟩: ∃q,m=q+1:=⟨m-1,by omega⟩
  simp only [uK,Db,aY,ag hk]
  rw [if_pos (by omega),R6 hk hq,decide_eq_true (by omega),Bool.true_and,Int.toNat_natCast,alX (by omega) (by omega)]
  have e2:(i:Int)+1=((i+1:Nat):Int):=by simp
  have hlen:(ints ((List.range i).filter q.testBit)).length≤24:=by
   grind [amb]
  rw [e2]
  cases hb:q.testBit i with
  |true=>
   rw [ae,sf (by grind)]
   have:ints ((List.range i).filter q.testBit)++[(i:Int)]=ints ((List.range (i+1)).filter q.testBit):=by
    grind [List.range_succ,ints]
   grind
  |false=>
   rw [ad]
   have:ints ((List.range i).filter q.testBit)=ints ((List.range (i+1)).filter q.testBit):=by
    grind [List.range_succ]
   grind
theorem anF (hk:Fu k) {q:Nat} (hq:q<4294967296) (ret:List Int→Option S):amH k (q:Int) ret=ret (ints (bW q)):=by
 simp only [amH,H4]
 have:=aei hk ret hq 24 0 k (by omega) (by omega)
 grind [ints]
theorem ael (hk:Fu k) (ret:Int→Option S) (n:Int) (l:List Nat) (hl:l.length≤64) (h24: ∀x∈l,x<24): ∀ (d i m:Nat),i+d=l.length→d<m→
  ql k ret n (ints l) m (ints ((l.take i).filter fun x:Nat=> !((x:Int)==n))) (i:Int)=ret ((alK (l.filter fun x:Nat=> !((x:Int)==n)):Nat):Int):=by
 intro d
 induction d with
 |zero=>
  intro i m h hm
  obtain ⟨m,rfl⟩: ∃q,m=q+1:=⟨m-1,by omega⟩
  grind [ql,xo,aY,amb,ag,anG]
 |succ d ih=>
  intro i m h hm
  obtain ⟨m,rfl⟩: ∃q,m=q+1:=⟨m-1,by omega⟩
  simp only [ql,xo,aY,amb,ag hk]
  have hi:i<l.length:=by omega
  rw [if_pos (by omega),pU,EO,List.getElem?_eq_getElem hi]
  simp only [Option.map_some,Option.bind_some]
  rw [alX (n:=(i:Int)+1) (by omega) (by omega)]
  have e2:(i:Int)+1=((i+1:Nat):Int):=by simp
  rw [e2,show Int.ofNat l[i]=((l[i]:Nat):Int) from rfl]
  have et:(l.take (i+1)).filter (fun x:Nat=> !((x:Int)==n))=(l.take i).filter (fun x:Nat=> !((x:Int)==n))++(if !((l[i]:Int)==n) then [l[i]] else []):=by
   grind [List.take_add_one]
  grind [ae,sf,ints,ad]
theorem anS (hk:Fu k) {q:Nat} (hq:q<4294967296) (i:Int) (ret:Int→Option S):gC k (q:Int) i ret=ret (if 0≤i∧i<24 then ((dL (q&&&M24) (2^i.toNat):Nat):Int) else ((q&&&M24:Nat):Int)):=by
 simp only [gC,H6,ag hk,anF hk hq]
 have:=ael hk ret i (bW q) (by have:=gu q;omega) (fun x hx=>(mem_bitsN.1 hx).1) (bW q).length 0 k (by omega) (by have:=gu q;omega)
 simp only [List.take_zero,List.filter_nil] at this
 have h0:(ints []:List Int)=[]:=rfl
 rw [h0] at this
 refine Eq.trans this ?_
 congr 1
 have hnd:((bW q).filter fun x:Nat=> !((x:Int)==i)).Nodup:=(oY q).filter _
 by_cases h:0≤i∧i<24
 ·rw [if_pos h]
  congr 1
  apply Nat.eq_of_testBit_eq
  grind [oG,mm,g8,mem_bitsN]
 grind [Hk,List.filter_eq_self,mem_bitsN]
theorem aks (hk:Fu k) {q:Nat} (hq:q<4294967296) (i:Int) (ret:Int→Option S):tP k (q:Int) i ret=ret (if 0≤i∧i<24 then (((q&&&M24)|||2^i.toNat:Nat):Int) else ((q&&&M24:Nat):Int)):=by
 simp only [tP,Td,aY,ag hk]
 have hq24:q&&&M24<4294967296:=sk (n:=32) hq
 by_cases h0:i<0
 ·grind [anS]
 ·rw [if_neg h0]
  by_cases h1:i≥24
  ·grind [anS]
  ·rw [if_neg h1,anS hk hq,if_pos (by omega),if_pos (by omega)]
   obtain ⟨n,rfl⟩: ∃n:Nat,i=n:=⟨i.toNat,by omega⟩
   have hw:dL (q&&&M24) (2^n)<4294967296:=vq (n:=32) hq24
   rw [Int.toNat_natCast,anF hk hw,sf (by grind [amb,gu])]
   have e:ints (bW (dL (q&&&M24) (2^n)))++[(n:Int)]=ints (bW (dL (q&&&M24) (2^n))++[n]):=by simp [ints]
   rw [e,anG hk _ (by grind [gu]) (fun x hx=>by
    grind [mem_bitsN])]
   congr 2
   apply Nat.eq_of_testBit_eq
   intro j
   rw [oG]
   all_goals grind [g8,mem_bitsN,mm,oY]
end Go.Proofs.YtfkkpkhfjpaafaaGreatDoor
namespace Go.Proofs.YtfkkpkhfjpaafaaGreatDoor
open Go PI
set_option linter.unusedVariables false
set_option linter.unusedSimpArgs false
set_option maxRecDepth 20000
variable {S:Type} {k:Nat}
theorem uB {α:Type} (p r:List α) (x:α):af (p++x::r) (p.length:Int)=some x:=by simp [af]
theorem aj9 {α:Type} (p r:List α) (x y:α):(p++x::r).set p.length y=(p++[y])++r:=by simp
theorem oZ {m:Nat} (h:m<16777216) {j:Nat} (hj:m.testBit j=true):j<24:=by
 apply Classical.byContradiction
 intro hn
 have:m<2^j:=Nat.lt_of_lt_of_le h (Nat.pow_le_pow_right (n:=2) (i:=24) (j:=j) (by decide) (by omega))
 grind [Nat.testBit_lt_two_pow]
theorem LN (m:Nat):m<16777216↔ ∀j,m.testBit j=true→j<24:=by
 constructor
 ·intro h j hj;exact oZ h hj
 ·intro h
  apply Nat.lt_pow_two_of_testBit (n:=24)
  grind
def up1 (n b x:Nat):Nat:=if x<n then x else x+b
theorem aeh (hk:Fu k) (ret:Int×Int→Option S) (n b:Nat) (hn:n<9223372036854775808) (hb:b<9223372036854775808):
  ∀ (r p:List Nat) (m:Nat),(p++r).length≤24→(∀x∈r,x<24)→r.length<m→(∀x∈p,x<24)→
  nJ k ret (n:Int) (b:Int) m (ints (p++r)) (p.length:Int)=
   if (∃x∈r,n≤x∧24≤x+b) then ret (0,10) else ret (((alK (p++r.map (up1 n b)):Nat):Int),0):=by
 intro r
 induction r with
 |nil=>
  intro p m hl h24 hm hp
  obtain ⟨m,rfl,hm⟩:=km hm
  grind [nJ,xl,aY,amb,ag,anG]
 |cons x r ih=>
  intro p m hl h24 hm hp
  obtain ⟨m,rfl,hm⟩:=km hm
  have hx:=h24 x (by simp)
  have hl':p.length+(r.length+1)≤24:=by grind
  have e0:ints (p++x::r)=ints p++(x:Int)::ints r:=by simp [ints]
  have el:(p.length:Int)=((ints p).length:Int):=by rw [amb]
  simp only [nJ,xl,aY,ag hk]
  rw [if_pos (by grind),e0,el,uB]
  simp only [Option.bind_some]
  have ew:IntKind.wrap .i64 (((ints p).length:Int)+1)=(((p++[x]).length:Nat):Int):=by
   grind [alX]
  have key: ∀y:Nat,y<24→nJ k ret (n:Int) (b:Int) m (ints p++(y:Int)::ints r) (((p++[x]).length:Nat):Int)=if (∃x∈r,n≤x∧24≤x+b) then ret (0,10) else ret (((alK ((p++[y])++r.map (up1 n b)):Nat):Int),0):=by
   intro y hy
   have:=ih (p++[y]) m (by grind) (fun z hz=>h24 z (by simp [hz])) (by grind) (by
    grind)
   grind [ints]
  rw [ew]
  by_cases hxn:x<n
  ·rw [if_pos (by omega),key x hx]
   have e1:up1 n b x=x:=by grind [up1]
   have e2:(∃z∈x::r,n≤z∧24≤z+b)↔(∃z∈r,n≤z∧24≤z+b):=by
    grind
   simp only [e2,List.map_cons,e1,List.append_assoc,List.singleton_append]
  ·rw [if_neg (by omega),alX (n:=24-(x:Int)) (by omega) (by omega)]
   by_cases hby:24≤x+b
   ·rw [if_pos (by omega),if_pos ⟨x,by simp,by omega,hby⟩]
   ·rw [if_neg (by omega),alX (n:=(x:Int)+(b:Int)) (by omega) (by omega),Int.toNat_natCast]
    have e3:(x:Int)+(b:Int)=((x+b:Nat):Int):=by simp
    rw [e3,aj9,List.append_assoc,List.singleton_append,key (x+b) (by omega)]
    have e1:up1 n b x=x+b:=by grind [up1]
    have e2:(∃z∈x::r,n≤z∧24≤z+b)↔(∃z∈r,n≤z∧24≤z+b):=by
     grind
    simp only [e2,List.map_cons,e1,List.append_assoc,List.singleton_append]
theorem Dl (m n j:Nat):(gO m n).testBit j=(m.testBit j&&decide (j<n∧j<24)):=by
 grind [gO,g8]
theorem Js (m n j:Nat):(dl m n).testBit j=(m.testBit j&&decide (n≤j∧j<24)):=by
 grind [dl,mm,g8]
theorem Fg (m n b:Nat):amc m n b=if (∃x∈bW m,n≤x∧24≤x+b) then (0,10) else (alK ((bW m).map (up1 n b)),0):=by
 have hnd:((bW m).map (up1 n b)).Nodup:=by
  grind [up1,oY]
 have hset: ∀j,(alK ((bW m).map (up1 n b))).testBit j=((gO m n).testBit j||(decide (b≤j)&&(dl m n).testBit (j-b))):=by
  intro j
  rw [oG _ hnd,Dl,Js,Bool.eq_iff_iff]
  simp only [decide_eq_true_eq,List.mem_map,mem_bitsN,Bool.or_eq_true,Bool.and_eq_true]
  grind [up1]
 have hhigh: ∀j,(dl m n).testBit j=true↔(j∈bW m∧n≤j):=by
  grind [Js,mem_bitsN]
 unfold amc
 by_cases h0:dl m n=0
 ·rw [if_pos h0,if_neg]
  ·congr 1
   apply Nat.eq_of_testBit_eq
   grind
  grind
 ·rw [if_neg h0]
  have hex: ∃j,(dl m n).testBit j=true:=by
   apply Classical.byContradiction
   intro hne
   apply h0
   apply Nat.eq_of_testBit_eq
   grind
  have hmul: ∀j,(dl m n*2^b).testBit j=(decide (b≤j)&&(dl m n).testBit (j-b)):=by
   grind
  by_cases h24:24≤b
  ·rw [if_pos h24]
   obtain ⟨j,hj⟩:=hex
   have:=(hhigh j).1 hj
   rw [if_pos ⟨j,this.1,this.2,by omega⟩]
  ·rw [if_neg h24]
   have hlt:=LN (dl m n*2^b)
   by_cases hg:dl m n*2^b>16777215
   ·rw [if_pos hg,if_pos]
    grind
   ·rw [if_neg hg,if_neg]
    ·congr 1
     apply Nat.eq_of_testBit_eq
     grind
    ·rintro ⟨x,h1,h2,h3⟩
     have hx:(dl m n*2^b).testBit (x+b)=true:=by
      simp_all
     grind
theorem akq (hk:Fu k) {m:Nat} (hm:m<4294967296) (n b:Nat) (hn:n<9223372036854775808) (hb:b<9223372036854775808) (ret:Int×Int→Option S):
  amX k (m:Int) (n:Int) (b:Int) ret=ret (((amc m n b).1:Int),((amc m n b).2:Int)):=by
 simp only [amX,anU,aY,ag hk]
 rw [if_neg (by omega),if_neg (by omega),anF hk hm]
 have:=aeh hk ret n b hn hb (bW m) [] k (by grind [gu]) (fun x hx=>(mem_bitsN.1 hx).1) (by grind [gu]) (by simp)
 simp only [List.nil_append] at this
 refine Eq.trans this ?_
 rw [Fg]
 split<;>rfl
def j7 (m:Nat) (i:Int):Nat:=if 0≤i∧i<24 then gO m i.toNat|||((m&&&M24)/2^(i.toNat+1)*2^i.toNat) else m&&&M24
theorem akj (hk:Fu k) {m:Nat} (hm:m<4294967296) (i:Int) (ret:Int→Option S):pk k (m:Int) i ret=ret ((j7 m i:Nat):Int):=by
 simp only [pk,SW,BM hk,ag hk]
 have hand:bj .and .u32 (m:Int) 16777215=((m&&&M24:Nat):Int):=lj hm (by decide:(16777215:Nat)<4294967296)
 have hlt:m&&&M24<16777216:=Nat.lt_of_le_of_lt Nat.and_le_right (by decide)
 rw [hand]
 unfold j7
 by_cases h:0≤i∧i<24
 ·obtain ⟨n,rfl⟩: ∃n:Nat,i=n:=⟨i.toNat,by omega⟩
  have hn:n<24:=by omega
  rw [decide_eq_true h,if_pos h,Bool.not_true,ad,R5 hk n (by omega)]
  have e1:(n:Int)+1=((n+1:Nat):Int):=by simp
  rw [alX (by omega) (by omega),e1,iR _ (by omega),iR _ (by omega),fN _ (by omega),fN _ (by omega)]
  rw [Int.toNat_natCast,Int.toNat_natCast,Nat.min_eq_left (show n+1≤32 by omega),Nat.min_eq_left (show n≤32 by omega),Es,Dt]
  have hb:2^min n 24-1<4294967296:=by
   have:2^min n 24≤2^24:=Nat.pow_le_pow_right (by decide) (by omega)
   omega
  have hq:(m&&&M24)/2^(n+1)*2^n≤m&&&M24:=by
   have h1:(m&&&M24)/2^(n+1)*2^(n+1)≤m&&&M24:=Nat.div_mul_le_self _ _
   have h2:2^n≤2^(n+1):=Nat.pow_le_pow_right (by decide) (by omega)
   exact Nat.le_trans (Nat.mul_le_mul_left _ h2) h1
  have ec:((((m&&&M24)/2^(n+1):Nat):Int))*((2^n:Nat):Int)=(((m&&&M24)/2^(n+1)*2^n:Nat):Int):=by simp
  rw [ec,ld _ (by omega),lj (by omega) hb]
  have hlow:gO m n<4294967296:=by grind [gO,Nat.and_le_left]
  show ret (bj .or .u32 ((gO m n:Nat):Int) _)=_
  rw [wK hlow (by omega)]
 ·rw [decide_eq_false h,if_neg h];rfl
def jg (i:Int) (x:Nat):Nat:=if 0≤i∧i<(x:Int) then x-1 else x
theorem aef (hk:Fu k) (ret:Int→Option S) (i:Int):
  ∀ (r p:List Nat) (m:Nat),(p++r).length≤24→(∀x∈r,x<24)→r.length<m→(∀x∈p,x<24)→
  nI k ret i m (ints (p++r)) (p.length:Int)=ret ((alK (p++r.map (jg i)):Nat):Int):=by
 intro r
 induction r with
 |nil=>
  intro p m hl h24 hm hp
  obtain ⟨m,rfl,hm⟩:=km hm
  simp only [nI,xk,aY,amb,ag hk]
  grind [anG]
 |cons x r ih=>
  intro p m hl h24 hm hp
  obtain ⟨m,rfl,hm⟩:=km hm
  have hx:=h24 x (by simp)
  have hl':p.length+(r.length+1)≤24:=by grind
  have e0:ints (p++x::r)=ints p++(x:Int)::ints r:=by simp [ints]
  have el:(p.length:Int)=((ints p).length:Int):=by rw [amb]
  simp only [nI,xk,aY,ag hk]
  rw [if_pos (by grind),e0,el,uB]
  simp only [Option.bind_some]
  have ew:IntKind.wrap .i64 (((ints p).length:Int)+1)=(((p++[x]).length:Nat):Int):=by
   grind [alX]
  have key: ∀y:Nat,y<24→nI k ret i m (ints p++(y:Int)::ints r) (((p++[x]).length:Nat):Int)=ret ((alK ((p++[y])++r.map (jg i)):Nat):Int):=by
   intro y hy
   have:=ih (p++[y]) m (by grind) (fun z hz=>h24 z (by simp [hz])) (by grind) (by
    grind)
   grind [ints]
  rw [ew]
  by_cases hi:i≥0
  ·rw [if_pos hi]
   by_cases hxi:(x:Int)>i<;>grind [alX,Int.toNat_natCast,jg]
  grind [jg]
theorem aal (m:Nat) (i:Int):j7 m i=alK ((bW (if 0≤i∧i<24 then dL (m&&&M24) (2^i.toNat) else m&&&M24)).map (jg i)):=by
 unfold j7
 by_cases h:0≤i∧i<24
 ·rw [if_pos h,if_pos h]
  obtain ⟨n,rfl⟩: ∃n:Nat,i=n:=⟨i.toNat,by omega⟩
  have hn:n<24:=by omega
  rw [Int.toNat_natCast]
  have hmem: ∀j,j∈bW (dL (m&&&M24) (2^n))↔(j<24∧m.testBit j=true∧j≠n):=by
   grind [mem_bitsN,mm,g8]
  have hnd:((bW (dL (m&&&M24) (2^n))).map (jg n)).Nodup:=by
   grind [List.Pairwise.imp_of_mem,oY,jg]
  apply Nat.eq_of_testBit_eq
  intro j
  rw [oG _ hnd,Nat.testBit_or,Dl,Nat.testBit_mul_two_pow,Nat.testBit_div_two_pow,Nat.testBit_and,g8,Bool.eq_iff_iff]
  grind [jg]
 ·rw [if_neg h,if_neg h]
  have e:(bW (m&&&M24)).map (jg i)=bW (m&&&M24):=by
   conv=>rhs;rw [←List.map_id (bW (m&&&M24))]
   grind [List.map_congr_left,mem_bitsN,jg]
  grind [Hk]
theorem akp (hk:Fu k) {m:Nat} (hm:m<4294967296) (i:Int) (ret:Int→Option S):po k (m:Int) i ret=ret ((j7 m i:Nat):Int):=by
 simp only [po,H3,ag hk,anS hk hm]
 have hlt:m&&&M24<4294967296:=Nat.lt_of_le_of_lt Nat.and_le_right (by decide)
 have e:(if 0≤i∧i<24 then ((dL (m&&&M24) (2^i.toNat):Nat):Int) else ((m&&&M24:Nat):Int))=(((if 0≤i∧i<24 then dL (m&&&M24) (2^i.toNat) else m&&&M24):Nat):Int):=by grind
 have hq:(if 0≤i∧i<24 then dL (m&&&M24) (2^i.toNat) else m&&&M24)<4294967296:=by
  split
  ·exact vq (n:=32) hlt
  omega
 rw [e,anF hk hq,aal]
 generalize (if 0≤i∧i<24 then dL (m&&&M24) (2^i.toNat) else m&&&M24)=q at hq ⊢
 have:=aef hk ret i (bW q) [] k (by grind [gu]) (fun x hx=>(mem_bitsN.1 hx).1) (by grind [gu]) (by simp)
 simp_all
end Go.Proofs.YtfkkpkhfjpaafaaGreatDoor
namespace Go.Proofs.YtfkkpkhfjpaafaaGreatDoor
open Go PI
set_option linter.unusedVariables false
set_option linter.unusedSimpArgs false
set_option maxRecDepth 20000
variable {S:Type} {k:Nat}
def aG (n:Int):Prop:= -9223372036854775808≤n∧n<9223372036854775808
def oC (s:Int):Bool:=decide (s<16777216)
def bP (s i:Int):Bool:=decide (0≤i∧i<24)&&s.toNat.testBit i.toNat
def e_ (s i:Int):Int:=if 0≤i∧i<24 then (((s.toNat&&&M24)|||2^i.toNat:Nat):Int) else ((s.toNat&&&M24:Nat):Int)
def alW (s i:Int):Int:=if 0≤i∧i<24 then ((dL (s.toNat&&&M24) (2^i.toNat):Nat):Int) else ((s.toNat&&&M24:Nat):Int)
def amp (s:Int):List Int:=ints (bW s.toNat)
def alS (s i b:Int):Int×Int:=if i<0∨b<0 then (0,2) else (((amc s.toNat i.toNat b.toNat).1:Int),((amc s.toNat i.toNat b.toNat).2:Int))
def pI (s i:Int):Int:=((j7 s.toNat i:Nat):Int)
theorem QE (m:Nat):oC (m:Int)=decide (m<16777216):=by
 grind [oC]
theorem Q9 (hk:Fu k) {s:Int} (h:U32 s) (ret:Bool→Option S):pm k s ret=ret (oC s):=by
 obtain ⟨m,hm,rfl⟩:=h.nat
 rw [akm hk hm,QE]
theorem RP (hk:Fu k) {s:Int} (h:U32 s) (ret:Bool→Option S):pq k s ret=ret (oC s):=by
 obtain ⟨m,hm,rfl⟩:=h.nat
 rw [akr hk hm,QE]
theorem rF (hk:Fu k) {s:Int} (h:U32 s) (i:Int) (ret:Bool→Option S):amz k s i ret=ret (bP s i):=by
 obtain ⟨m,hm,rfl⟩:=h.nat
 rw [akk hk hm];rfl
theorem amG (hk:Fu k) {s:Int} (h:U32 s) (i:Int) (ret:Bool→Option S):al0 k s i ret=ret (bP s i):=by
 obtain ⟨m,hm,rfl⟩:=h.nat
 rw [R6 hk hm];rfl
theorem vV (hk:Fu k) {s:Int} (h:U32 s) (i:Int) (ret:Int→Option S):i_ k s i ret=ret (e_ s i):=by
 obtain ⟨m,hm,rfl⟩:=h.nat
 rw [akn hk hm];rfl
theorem ajU (hk:Fu k) {s:Int} (h:U32 s) (i:Int) (ret:Int→Option S):tP k s i ret=ret (e_ s i):=by
 obtain ⟨m,hm,rfl⟩:=h.nat
 rw [aks hk hm];rfl
theorem vW (hk:Fu k) {s:Int} (h:U32 s) (i:Int) (ret:Int→Option S):jX k s i ret=ret (alW s i):=by
 obtain ⟨m,hm,rfl⟩:=h.nat
 rw [ako hk hm];rfl
theorem BF (hk:Fu k) {s:Int} (h:U32 s) (i:Int) (ret:Int→Option S):gC k s i ret=ret (alW s i):=by
 obtain ⟨m,hm,rfl⟩:=h.nat
 rw [anS hk hm];rfl
theorem ajQ (hk:Fu k) {s:Int} (h:U32 s) (ret:List Int→Option S):amH k s ret=ret (amp s):=by
 obtain ⟨m,hm,rfl⟩:=h.nat
 rw [anF hk hm];rfl
theorem Ny {s:Int} (h:U32 s):ra s=amp s:=by
 obtain ⟨m,hm,rfl⟩:=h.nat
 have: ∀i:Nat,(BitVec.ofInt 32 (m:Int)).getLsbD i=m.testBit i:=by
  grind
 simp_all [ra,amp,ints,bW]
theorem Q6 (hk:Fu k) {s i b:Int} (h:U32 s) (hi:aG i) (hb:aG b) (ret:Int×Int→Option S):lx k s i b ret=ret (alS s i b):=by
 obtain ⟨m,hm,rfl⟩:=h.nat
 by_cases h1:i<0
 ·grind [lx,BT,aY,alS]
 by_cases h2:b<0
 ·grind [lx,BT,aY,alS]
 obtain ⟨n,rfl⟩: ∃n:Nat,i=n:=⟨i.toNat,by omega⟩
 obtain ⟨c,rfl⟩: ∃n:Nat,b=n:=⟨b.toNat,by omega⟩
 have:=hi.2;have:=hb.2
 grind [akl,alS]
theorem RM (hk:Fu k) {s i b:Int} (h:U32 s) (hi:aG i) (hb:aG b) (ret:Int×Int→Option S):amX k s i b ret=ret (alS s i b):=by
 obtain ⟨m,hm,rfl⟩:=h.nat
 by_cases h1:i<0
 ·grind [amX,anU,aY,alS]
 by_cases h2:b<0
 ·grind [amX,anU,aY,alS]
 obtain ⟨n,rfl⟩: ∃n:Nat,i=n:=⟨i.toNat,by omega⟩
 obtain ⟨c,rfl⟩: ∃n:Nat,b=n:=⟨b.toNat,by omega⟩
 have:=hi.2;have:=hb.2
 grind [akq,alS]
theorem Q4 (hk:Fu k) {s:Int} (h:U32 s) (i:Int) (ret:Int→Option S):pk k s i ret=ret (pI s i):=by
 obtain ⟨m,hm,rfl⟩:=h.nat
 rw [akj hk hm];rfl
theorem RJ (hk:Fu k) {s:Int} (h:U32 s) (i:Int) (ret:Int→Option S):po k s i ret=ret (pI s i):=by
 obtain ⟨m,hm,rfl⟩:=h.nat
 rw [akp hk hm];rfl
theorem Dy (hk:Fu k) (ret:Int→Option S):lw k 0 ret=ret 0:=by
 simp only [lw,HZ,ag hk];rfl
theorem Dz (hk:Fu k) (ret:Int→Option S): ∀n:Nat,n<24→lw k ((2^n:Nat):Int) ret=ret 1:=by
 simp only [lw,HZ,ag hk]
 intro n hn
 match n,hn with
 |0,_|1,_|2,_|3,_|4,_|5,_|6,_|7,_|8,_|9,_|10,_|11,_|12,_|13,_|14,_|15,_|16,_|17,_|18,_|19,_|20,_|21,_|22,_|23,_=>rfl
 |n+24,h=>omega
theorem B7 (i:Int):e_ 0 i=if 0≤i∧i<24 then ((2^i.toNat:Nat):Int) else 0:=by
 grind [e_]
theorem ai7 (hk:Fu k) (i:Int) (ret:Bool→Option S):yE k i ret=ret (decide (0≤i∧i<24)):=by
 simp only [yE,Sn,ag hk,vV hk (s:=0) ⟨by omega,by omega⟩,B7]
 grind [Dz,Dy]
theorem ai8 (hk:Fu k) (i:Int) (ret:Bool→Option S):yK k i ret=ret (decide (0≤i∧i<24)):=by
 simp only [yK,SC,ag hk,vV hk (s:=0) ⟨by omega,by omega⟩,B7]
 grind [Dz,Dy]
theorem U32.of {n:Nat} (h:n<4294967296):U32 (n:Int):=⟨by omega,by omega⟩
theorem withS_lt {s i:Int}:0≤e_ s i∧e_ s i<16777216:=by
 have h1:s.toNat&&&M24<16777216:=Nat.lt_of_le_of_lt Nat.and_le_right (by decide)
 unfold e_
 split
 ·next h=>
  have hp:2^i.toNat<2^24:=Nat.pow_lt_pow_right (by decide) (by omega)
  have:=Nat.or_lt_two_pow (n:=24) h1 hp
  omega
 ·omega
theorem Jd {s i:Int}:0≤alW s i∧alW s i<16777216:=by
 have h1:s.toNat&&&M24<16777216:=Nat.lt_of_le_of_lt Nat.and_le_right (by decide)
 unfold alW
 split
 ·have:=vq (n:=24) (b:=2^i.toNat) h1
  omega
 ·omega
theorem aam (m:Nat) (i:Int):j7 m i<16777216:=by
 have h1:m&&&M24<16777216:=Nat.lt_of_le_of_lt Nat.and_le_right (by decide)
 unfold j7
 split
 ·rw [LN]
  grind [Dl,g8]
 omega
deriving instance DecidableEq for Cl
theorem Cl.ext' {a b:Cl} (h1:a.pos=b.pos) (h2:a.neg=b.neg):a=b:=by cases a<;>simp_all
theorem lm (a b:Cl):((a.pos==b.pos)&&((a.neg==b.neg)&&true))=decide (a=b):=by
 grind [Cl.ext']
def aX (c:Cl):Prop:=U32 c.pos∧U32 c.neg
def aq (f:List Cl):Prop:= ∀c∈f,aX c
def fE (c:Cl):Bool:=oC c.pos&&oC c.neg
def RC (c:Cl):Prop:=(0≤c.pos∧c.pos<16777216)∧(0≤c.neg∧c.neg<16777216)
theorem RC.ok {c:Cl} (h:RC c):aX c:=⟨⟨h.1.1,by have:=h.1.2;omega⟩,⟨h.2.1,by have:=h.2.2;omega⟩⟩
theorem Bp {c:Cl} (h:aX c):fE c=true↔RC c:=by
 unfold fE oC RC
 simp only [Bool.and_eq_true,decide_eq_true_eq]
 have h1:=h.1.1;have h2:=h.2.1
 omega
def ep (a b:Int):Int:=((a.toNat|||b.toNat:Nat):Int)
theorem rh {a b:Int} (ha:U32 a) (hb:U32 b):bj .or .u32 a b=ep a b:=by
 obtain ⟨m,hm,rfl⟩:=ha.nat;obtain ⟨n,hn,rfl⟩:=hb.nat
 rw [wK hm hn];rfl
def d9 (a b:Cl):Cl:=⟨ep a.pos b.pos,ep a.neg b.neg⟩
def dR (a b:Cl):Bool:=decide (d9 a b=a)
def bS (c:Cl):Bool:= !decide (c.pos.toNat&&&c.neg.toNat=0)
theorem FX {a b:Int} (ha:U32 a) (hb:U32 b):U32 (ep a b):=by
 obtain ⟨m,hm,rfl⟩:=ha.nat;obtain ⟨n,hn,rfl⟩:=hb.nat
 exact U32.of (Nat.or_lt_two_pow (n:=32) hm hn)
theorem NX {a b:Int} (ha:0≤a∧a<16777216) (hb:0≤b∧b<16777216):0≤ep a b∧ep a b<16777216:=by
 unfold ep
 have:=Nat.or_lt_two_pow (n:=24) (x:=a.toNat) (y:=b.toNat) (by omega) (by omega)
 omega
theorem Aw {a b:Cl} (ha:aX a) (hb:aX b):aX (d9 a b):=⟨FX ha.1 hb.1,FX ha.2 hb.2⟩
theorem NC {a b:Cl} (ha:RC a) (hb:RC b):RC (d9 a b):=⟨NX ha.1 hb.1,NX ha.2 hb.2⟩
theorem Rg (hk:Fu k) {c:Cl} (h:aX c) (ret:Bool→Option S):tC k c ret=ret (fE c):=by
 simp only [tC,Sk,ag hk,Q9 hk h.1,Q9 hk h.2,fE,cH]
 grind
theorem RG (hk:Fu k) {c:Cl} (h:aX c) (ret:Bool→Option S):tT k c ret=ret (fE c):=by
 simp only [tT,Ti,ag hk,RP hk h.1,RP hk h.2,fE,cH]
 grind
theorem G_ (hk:Fu k) {a b:Cl} (ha:aX a) (hb:aX b) (ret:Cl→Option S):pb k a b ret=ret (d9 a b):=by
 simp only [pb,Sj,rh ha.1 hb.1,rh ha.2 hb.2];rfl
theorem ai3 (hk:Fu k) {a b:Cl} (ha:aX a) (hb:aX b) (ret:Bool→Option S):yA k a b ret=ret (dR a b):=by
 simp only [yA,Se,ag hk,G_ hk ha hb,lm];rfl
theorem ajB (hk:Fu k) {a b:Cl} (ha:aX a) (hb:aX b) (ret:Bool→Option S):zf k a b ret=ret (dR a b):=by
 have e:dR a b=((ep a.pos b.pos==a.pos)&&((ep a.neg b.neg==a.neg)&&true)):=(lm (d9 a b) a).symm
 simp only [zf,Te,rh ha.1 hb.1,rh ha.2 hb.2,cH,e]
 grind
theorem Rf (hk:Fu k) {c:Cl} (h:aX c) (ret:Bool→Option S):tB k c ret=ret (bS c):=by
 obtain ⟨p,n⟩:=c
 obtain ⟨m,hm,rfl⟩:=h.1.nat;obtain ⟨n,hn,rfl⟩:=h.2.nat
 simp only [tB,Sf,lj hm hn,bS,Int.toNat_natCast]
 congr 2
 grind
open Classical in
theorem aee (hk:Fu k) {c:Cl} (h:aX c) (ret:Bool→Option S): ∀ (d i m:Nat),i+d=24→d<m→
  qn k ret c m (i:Int)=ret (decide (∃j,i≤j∧j<24∧c.pos.toNat.testBit j=true∧c.neg.toNat.testBit j=true)):=by
 intro d
 induction d with
 |zero=>
  intro i m e hm
  obtain ⟨m,rfl,hm⟩:=km hm
  simp only [qn,xq,aY]
  rw [if_neg (by omega),decide_eq_false]
  rintro ⟨j,h1,h2,_⟩;omega
 |succ d ih=>
  intro i m e hm
  obtain ⟨m,rfl,hm⟩:=km hm
  have e2:(i:Int)+1=((i+1:Nat):Int):=by simp
  simp only [qn,xq,ag hk,amG hk h.1,amG hk h.2,cH,decide_eq_true_eq]
  rw [if_pos (by omega),alX (by omega) (by omega),e2,ih (i+1) m (by omega) (by omega)]
  have hp:bP c.pos (i:Int)=c.pos.toNat.testBit i:=by unfold bP;rw [decide_eq_true (by omega),Bool.true_and];rfl
  have hn:bP c.neg (i:Int)=c.neg.toNat.testBit i:=by unfold bP;rw [decide_eq_true (by omega),Bool.true_and];rfl
  rw [hp,hn]
  have step: ¬(c.pos.toNat.testBit i=true∧c.neg.toNat.testBit i=true)→((∃j,i+1≤j∧j<24∧c.pos.toNat.testBit j=true∧c.neg.toNat.testBit j=true)↔(∃j,i≤j∧j<24∧c.pos.toNat.testBit j=true∧c.neg.toNat.testBit j=true)):=by
   intro hne
   constructor
   ·rintro ⟨j,a,b⟩;exact ⟨j,by omega,b⟩
   ·rintro ⟨j,a,b⟩
    refine ⟨j, ?_,b⟩
    have:j≠i:=by rintro rfl;exact hne b.2
    omega
  by_cases h1:c.pos.toNat.testBit i=true
  ·by_cases h2:c.neg.toNat.testBit i=true
   ·rw [if_pos h1,if_pos h2,decide_eq_true]
    exact ⟨i,by omega,by omega,h1,h2⟩
   ·rw [if_pos h1,if_neg h2];simp only [step (fun h=>h2 h.2)]
  ·rw [if_neg h1];simp only [step (fun h=>h1 h.1)]
theorem RD (hk:Fu k) {c:Cl} (h:RC c) (ret:Bool→Option S):tQ k c ret=ret (bS c):=by
 simp only [tQ,H8]
 have:=aee hk h.ok ret 24 0 k (by omega) (by omega)
 refine Eq.trans this ?_
 congr 1
 rw [bS,Bool.eq_iff_iff]
 simp only [decide_eq_true_eq,Bool.not_eq_true',decide_eq_false_iff_not]
 constructor
 ·rintro ⟨j,_,_,h1,h2⟩ h0
  have:(c.pos.toNat&&&c.neg.toNat).testBit j=true:=by grind
  grind
 ·intro h0
  apply Classical.byContradiction
  intro hne
  apply h0
  apply Nat.eq_of_testBit_eq
  intro j
  rw [Nat.zero_testBit,Nat.testBit_and]
  cases h1:c.pos.toNat.testBit j with
  |false=>rfl
  |true=>
   cases h2:c.neg.toNat.testBit j with
   |false=>rfl
   |true=>
    have hlt:c.pos.toNat<16777216:=by have:=h.1;omega
    exact absurd ⟨j,by omega,oZ hlt h1,h1,h2⟩ hne
theorem aln (s:Int) (x:Nat) (hx:x<24) (j:Nat):(e_ s (x:Int)).toNat.testBit j=((s.toNat.testBit j&&decide (j<24))||decide (j=x)):=by
 unfold e_
 rw [if_pos (by omega),Int.toNat_natCast,Int.toNat_natCast,Nat.testBit_or,Nat.testBit_and,g8,Nat.testBit_two_pow,Bool.eq_iff_iff]
 grind
theorem af9 (hk:Fu k) (ret:Int→Option S): ∀ (r p:List Nat) (m:Nat) (a:Int),(p++r).length≤24→(∀x∈r,x<24)→r.length<m→U32 a→
  ∃v:Int,U32 v∧(∀j,v.toNat.testBit j=((a.toNat.testBit j&&(decide (r=[])||decide (j<24)))||decide (j∈r)))∧qv k ret (ints (p++r)) m a (p.length:Int)=ret v:=by
 intro r
 induction r with
 |nil=>
  grind [km,qv,xv,aY,amb]
 |cons x r ih=>
  intro p m a hl h24 hm ha
  obtain ⟨m,rfl,hm⟩:=km hm
  have hx:=h24 x (by simp)
  have hl':p.length+(r.length+1)≤24:=by grind
  have hu:U32 (e_ a (x:Int)):=⟨withS_lt.1,by have:=(withS_lt (s:=a) (i:=(x:Int))).2;omega⟩
  obtain ⟨v,hv,hb,hr⟩:=ih (p++[x]) m (e_ a (x:Int)) (by grind) (fun z hz=>h24 z (by simp [hz])) (by grind) hu
  refine ⟨v,hv,fun j=> ?_, ?_⟩
  ·grind [aln]
  ·have e0:ints (p++x::r)=ints p++(x:Int)::ints r:=by simp [ints]
   have el:(p.length:Int)=((ints p).length:Int):=by rw [amb]
   simp only [qv,xv,aY,ag hk]
   rw [if_pos (by grind),e0,el,uB]
   simp only [Option.bind_some,ajU hk ha]
   have ew:IntKind.wrap .i64 (((ints p).length:Int)+1)=(((p++[x]).length:Nat):Int):=by
    rw [amb,alX (by omega) (by omega)];simp
   grind
theorem RU (hk:Fu k) {a b:Int} (ha:0≤a∧a<16777216) (hb:0≤b∧b<16777216) (ret:Int→Option S):tU k a b ret=ret (ep a b):=by
 have ha':U32 a:=⟨ha.1,by omega⟩
 have hb':U32 b:=⟨hb.1,by omega⟩
 simp only [tU,Ia,ag hk,ajQ hk hb',amp]
 obtain ⟨v,hv,hbit,hr⟩:=af9 hk ret (bW b.toNat) [] k a (by grind [gu]) (fun x hx=>(mem_bitsN.1 hx).1) (by grind [gu]) ha'
 refine Eq.trans hr ?_
 congr 1
 have:v.toNat=a.toNat|||b.toNat:=by
  apply Nat.eq_of_testBit_eq
  intro j
  rw [hbit,Nat.testBit_or,Bool.eq_iff_iff]
  simp only [Bool.or_eq_true,Bool.and_eq_true,decide_eq_true_eq,mem_bitsN]
  constructor
  ·grind
  ·rintro (h|h)
   ·exact .inl ⟨h,.inr (oZ (m:=a.toNat) (by omega) h)⟩
   ·exact .inr ⟨oZ (m:=b.toNat) (by omega) h,h⟩
 have hv0:=hv.1
 unfold ep
 omega
theorem RE (hk:Fu k) {a b:Cl} (ha:RC a) (hb:RC b) (ret:Cl→Option S):tR k a b ret=ret (d9 a b):=by
 simp only [tR,Th,ag hk,RU hk ha.1 hb.1,RU hk ha.2 hb.2];rfl
def dw (c:Cl) (i b:Int):Cl×Int:=
 if fE c then
  if (alS c.pos i b).2=0 then if (alS c.neg i b).2=0 then (⟨(alS c.pos i b).1,(alS c.neg i b).1⟩,0) else (⟨0,0⟩,(alS c.neg i b).2)
  else (⟨0,0⟩,(alS c.pos i b).2)
 else (⟨0,0⟩,2)
theorem ai4 (hk:Fu k) {c:Cl} {i b:Int} (h:aX c) (hi:aG i) (hb:aG b) (ret:Cl×Int→Option S):yD k c i b ret=ret (dw c i b):=by
 simp only [yD,Si,ag hk,Rg hk h,Q6 hk h.1 hi hb,Q6 hk h.2 hi hb,cH,dw,Bool.not_eq_true',beq_eq_false_iff_ne]
 grind
theorem ajC (hk:Fu k) {c:Cl} {i b:Int} (h:aX c) (hi:aG i) (hb:aG b) (ret:Cl×Int→Option S):zh k c i b ret=ret (dw c i b):=by
 simp only [zh,Tg,ag hk,RG hk h,RM hk h.1 hi hb,RM hk h.2 hi hb,cH,dw,Bool.not_eq_true',beq_eq_false_iff_ne]
 grind
end Go.Proofs.YtfkkpkhfjpaafaaGreatDoor
namespace Go.Proofs.YtfkkpkhfjpaafaaGreatDoor
open Go PI
set_option linter.unusedVariables false
set_option linter.unusedSimpArgs false
set_option maxRecDepth 20000
variable {S:Type} {k:Nat}
def gP (a b:Cl):Prop:=a.pos<b.pos∨(a.pos=b.pos∧a.neg<b.neg)
def qZ (a b:Cl):Bool:=decide (a.pos<b.pos)||(a.pos==b.pos&&decide (a.neg<b.neg))
theorem agh {a b:Cl}:qZ a b=true↔gP a b:=by unfold qZ gP;simp
theorem LP {a b c:Cl} (h:gP a b) (h':gP b c):gP a c:=by grind [gP]
theorem LO {a:Cl} (h:gP a a):False:=by grind [gP]
theorem agC (a b:Cl):gP a b∨a=b∨gP b a:=by
 grind [Cl.ext',gP]
abbrev lg (l:List Cl):Prop:=l.Pairwise gP
theorem BL: ∀ {a b:List Cl},lg a→lg b→(∀c,c∈a↔c∈b)→a=b:=by
 intro a
 induction a with
 |nil=>
  intro b _ _ h
  cases b with
  |nil=>rfl
  |cons y b=>exact absurd ((h y).2 (by simp)) (by simp)
 |cons x a ih=>
  intro b ha hb h
  cases b with
  |nil=>grind
  |cons y b=>
   have ha':=List.pairwise_cons.1 ha;have hb':=List.pairwise_cons.1 hb
   have hxy:x=y:=by
    rcases List.mem_cons.1 ((h x).1 (by simp)) with h1|h1
    ·exact h1
    ·rcases List.mem_cons.1 ((h y).2 (by simp)) with h2|h2<;>grind [LP,LO]
   grind [LO]
def fq (x:Cl):List Cl→List Cl
 |[]=>[x]
 |y::r=>if qZ y x then y::fq x r else if y=x then y::r else x::y::r
theorem NE {x c:Cl}: ∀ {l:List Cl},c∈fq x l↔c=x∨c∈l:=by
 intro l
 induction l<;>grind [fq]
theorem adp {x:Cl}: ∀ {l:List Cl},lg l→lg (fq x l):=by
 intro l
 induction l<;>grind [fq,List.pairwise_cons,NE,agh,agC,LP]
theorem K_ {x:Cl}: ∀ {l:List Cl},(fq x l).length≤l.length+1:=by
 intro l
 induction l<;>grind [fq]
def ce (l:List Cl) (c:Cl):Bool:=l.all fun d=>decide (d=c)|| !dR c d
def kl (o l:List Cl):List Cl:=l.foldl (fun o c=>fq c o) o
def dx (l:List Cl):List Cl:=kl [] (l.filter (ce l))
theorem agJ {c:Cl}: ∀ {l o:List Cl},c∈kl o l↔c∈l∨c∈o:=by
 intro l
 induction l with
 |nil=>grind [kl]
 |cons x l ih=>
  intro o
  show c∈kl (fq x o) l↔_
  grind [NE]
theorem ado: ∀ {l o:List Cl},lg o→lg (kl o l):=by
 intro l
 induction l with
 |nil=>intro o h;exact h
 |cons x l ih=>intro o h;exact ih (adp h)
theorem adn: ∀ {l o:List Cl},(kl o l).length≤o.length+l.length:=by
 intro l
 induction l<;>grind [kl,K_]
theorem re (l:List Cl):lg (dx l):=ado List.Pairwise.nil
theorem mem_mins {l:List Cl} {c:Cl}:c∈dx l↔c∈l∧ce l c=true:=by
 grind [dx,agJ]
theorem agM (l:List Cl):(dx l).length≤l.length:=by
 grind [adn,dx]
theorem NK {l l':List Cl} (h: ∀c,c∈l↔c∈l') (c:Cl):ce l c=ce l' c:=by
 grind [ce]
theorem agL {l l':List Cl} (h: ∀c,c∈l↔c∈l'):dx l=dx l':=
 BL (re l) (re l') fun c=>by grind [mem_mins,NK]
def bp (l:List Cl):List Cl×Int:=if l.all fE then if (dx l).length>64 then ([],3) else (dx l,0) else ([],2)
theorem age {l l':List Cl} (h: ∀c,c∈l↔c∈l'):bp l=bp l':=by
 grind [bp,agL]
theorem aiT (hk:Fu k) (a b:Cl) (ret:Bool→Option S):zg k a b ret=ret (qZ a b):=by
 grind [zg,Tf,cH,qZ]
theorem afc (hk:Fu k) (ret:Bool→Option S) {c:Cl} (hc:aX c) {l:List Cl} (hl:aq l) (hlen:l.length<4294967296):
  ∀ (r p:List Cl) (m:Nat),l=p++r→r.length<m→qu k ret c l m (p.length:Int)=ret (ce r c):=by
 intro r
 induction r with
 |nil=>
  intro p m h hm
  obtain ⟨m,rfl,hm'⟩:=km hm
  simp only [qu,xu,akb h,ad];rfl
 |cons x r ih=>
  intro p m h hm
  obtain ⟨m,rfl,hm'⟩:=km hm
  obtain ⟨e1,e2,e3,e4⟩:=ln h (by omega)
  have hx:aX x:=hl x (by grind)
  grind [qu,xu,lm,cH,ce,ag,ajB]
theorem ajp (hk:Fu k) {c:Cl} (hc:aX c) {l:List Cl} (hl:aq l) (hlen:l.length<4294967296) (ret:Bool→Option S):zi k l c ret=ret (ce l c):=by
 simp only [zi,H_]
 exact afc hk ret hc hl hlen l [] k rfl (by omega)
theorem yq {S:Type} {p:Prop} [Decidable p] (h:p) (f:Unit→Option S):Option.bind (bR p) f=f ():=fN p h f
theorem afh (hk:Fu k) (ret:List Cl×Int→Option S) (rec1:List Cl→Int→Option S) {l:List Cl} {x:Cl} {i:Int} (hx:af l i=some x) {out:List Cl} (hout:out.length<4294967296):
  ∀ (r p:List Cl) (m:Nat),out=p++r→r.length<m→nL k ret rec1 l out i m (p.length:Int)=rec1 (p++fq x r) (IntKind.wrap .i64 (i+1)):=by
 intro r
 induction r with
 |nil=>
  intro p m h hm
  obtain ⟨m,rfl,hm'⟩:=km hm
  have hp:out=p:=by grind
  subst hp
  have e:(((out.length:Int))==((out.length:Int)))=true:=by simp
  simp only [nL,xt,akb h,ad,e,ae]
  grind [yq,sf,fq]
 |cons y r ih=>
  intro p m h hm
  obtain ⟨m,rfl,hm'⟩:=km hm
  obtain ⟨e1,e2,e3,e4⟩:=ln h (by omega)
  have hpl:p.length<out.length:=by grind
  have e:(((p.length:Int))==((out.length:Int)))=false:=by
   grind
  have:=ih (p++[y]) m e4 hm'
  simp only [nL,xt,e1,ae,e2,hx,Option.bind_some,ag hk,aiT hk,e,ad,lm]
  rw [e3,this]
  cases hb:qZ y x with
  |true=>grind [ae,fq]
  |false=>
   rw [ad,fq,if_neg (by grind)]
   by_cases hyx:y=x<;>grind [ad,ae,yq,sf]
theorem afg (hk:Fu k) (ret:List Cl×Int→Option S) {l:List Cl} (hl:aq l) (hlen:l.length<2147483648):
  ∀ (r p:List Cl) (m:Nat) (o:List Cl),l=p++r→r.length<m→o.length≤p.length→
  amS k ret l m o (p.length:Int)=ret (if (kl o (r.filter (ce l))).length>64 then ([],3) else (kl o (r.filter (ce l)),0)):=by
 intro r
 induction r with
 |nil=>
  intro p m o h hm ho
  obtain ⟨m,rfl,hm'⟩:=km hm
  simp only [amS,sI,akb h,ad,aY]
  show _=ret (if o.length>64 then _ else (o,0))
  grind
 |cons x r ih=>
  intro p m o h hm ho
  obtain ⟨m,rfl,hm'⟩:=km hm
  obtain ⟨e1,e2,e3,e4⟩:=ln h (by omega)
  have hx:aX x:=hl x (by grind)
  have hk':4294967296≤k:=hk
  have hpl:p.length<l.length:=by grind
  simp only [amS,sI,e1,ae,e2,Option.bind_some,ag hk,ajp hk hx hl (by omega)]
  have hplace:=afh hk ret (amS k ret l m) e2 (out:=o) (by omega) o [] k rfl (by omega)
  simp only [List.length_nil,List.nil_append] at hplace
  rw [show (0:Int)=((0:Nat):Int) from rfl,hplace,e3]
  cases hn:ce l x with
  |true=>
   rw [Bool.not_true,ad,List.filter_cons_of_pos hn]
   exact ih (p++[x]) m (fq x o) e4 hm' (by grind [K_])
  |false=>
   rw [Bool.not_false,ae,List.filter_cons_of_neg (by grind)]
   grind
theorem afI (hk:Fu k) (ret:List Cl×Int→Option S) {l:List Cl} (hl:aq l) (hlen:l.length<2147483648):
  ∀ (r p:List Cl) (m:Nat),l=p++r→r.length<m→
  qr k ret l m (p.length:Int)=ret (if r.all fE then if (dx l).length>64 then ([],3) else (dx l,0) else ([],2)):=by
 intro r
 induction r with
 |nil=>
  intro p m h hm
  obtain ⟨m,rfl,hm'⟩:=km hm
  simp only [qr,sH,akb h,ad,List.all_nil,if_true]
  have hk':4294967296≤k:=hk
  exact afg hk ret hl hlen l [] k [] rfl (by omega) (by simp)
 |cons x r ih=>
  intro p m h hm
  obtain ⟨m,rfl,hm'⟩:=km hm
  obtain ⟨e1,e2,e3,e4⟩:=ln h (by omega)
  have hx:aX x:=hl x (by grind)
  grind [qr,sH,ae,ag,RG,ad]
theorem ank (hk:Fu k) {l:List Cl} (hl:aq l) (hlen:l.length<2147483648) (ret:List Cl×Int→Option S):amJ k l ret=ret (bp l):=by
 simp only [amJ,H9]
 exact afI hk ret hl hlen l [] k rfl (by omega)
theorem aiS (hk:Fu k) {d c:Cl} (hd:aX d) (hc:aX c) (ret:Bool→Option S):yC k d c ret=ret (!(decide (d=c)|| !dR c d)):=by
 grind [yC,Sh,lm,cH,ag,ai3,dR]
end Go.Proofs.YtfkkpkhfjpaafaaGreatDoor
namespace Go.Proofs.YtfkkpkhfjpaafaaGreatDoor
open Go PI
set_option linter.unusedVariables false
set_option linter.unusedSimpArgs false
set_option maxRecDepth 20000
variable {S:Type} {k:Nat}
theorem aeZ (hk:Fu k) (ret:Int→Option S) {c:Cl} (hc:aX c) {l:List Cl} (hl:aq l) (hlen:l.length<2147483648):
  ∀ (r p:List Cl) (m:Nat),l=p++r→r.length<m→ ∃v:Int,decide (v≥0)= !ce r c∧qO k ret c l m (p.length:Int)=ret v:=by
 intro r
 induction r with
 |nil=>
  intro p m h hm
  obtain ⟨m,rfl,hm'⟩:=km hm
  exact ⟨-1,rfl,by grind [qO,yc,ad]⟩
 |cons x r ih=>
  intro p m h hm
  obtain ⟨m,rfl,hm'⟩:=km hm
  obtain ⟨e1,e2,e3,e4⟩:=ln h (by omega)
  have hx:aX x:=hl x (by grind)
  obtain ⟨v,hv,hr⟩:=ih (p++[x]) m e4 hm'
  have e0:ce (x::r) c=((decide (x=c)|| !dR c x)&&ce r c):=by rfl
  grind [qO,yc,ae,ag,aiS,decide,dR,ad]
theorem ajq (hk:Fu k) {c:Cl} (hc:aX c) {l:List Cl} (hl:aq l) (hlen:l.length<2147483648) (ret:Bool→Option S):yB k c l ret=ret (!ce l c):=by
 obtain ⟨v,hv,hr⟩:=aeZ hk (fun r1:Int=>ret (decide (r1≥0))) hc hl hlen l [] k rfl (by omega)
 grind [yB,Sg,DT,TL,DV,IM,ag]
theorem ae2 (hk:Fu k) (ret:List Cl×Int→Option S) {l:List Cl} (hl:aq l) (hlen:l.length<2147483648):
  ∀ (r p:List Cl) (m:Nat) (q:List Cl),l=p++r→r.length<m→q.length≤p.length→
  nz k ret l m (p.length:Int) q=ret (if (q++r.filter (ce l)).length>64 then ([],3) else (sortCl (q++r.filter (ce l)),0)):=by
 intro r
 induction r with
 |nil=>
  grind [km,nz,wM,aY]
 |cons x r ih=>
  intro p m q h hm hq
  obtain ⟨m,rfl,hm'⟩:=km hm
  obtain ⟨e1,e2,e3,e4⟩:=ln h (by omega)
  have hx:aX x:=hl x (by grind)
  have hpl:p.length<l.length:=by grind
  simp only [nz,wM,e1,ae,e2,Option.bind_some,ag hk,ajq hk hx hl hlen,Bool.not_not]
  rw [e3]
  cases hn:ce l x with
  |true=>
   rw [ae,sf (by grind),List.filter_cons_of_pos hn,ih (p++[x]) m (q++[x]) e4 hm' (by grind)]
   simp
  |false=>
   rw [ad,List.filter_cons_of_neg (by grind)]
   grind
theorem zT (a b:Cl):eS VV ET.C a b=decide (a=b):=by
 have e:eS VV ET.C a b=((a.pos==b.pos)&&((a.neg==b.neg)&&true)):=by
  rfl
 rw [e,lm]
theorem agK (l:List (Cl×Bool)) (x y:Cl):dW VV ET.C (fz VV ET.C l x true) y=if x=y then some true else dW VV ET.C l y:=by
 induction l with
 |nil=>
  show (bif eS VV ET.C x y then some true else .none)=_
  simp_all [zT,dW]
 |cons a r ih=>
  obtain ⟨z,b⟩:=a
  show dW VV ET.C (bif eS VV ET.C z x then (z,true)::r else (z,b)::fz VV ET.C r x true) y=_
  rw [zT]
  by_cases h:z=x
  ·subst h
   rw [decide_eq_true rfl,cond_true]
   show (bif eS VV ET.C z y then some true else dW VV ET.C r y)=if z=y then some true else (bif eS VV ET.C z y then some b else dW VV ET.C r y)
   grind [zT]
  ·rw [decide_eq_false h,cond_false]
   show (bif eS VV ET.C z y then some b else dW VV ET.C (fz VV ET.C r x true) y)=if x=y then some true else (bif eS VV ET.C z y then some b else dW VV ET.C r y)
   grind [zT]
theorem akd {l o:List Cl} (hn:o.Nodup) (h: ∀c,c∈o↔c∈l):sortCl (o.filter (ce o))=dx l∧(o.filter (ce o)).length=(dx l).length:=by
 have hp:(sortCl (o.filter (ce o))).Perm (o.filter (ce o)):=List.mergeSort_perm _ _
 have hs:(sortCl (o.filter (ce o))).Pairwise (fun a b=>lq a b=true):=
  List.pairwise_mergeSort (le:=lq) (fun a b c h1 h2=>by
   grind [lq]) (fun a b=>by
   grind [lq]) _
 have hnd:(sortCl (o.filter (ce o))).Nodup:=hp.nodup_iff.2 (hn.filter _)
 have hsorted:lg (sortCl (o.filter (ce o))):=by
  refine (hs.and hnd).imp fun {a b} h=> ?_
  have h1:=h.1
  unfold lq at h1
  simp only [Bool.or_eq_true,Bool.and_eq_true,decide_eq_true_eq,beq_iff_eq] at h1
  rcases h1 with h1|h1
  ·exact .inl h1
  ·refine .inr ⟨h1.1, ?_⟩
   grind [Cl.ext']
 have he:sortCl (o.filter (ce o))=dx l:=BL hsorted (re l) fun c=>by
  grind [mem_mins,NK]
 exact ⟨he,by rw [←he,hp.length_eq]⟩
theorem af3 (hk:Fu k) (ret:List Cl×Int→Option S) {l:List Cl} (hl:aq l) (hlen:l.length<2147483648):
  ∀ (r p:List Cl) (m:Nat) (q:List (Cl×Bool)) (o:List Cl),l=p++r→r.length<m→o.length≤p.length→o.Nodup→(∀c:Cl,(dW VV ET.C q c).getD false=decide (c∈o))→(∀c,c∈o↔c∈p)→
  pZ k ret l m q o (p.length:Int)=ret (if r.all fE then if (dx l).length>64 then ([],3) else (dx l,0) else ([],2)):=by
 intro r
 induction r with
 |nil=>
  intro p m q o h hm ho hnd hq hmem
  obtain ⟨m,rfl,hm'⟩:=km hm
  have hp:l=p:=by grind
  subst hp
  have hol:aq o:=fun c hc=>hl c ((hmem c).1 hc)
  have hk':4294967296≤k:=hk
  simp only [pZ,sq,akb h,ad,List.all_nil,if_true]
  have:=ae2 hk ret hol (by omega) o [] k [] rfl (by omega) (by simp)
  grind [akd]
 |cons x r ih=>
  intro p m q o h hm ho hnd hq hmem
  obtain ⟨m,rfl,hm'⟩:=km hm
  obtain ⟨e1,e2,e3,e4⟩:=ln h (by omega)
  have hx:aX x:=hl x (by grind)
  have hpl:p.length<l.length:=by grind
  simp only [pZ,sq,e1,ae,e2,Option.bind_some,ag hk,Rg hk hx]
  rw [hq,e3]
  by_cases hr:fE x=true
  ·have:(x::r).all fE=r.all fE:=by grind
   rw [hr,Bool.not_true,ad,this]
   by_cases hxo:x∈o
   ·grind [ad]
   ·rw [decide_eq_false hxo,Bool.not_false,ae,sf (by grind)]
    refine ih (p++[x]) m _ (o++[x]) e4 hm' (by grind) (List.nodup_append.2 ⟨hnd,by simp,fun a ha b hb=>by grind⟩) (fun c=> ?_) fun c=> ?_
    all_goals grind [agK]
  grind [ae]
theorem kX (hk:Fu k) {l:List Cl} (hl:aq l) (hlen:l.length<2147483648) (ret:List Cl×Int→Option S):gy k l ret=ret (bp l):=by
 simp only [gy,Hw]
 exact af3 hk ret hl hlen l [] k [] [] rfl (by omega) (by simp) List.nodup_nil (fun c=>by rfl) (fun c=>Iff.rfl)
theorem aeg (hk:Fu k) (ret:Bool→Option S) {a b:List Cl} (hlen:a.length<4294967296):
  ∀ (r s p q:List Cl) (m:Nat),a=p++r→b=q++s→p.length=q.length→r.length=s.length→r.length<m→qN k ret a b m (p.length:Int)=ret (decide (r=s)):=by
 intro r
 induction r with
 |nil=>
  grind [km,qN,yb,ad]
 |cons x r ih=>
  intro s p q m h h' hpq hrs hm
  obtain ⟨m,rfl,hm'⟩:=km hm
  cases s with
  |nil=>cases hrs
  |cons y s=>
   obtain ⟨e1,e2,e3,e4⟩:=ln h (by omega)
   have e2':af b (p.length:Int)=some y:=by grind [uB]
   simp only [qN,yb,e1,ae,e2,e2',Option.bind_some,lm,e3]
   rw [ih s (p++[x]) (q++[y]) m e4 (by grind) (by simp_all) (by grind) hm']
   by_cases hxy:x=y<;>simp_all [ad,ae]
theorem aiN (hk:Fu k) {a b:List Cl} (hlen:a.length<4294967296) (ret:Bool→Option S):zz k a b ret=ret (decide (a=b)):=by
 simp only [zz,IL]
 by_cases h:a.length=b.length
 ·have e:((a.length:Int)==(b.length:Int))=true:=by simp [h]
  rw [e,Bool.not_true,ad]
  exact aeg hk ret hlen a b [] [] k rfl rfl rfl h (by omega)
 ·have e:((a.length:Int)==(b.length:Int))=false:=by grind
  rw [e,Bool.not_false,ae,decide_eq_false]
  grind
theorem aej (hk:Fu k) (ret:Bool→Option S) {a b:List Cl} (hlen:a.length<4294967296):
  ∀ (r s p q:List Cl) (m:Nat),a=p++r→b=q++s→p.length=q.length→r.length=s.length→r.length<m→ky k ret a b m (p.length:Int)=ret (decide (r=s)):=by
 intro r
 induction r with
 |nil=>
  grind [km,ky,oT,ad]
 |cons x r ih=>
  intro s p q m h h' hpq hrs hm
  obtain ⟨m,rfl,hm'⟩:=km hm
  cases s with
  |nil=>cases hrs
  |cons y s=>
   obtain ⟨e1,e2,e3,e4⟩:=ln h (by omega)
   have e2':af b (p.length:Int)=some y:=by grind [uB]
   simp only [ky,oT,e1,ae,e2,e2',Option.bind_some,lm,e3]
   rw [ih s (p++[x]) (q++[y]) m e4 (by simp_all) (by simp_all) (by grind) hm']
   by_cases hxy:x=y<;>simp_all [ad,ae]
theorem aiV (hk:Fu k) {a b:List Cl} (hlen:a.length<4294967296) (ret:Bool→Option S):jY k a b ret=ret (decide (a=b)):=by
 simp only [jY,BV]
 by_cases h:a.length=b.length
 ·have e:((a.length:Int)==(b.length:Int))=true:=by simp [h]
  rw [e,Bool.not_true,ad]
  exact aej hk ret hlen a b [] [] k rfl rfl rfl h (by omega)
 ·have e:((a.length:Int)==(b.length:Int))=false:=by grind
  rw [e,Bool.not_false,ae,decide_eq_false]
  grind
theorem LF (l:List Cl):(bp l).1.length≤64:=by
 grind [bp]
def bF (f:List Cl):Bool:=decide (bp f=(f,0))
theorem rH (hk:Fu k) {f:List Cl} (hf:aq f) (hlen:f.length<2147483648) (ret:Bool→Option S):hY k f ret=ret (bF f):=by
 have:=LF f
 simp only [hY,SL,ag hk,kX hk hf hlen,aiN hk (show (bp f).1.length<4294967296 by omega),cH,bF,beq_iff_eq]
 by_cases h:(bp f).2=0
 all_goals simp_all [Prod.ext_iff]
theorem amy (hk:Fu k) {f:List Cl} (hf:aq f) (hlen:f.length<2147483648) (ret:Bool→Option S):al6 k f ret=ret (bF f):=by
 have:=LF f
 simp only [al6,Tk,ag hk,ank hk hf hlen,aiV hk (show (bp f).1.length<4294967296 by omega),cH,bF,beq_iff_eq]
 by_cases h:(bp f).2=0
 all_goals simp_all [Prod.ext_iff]
end Go.Proofs.YtfkkpkhfjpaafaaGreatDoor
namespace Go.Proofs.YtfkkpkhfjpaafaaGreatDoor
open Go PI
set_option linter.unusedVariables false
set_option linter.unusedSimpArgs false
set_option maxRecDepth 20000
variable {S:Type} {k:Nat}
def RF (f:List Cl):Prop:=bp f=(f,0)∧aq f
theorem fF {f:List Cl} (h:aq f):bF f=true↔RF f:=by grind [bF,RF]
theorem RF.right {f:List Cl} (h:RF f):bF f=true:=by unfold bF;simp [h.1]
theorem As {l o:List Cl} (h:bp l=(o,0)):o=dx l∧l.all fE=true∧o.length≤64:=by
 grind [bp]
theorem RF.len {f:List Cl} (h:RF f):f.length≤64:=(As h.1).2.2
theorem RF.rc {f:List Cl} (h:RF f) {c:Cl} (hc:c∈f):RC c:=(Bp (h.2 c hc)).1 (List.all_eq_true.1 (As h.1).2.1 c hc)
theorem agN (l:List Cl):dx (dx l)=dx l:=BL (re _) (re _) fun c=>by
 grind [mem_mins,ce]
theorem qX {l:List Cl} (hl:aq l) (h:(bp l).2=0):RF (bp l).1:=by
 have h':bp l=((bp l).1,0):=Prod.ext rfl h
 obtain ⟨h1,h2,h3⟩:=As h'
 have hok:aq (bp l).1:=fun c hc=>hl c ((mem_mins.1 (h1▸hc)).1)
 refine ⟨?_,hok⟩
 grind [bp,mem_mins,agN]
theorem agf {l:List Cl} (h:(bp l).2≠0):(bp l).1=[]:=by
 grind [bp]
theorem rA:RF []:=⟨rfl,fun c hc=>by cases hc⟩
theorem gS {c:Cl} (h:RC c):RF [c]:=by
 have hok:aq [c]:=fun d hd=>by simp at hd;subst hd;exact h.ok
 refine ⟨?_,hok⟩
 have hm:dx [c]=[c]:=BL (re _) (by simp) fun d=>by
  grind [mem_mins,ce]
 unfold bp
 rw [hm,if_pos (by simp [(Bp h.ok).2 h]),if_neg (by simp)]
theorem oA:RC ⟨0,0⟩:=⟨⟨by decide,by decide⟩,by decide,by decide⟩
theorem ami {f g:List Cl} (hf:aq f) (hg:aq g):aq (f++g):=fun c hc=>by
 rcases List.mem_append.1 hc with h|h
 ·exact hf c h
 ·exact hg c h
theorem afJ (hk:Fu k) (ret:Int→Option S) {l:List (List Cl)} (hl: ∀f∈l,aq f∧f.length<2147483648) (hlen:l.length<4294967296):
  ∀ (r p:List (List Cl)) (m:Nat),l=p++r→r.length<m→qi k ret l m (p.length:Int)=ret (if r.all bF then 0 else 2):=by
 intro r
 induction r with
 |nil=>
  grind [km,qi,w9,ad]
 |cons x r ih=>
  intro p m h hm
  obtain ⟨m,rfl,hm'⟩:=km hm
  obtain ⟨e1,e2,e3,e4⟩:=ln h (by omega)
  have hx:=hl x (by grind)
  grind [qi,w9,ae,ag,rH,ad]
theorem Hc (hk:Fu k) {l:List (List Cl)} (hl: ∀f∈l,aq f∧f.length<2147483648) (hlen:l.length<4294967296) (ret:Int→Option S):pi k l ret=ret (if l.all bF then 0 else 2):=by
 simp only [pi,HT]
 exact afJ hk ret hl hlen l [] k rfl (by omega)
def alO (f g:List Cl):List Cl×Int:=bp (f++g)
def meets (f g:List Cl):List Cl:=f.flatMap fun a=>g.map (d9 a)
def alV (f g:List Cl):List Cl×Int:=bp (meets f g)
theorem ND {f g:List Cl} (hf:aq f) (hg:aq g):aq (meets f g):=fun c hc=>by
 obtain ⟨a,ha,hc⟩:=List.mem_flatMap.1 hc
 obtain ⟨b,hb,rfl⟩:=List.mem_map.1 hc
 exact Aw (hf a ha) (hg b hb)
theorem kS {f g:List Cl} (hf:aq f) (hg:aq g) (h:(alV f g).2=0):RF (alV f g).1:=qX (ND hf hg) h
theorem Lc {f g:List Cl} (hf:aq f) (hg:aq g) (h:(alO f g).2=0):RF (alO f g).1:=qX (ami hf hg) h
theorem Bz (hk:Fu k) {f g:List Cl} (hf:aq f) (hg:aq g) (h1:f.length<1073741824) (h2:g.length<1073741824) (ret:List Cl×Int→Option S):na k f g ret=ret (alO f g):=by
 simp only [na,SM,ag hk,List.nil_append]
 rw [sf (by grind),sf (by omega),kX hk (ami hf hg) (by grind)]
 rfl
theorem afa (hk:Fu k) (ret:List Cl×Int→Option S) (rec0:Int→List Cl→Option S) {x:Cl} (hx:aX x) {g f:List Cl} {v:Int} (hg:aq g) (hlen:g.length<65536):
  ∀ (r p:List Cl) (m:Nat) (o:List Cl),g=p++r→r.length<m→o.length+r.length<1099511627776→nA k ret rec0 x g f v m (p.length:Int) o=rec0 (IntKind.wrap .i64 (v+1)) (o++r.map (d9 x)):=by
 intro r
 induction r with
 |nil=>
  intro p m o h hm ho
  obtain ⟨m,rfl,hm'⟩:=km hm
  grind [nA,w7,ad]
 |cons y r ih=>
  intro p m o h hm ho
  obtain ⟨m,rfl,hm'⟩:=km hm
  obtain ⟨e1,e2,e3,e4⟩:=ln h (by omega)
  have hy:aX y:=hg y (by grind)
  simp only [List.length_cons] at ho
  simp only [nA,w7,e1,ae,e2,Option.bind_some,ag hk,G_ hk hx hy,e3]
  grind [sf]
theorem ae_ (hk:Fu k) (ret:List Cl×Int→Option S) {g f:List Cl} (hf:aq f) (hg:aq g) (hlf:f.length<32768) (hlg:g.length<32768):
  ∀ (r p:List Cl) (m:Nat) (o:List Cl),f=p++r→r.length<m→aq o→o.length+r.length*g.length<1073741825→lZ k ret g f m (p.length:Int) o=ret (bp (o++meets r g)):=by
 intro r
 induction r with
 |nil=>
  grind [km,lZ,an_,ad,ag,kX,meets]
 |cons x r ih=>
  intro p m o h hm hok ho
  obtain ⟨m,rfl,hm'⟩:=km hm
  obtain ⟨e1,e2,e3,e4⟩:=ln h (by omega)
  have hx:aX x:=hf x (by grind)
  have hmul:(x::r).length*g.length=r.length*g.length+g.length:=by grind
  rw [hmul] at ho
  have hk':4294967296≤k:=hk
  simp only [lZ,an_,e1,ae,e2,Option.bind_some]
  have:=afa hk ret (lZ k ret g f m) (f:=f) (v:=(p.length:Int)) hx hg (by omega) g [] k o rfl (by omega) (by omega)
  simp only [List.length_nil] at this
  rw [show (0:Int)=((0:Nat):Int) from rfl,this,e3,ih (p++[x]) m _ e4 hm' (ami hok fun c hc=>by
   obtain ⟨b,hb,rfl⟩:=List.mem_map.1 hc
   exact Aw hx (hg b hb)) (by grind)]
  simp [meets]
theorem vY (hk:Fu k) {f g:List Cl} (hf:aq f) (hg:aq g) (h1:f.length<32768) (h2:g.length<32768) (ret:List Cl×Int→Option S):jW k f g ret=ret (alV f g):=by
 simp only [jW,HR]
 have hb:f.length*g.length<1073741824:=Nat.lt_of_le_of_lt (Nat.mul_le_mul (Nat.le_of_lt_succ h1) (Nat.le_of_lt_succ h2)) (by decide)
 have:=ae_ hk ret hf hg h1 h2 f [] k [] rfl (by omega) (fun c hc=>by cases hc) (by grind)
 grind [alV]
theorem afP (hk:Fu k) (ret:List Cl×Int→Option S) (rec0:List Cl→Int→Option S) {x:Cl} (hx:RC x) {g f:List Cl} {v:Int} (hfx:af f v=some x) (hg: ∀c∈g,RC c) (hlen:g.length<65536):
  ∀ (r p:List Cl) (m:Nat) (o:List Cl),g=p++r→r.length<m→o.length+r.length<1099511627776→nN k ret rec0 f g v m o (p.length:Int)=rec0 (o++r.map (d9 x)) (IntKind.wrap .i64 (v+1)):=by
 intro r
 induction r with
 |nil=>
  intro p m o h hm ho
  obtain ⟨m,rfl,hm'⟩:=km hm
  grind [nN,xy,ad]
 |cons y r ih=>
  intro p m o h hm ho
  obtain ⟨m,rfl,hm'⟩:=km hm
  obtain ⟨e1,e2,e3,e4⟩:=ln h (by omega)
  have hy:RC y:=hg y (by grind)
  simp only [List.length_cons] at ho
  simp only [nN,xy,e1,ae,e2,hfx,Option.bind_some,ag hk,RE hk hx hy,e3]
  grind [sf]
theorem afO (hk:Fu k) (ret:List Cl×Int→Option S) {g f:List Cl} (hf: ∀c∈f,RC c) (hg: ∀c∈g,RC c) (hlf:f.length<32768) (hlg:g.length<32768):
  ∀ (r p:List Cl) (m:Nat) (o:List Cl),f=p++r→r.length<m→aq o→o.length+r.length*g.length<1073741825→am5 k ret f g m o (p.length:Int)=ret (bp (o++meets r g)):=by
 intro r
 induction r with
 |nil=>
  grind [km,am5,sK,ad,ag,ank,meets]
 |cons x r ih=>
  intro p m o h hm hok ho
  obtain ⟨m,rfl,hm'⟩:=km hm
  obtain ⟨e1,e2,e3,e4⟩:=ln h (by omega)
  have hx:RC x:=hf x (by grind)
  have hmul:(x::r).length*g.length=r.length*g.length+g.length:=by grind
  rw [hmul] at ho
  have hk':4294967296≤k:=hk
  simp only [am5,sK,e1,ae]
  have:=afP hk ret (am5 k ret f g m) hx e2 hg (by omega) g [] k o rfl (by omega) (by omega)
  simp only [List.length_nil] at this
  rw [show (0:Int)=((0:Nat):Int) from rfl,this,e3,ih (p++[x]) m _ e4 hm' (ami hok fun c hc=>by
   obtain ⟨b,hb,rfl⟩:=List.mem_map.1 hc
   exact (NC hx (hg b hb)).ok) (by grind)]
  simp [meets]
theorem RF.lt {f:List Cl} (h:RF f):f.length<2147483648:=by have:=h.len;omega
theorem BC (hk:Fu k) {f g:List Cl} (hf:RF f) (hg:RF g) (ret:List Cl×Int→Option S):amO k f g ret=ret (alV f g):=by
 have l1:=hf.len;have l2:=hg.len
 simp only [amO,Id,ag hk,amy hk hf.2 hf.lt,amy hk hg.2 hg.lt,hf.right,hg.right,Bool.not_true,ad]
 have hb:f.length*g.length≤64*64:=Nat.mul_le_mul l1 l2
 have:=afO hk ret (fun c hc=>hf.rc hc) (fun c hc=>hg.rc hc) (by omega) (by omega) f [] k [] rfl (by omega) (fun c hc=>by cases hc) (by grind)
 grind [alV]
theorem ajD (hk:Fu k) {f g:List Cl} (hf:RF f) (hg:RF g) (ret:List Cl×Int→Option S):zj k f g ret=ret (alO f g):=by
 have l1:=hf.len;have l2:=hg.len
 simp only [zj,Tj,ag hk,amy hk hf.2 hf.lt,amy hk hg.2 hg.lt,hf.right,hg.right,Bool.not_true,ad,List.nil_append]
 rw [sf (by grind),sf (by omega),ank hk (ami hf.2 hg.2) (by grind)]
 rfl
end Go.Proofs.YtfkkpkhfjpaafaaGreatDoor
namespace Go.Proofs.YtfkkpkhfjpaafaaGreatDoor
open Go PI
set_option linter.unusedVariables false
set_option linter.unusedSimpArgs false
set_option maxRecDepth 20000
variable {S:Type} {k:Nat}
theorem u0:U32 0:=⟨by decide,by decide⟩
def nl (i:Int):Cl:=⟨0,e_ 0 i⟩
def pl (i:Int):Cl:=⟨e_ 0 i,0⟩
theorem FR (i:Int):RC (nl i):=⟨⟨by show (0:Int)≤0;decide,by show (0:Int)<16777216;decide⟩,withS_lt⟩
theorem F1 (i:Int):RC (pl i):=⟨withS_lt,⟨by show (0:Int)≤0;decide,by show (0:Int)<16777216;decide⟩⟩
def jI (c:Cl):List Cl:=(amp c.pos).map nl++(amp c.neg).map pl
def oj (c:Cl):List Cl×Int:=bp (jI c)
theorem Fi (s:Int):(amp s).length≤24:=by grind [amp,amb,gu]
theorem NV {c d:Cl} (h:d∈jI c):RC d:=by
 rcases List.mem_append.1 h with h|h<;>grind [FR,F1]
theorem ahw (c:Cl):(jI c).length≤48:=by
 grind [Fi,jI]
theorem LH {l:List Cl} (h: ∀c∈l,RC c) (hl:l.length≤64):(bp l).2=0:=by
 have:=agM l
 unfold bp
 rw [if_pos (List.all_eq_true.2 fun c hc=>(Bp (h c hc).ok).2 (h c hc)),if_neg (by omega)]
theorem NW (c:Cl):(oj c).2=0:=LH (fun d hd=>NV hd) (by have:=ahw c;omega)
theorem AC (c:Cl):RF (oj c).1:=qX (fun d hd=>(NV hd).ok) (NW c)
theorem afe (hk:Fu k) (ret:List Cl×Int→Option S) {l:List Int} (hlen:l.length≤64):
  ∀ (r p:List Int) (m:Nat) (o:List Cl),l=p++r→r.length<m→aq o→o.length+r.length<1073741824→nB k ret l m (p.length:Int) o=ret (bp (o++r.map pl)):=by
 intro r
 induction r with
 |nil=>
  grind [km,nB,w8,ad,ag,kX]
 |cons x r ih=>
  intro p m o h hm hok ho
  obtain ⟨m,rfl,hm'⟩:=km hm
  obtain ⟨e1,e2,e3,e4⟩:=ln h (by omega)
  simp only [List.length_cons] at ho
  simp only [nB,w8,e1,ae,e2,Option.bind_some,ag hk,vV hk u0,e3]
  rw [sf (by grind),ih (p++[x]) m _ e4 hm' (ami hok fun c hc=>by simp at hc;subst hc;exact (F1 x).ok) (by grind)]
  simp [pl]
theorem afd (hk:Fu k) (ret:List Cl×Int→Option S) {c:Cl} (hc:aX c) {l:List Int} (hlen:l.length≤64):
  ∀ (r p:List Int) (m:Nat) (o:List Cl),l=p++r→r.length<m→aq o→o.length+r.length<1000000→qh k ret c l m (p.length:Int) o=ret (bp (o++r.map nl++(amp c.neg).map pl)):=by
 intro r
 induction r with
 |nil=>
  intro p m o h hm hok ho
  obtain ⟨m,rfl,hm'⟩:=km hm
  simp only [List.length_nil] at ho
  have hl:=Fi c.neg
  have hk':4294967296≤k:=hk
  simp only [qh,aoa,akb h,ad,vz,Ny hc.2,List.map_nil,List.append_nil]
  grind [afe]
 |cons x r ih=>
  intro p m o h hm hok ho
  obtain ⟨m,rfl,hm'⟩:=km hm
  obtain ⟨e1,e2,e3,e4⟩:=ln h (by omega)
  simp only [List.length_cons] at ho
  simp only [qh,aoa,e1,ae,e2,Option.bind_some,ag hk,vV hk u0,e3]
  rw [sf (by grind),ih (p++[x]) m _ e4 hm' (ami hok fun c hc=>by simp at hc;subst hc;exact (FR x).ok) (by grind)]
  simp [nl]
theorem ajs (hk:Fu k) {c:Cl} (hc:aX c) (ret:List Cl×Int→Option S):yV k c ret=ret (oj c):=by
 have hl:=Fi c.pos
 simp only [yV,HS,vz,Ny hc.1]
 have:=afd hk ret hc (l:=amp c.pos) (by omega) (amp c.pos) [] k [] rfl (by omega) (fun c hc=>by cases hc) (by grind)
 grind [oj,jI]
def amM (c:Cl) (i:Nat):List Cl:=(if bP c.pos i then [nl i] else [])++(if bP c.neg i then [pl i] else [])
def amN (c:Cl) (n:Nat):List Cl:=(List.range n).flatMap (amM c)
theorem akW (c:Cl) (i:Nat):(amM c i).length≤2:=by grind [amM]
theorem akX {c d:Cl} {i:Nat} (h:d∈amM c i):RC d:=by
 grind [amM,FR,F1]
theorem T5 (c:Cl) (n:Nat):amN c (n+1)=amN c n++amM c n:=by simp [amN,List.range_succ]
theorem T4 (c:Cl) (n:Nat):(amN c n).length≤2*n:=by
 induction n<;>grind [amN,T5,akW]
theorem akY {c d:Cl} {n:Nat} (h:d∈amN c n):RC d:=by
 obtain ⟨i,_,hi⟩:=List.mem_flatMap.1 h;exact akX hi
theorem aj_ (hk:Fu k) (i:Nat) (hi:i<24) (ret:Int→Option S):amI k [(i:Int)] ret=ret (e_ 0 i):=by
 have:=anG hk [i] (by simp) (by grind) ret
 grind [ints,B7,alK]
theorem af8 (hk:Fu k) (ret:List Cl→Option S) {c:Cl} (hc:aX c): ∀ (d i m:Nat),i+d=24→d<m→anm k ret c m (amN c i) (i:Int)=ret (bp (amN c 24)).1:=by
 intro d
 induction d with
 |zero=>
  intro i m e hm
  obtain ⟨m,rfl,hm'⟩:=km hm
  have:i=24:=by omega
  subst this
  have hlen:=T4 c 24
  simp only [anm,xA,aY,ag hk,ank hk (show aq (amN c 24) from fun d hd=>(akY hd).ok) (by omega)]
  rfl
 |succ d ih=>
  intro i m e hm
  obtain ⟨m,rfl,hm'⟩:=km hm
  have e2:(i:Int)+1=((i+1:Nat):Int):=by simp
  have hlen:=T4 c i
  simp only [anm,xA,ag hk,amG hk hc.1,amG hk hc.2,cH,decide_eq_true_eq,aj_ hk i (by omega)]
  rw [if_pos (by omega),alX (by omega) (by omega),e2]
  have hi:=ih (i+1) m (by omega) (by omega)
  rw [T5] at hi
  cases hp:bP c.pos (i:Int)<;>cases hn:bP c.neg (i:Int)<;>simp only [amM,hp,hn,if_true,Bool.false_eq_true,if_false,List.append_nil,List.nil_append,List.append_assoc,List.singleton_append] at hi ⊢
  ·exact hi
  ·rw [sf (by grind)];exact hi
  ·rw [sf (by grind)];exact hi
  ·rw [sf (by grind),sf (by grind)];exact hi
theorem aj1 (hk:Fu k) {c:Cl} (hc:aX c) (ret:List Cl→Option S):zl k c ret=ret (oj c).1:=by
 simp only [zl,Ig]
 have:=af8 hk ret hc 24 0 k (by omega) (by omega)
 refine Eq.trans this ?_
 congr 2
 refine age fun d=> ?_
 unfold amN jI
 rw [List.mem_flatMap,List.mem_append,List.mem_map,List.mem_map]
 have hs: ∀ (s:Int) (x:Int),x∈amp s↔ ∃i:Nat,i<24∧s.toNat.testBit i=true∧x=i:=by
  grind [amp,ints,mem_bitsN]
 have hh: ∀ (s:Int) (i:Nat),i<24→bP s (i:Int)=s.toNat.testBit i:=by
  grind [bP]
 constructor
 ·grind [amM]
 ·rintro (⟨x,hx,rfl⟩|⟨x,hx,rfl⟩)
  ·obtain ⟨i,h1,h2,rfl⟩:=(hs _ _).1 hx
   refine ⟨i,by grind, ?_⟩
   grind [amM]
  ·obtain ⟨i,h1,h2,rfl⟩:=(hs _ _).1 hx
   refine ⟨i,by grind, ?_⟩
   grind [amM]
def adU (step:List Cl→Cl→List Cl×Int):List Cl→List Cl→List Cl×Int
 |h,[]=>(h,0)
 |h,c::r=>if (step h c).2=0 then adU step (step h c).1 r else ([],(step h c).2)
def mn (h:List Cl) (c:Cl):List Cl×Int:=alV h (oj c).1
def alU (f:List Cl):List Cl×Int:=adU mn [⟨0,0⟩] f
theorem agH {f g:List Cl} (h:(alV f g).2≠0):(alV f g).1=[]:=agf h
theorem KG {step:List Cl→Cl→List Cl×Int} (hs: ∀h c,RF h→(step h c).2=0→RF (step h c).1): ∀ {r h:List Cl},RF h→(adU step h r).2=0→RF (adU step h r).1:=by
 intro r
 induction r<;>grind [adU]
theorem FS (h:List Cl) (c:Cl) (hh:RF h) (h0:(mn h c).2=0):RF (mn h c).1:=kS hh.2 (AC c).2 h0
theorem ju {f:List Cl} (h:(alU f).2=0):RF (alU f).1:=KG FS (gS oA) h
theorem bG (n:Int):(n==0)=decide (n=0):=by rfl
theorem ajr (hk:Fu k) {h:List Cl} {c:Cl} (hh:RF h) (hc:aX c) (ret:List Cl×Int→Option S):yU k h c ret=ret (mn h c):=by
 have:=hh.len;have:=(AC c).len
 simp only [yU,SO,ag hk,ajs hk hc,NW,vY hk hh.2 (AC c).2 (show h.length<32768 by omega) (show (oj c).1.length<32768 by omega)]
 rfl
theorem aeS (hk:Fu k) (ret:List Cl×Int→Option S) {l:List Cl} (hl:aq l) (hlen:l.length<2147483648):
  ∀ (r p:List Cl) (m:Nat) (h:List Cl),l=p++r→r.length<m→RF h→qe k ret l m h (p.length:Int)=ret (adU mn h r):=by
 intro r
 induction r with
 |nil=>
  intro p m h e hm hh
  obtain ⟨m,rfl,hm'⟩:=km hm
  simp only [qe,w5,akb e,ad];rfl
 |cons x r ih=>
  intro p m h e hm hh
  obtain ⟨m,rfl,hm'⟩:=km hm
  obtain ⟨e1,e2,e3,e4⟩:=ln e (by omega)
  have hx:aX x:=hl x (by grind)
  simp only [qe,w5,e1,ae,e2,Option.bind_some,ag hk,ajr hk hh hx,bG,e3]
  grind [ad,FS,adU,ae]
theorem Rq (hk:Fu k) {f:List Cl} (hf:aq f) (hlen:f.length<2147483648) (ret:List Cl×Int→Option S):ph k f ret=ret (alU f):=by
 simp only [ph,SN,ag hk,pg,HM,DP,HP]
 exact aeS hk ret hf hlen f [] k _ rfl (by omega) (gS oA)
theorem aja (hk:Fu k) {f:List Cl} (hf:aq f) (hlen:f.length<2147483648) (ret:List Cl×Int→Option S):yQ k f ret=ret (if bF f then alU f else ([],2)):=by
 simp only [yQ,SI,ag hk,Hc hk (l:=[f]) (by grind) (by simp),Rq hk hf hlen]
 have:[f].all bF=bF f:=by simp
 rw [this]
 by_cases h:bF f=true
 ·rw [if_pos h,if_pos h];rfl
 ·rw [if_neg h,if_neg h];rfl
theorem afR (hk:Fu k) (ret:List Cl×Int→Option S) {l:List Cl} (hl:aq l) (hlen:l.length<2147483648):
  ∀ (r p:List Cl) (m:Nat) (h:List Cl) (e:Int),l=p++r→r.length<m→(e=0→RF h)→(e≠0→h=[])→qx k ret l m h e (p.length:Int)=ret (if e=0 then adU mn h r else ([],e)):=by
 intro r
 induction r with
 |nil=>
  intro p m h e el hm h1 h2
  obtain ⟨m,rfl,hm'⟩:=km hm
  simp only [qx,xz,akb el,ad]
  by_cases h0:e=0
  ·rw [if_pos h0,h0];rfl
  grind
 |cons x r ih=>
  intro p m h e el hm h1 h2
  obtain ⟨m,rfl,hm'⟩:=km hm
  obtain ⟨e1,e2,e3,e4⟩:=ln el (by omega)
  have hx:aX x:=hl x (by grind)
  simp only [qx,xz,e1,ae,bG,e3,e2,Option.bind_some,ag hk,aj1 hk hx]
  by_cases h0:e=0
  ·have hh:=h1 h0
   rw [decide_eq_true h0,ae,BC hk hh (AC x),if_pos h0]
   have:=ih (p++[x]) m (mn h x).1 (mn h x).2 e4 hm' (fun h0=>FS h x hh h0) (fun h0=>agH h0)
   exact this
  grind [ad]
theorem RN (hk:Fu k) {f:List Cl} (hf:aq f) (hlen:f.length<2147483648) (ret:List Cl×Int→Option S):pu k f ret=ret (if bF f then alU f else ([],2)):=by
 simp only [pu,Ie,ag hk,amy hk hf hlen]
 by_cases h:bF f=true
 ·rw [h,Bool.not_true,ad,if_pos rfl]
  have:=afR hk ret hf hlen f [] k [⟨0,0⟩] 0 rfl (by omega) (fun _=>gS oA) (fun h=>absurd rfl h)
  rw [if_pos rfl] at this
  exact this
 grind [ae]
end Go.Proofs.YtfkkpkhfjpaafaaGreatDoor
namespace Go.Proofs.YtfkkpkhfjpaafaaGreatDoor
open Go PI
set_option linter.unusedVariables false
set_option linter.unusedSimpArgs false
set_option maxRecDepth 20000
variable {S:Type} {k:Nat}
def gap (i:Int) (c:Cl):Cl:=⟨alW c.pos i,alW c.neg i⟩
theorem kg (i:Int) (c:Cl):RC (gap i c):=⟨Jd,Jd⟩
def d_ (i:Int) (r:List Cl) (c:Cl):List Cl×Int:=if bP c.pos i then alV [gap i c] r else ([gap i c],0)
def amk (i:Int) (r:List Cl) (c:Cl) (g:List Cl):List Cl×Int:=if bP c.neg i then if (alU r).2=0 then alV g (alU r).1 else ([],(alU r).2) else (g,0)
def dY (i:Int) (r h:List Cl) (c:Cl):List Cl×Int:=
 if (d_ i r c).2=0 then if (amk i r c (d_ i r c).1).2=0 then alO h (amk i r c (d_ i r c).1).1 else ([],(amk i r c (d_ i r c).1).2) else ([],(d_ i r c).2)
def lL (i:Int):Bool:=decide (0≤i∧i<24)
def iH (f:List Cl) (i:Int) (r:List Cl):List Cl×Int:=if bF f&&bF r&&lL i then adU (dY i r) [] f else ([],2)
theorem ahI {i:Int} {r:List Cl} {c:Cl} (hr:RF r) (h:(d_ i r c).2=0):RF (d_ i r c).1:=by
 unfold d_ at h ⊢
 split
 ·next hh=>rw [if_pos hh] at h;exact kS (gS (kg i c)).2 hr.2 h
 simp_all [gS,kg]
theorem ahK {i:Int} {r g:List Cl} {c:Cl} (hg:RF g) (h:(amk i r c g).2=0):RF (amk i r c g).1:=by
 unfold amk at h ⊢
 split
 ·next hh=>
  rw [if_pos hh] at h
  split
  ·next hn=>rw [if_pos hn] at h;exact kS hg.2 (ju hn).2 h
  grind
 omega
theorem N5 {i:Int} {r:List Cl} (hr:RF r) (h:List Cl) (c:Cl) (hh:RF h) (h0:(dY i r h c).2=0):RF (dY i r h c).1:=by
 unfold dY at h0 ⊢
 split
 ·next ha=>
  rw [if_pos ha] at h0
  have hA:=ahI hr ha
  split
  ·next hb=>rw [if_pos hb] at h0;exact Lc hh.2 (ahK hA hb).2 h0
  grind
 grind
theorem aiU (hk:Fu k) {i:Int} {r h:List Cl} {c:Cl} (hr:RF r) (hh:RF h) (hc:aX c) (ret:List Cl×Int→Option S):yS k h c i r ret=ret (dY i r h c):=by
 have l1:=hr.len;have l2:=hh.len
 have hg:=gS (kg i c)
 simp only [yS,SK,ag hk,vW hk hc.1,vW hk hc.2,rF hk hc.1,rF hk hc.2,vY hk hg.2 hr.2 (show [gap i c].length<32768 by simp) (show r.length<32768 by omega),Rq hk hr.2 hr.lt,bG,cH,decide_eq_true_eq,Bool.not_eq_true',decide_eq_false_iff_not]
 have e: ∀ (f:List Cl×Int→Option S),jW k [Cl.mk (alW c.pos i) (alW c.neg i)] r f=f (alV [gap i c] r):=fun f=>vY hk hg.2 hr.2 (by simp) (by omega) f
 simp only [e]
 unfold dY d_ amk
 by_cases hp:bP c.pos i=true
 ·simp only [hp,if_true]
  by_cases h1:(alV [gap i c] r).2=0
  ·have hA:RF (alV [gap i c] r).1:=kS hg.2 hr.2 h1
   have l3:=hA.len
   simp only [h1,not_true,if_false,if_true]
   by_cases hn:bP c.neg i=true
   ·simp only [hn,if_true]
    by_cases h2:(alU r).2=0
    ·have hN:=ju h2
     have l4:=hN.len
     simp only [h2,not_true,if_false,if_true]
     rw [vY hk hA.2 hN.2 (by omega) (by omega)]
     by_cases h3:(alV (alV [gap i c] r).1 (alU r).1).2=0
     ·have hB:=kS hA.2 hN.2 h3
      have l5:=hB.len
      simp only [h3,not_true,if_false,if_true]
      rw [Bz hk hh.2 hB.2 (by omega) (by omega)]
     grind
    grind
   ·simp only [hn,Bool.false_eq_true,if_false,if_true]
    rw [Bz hk hh.2 hA.2 (by omega) (by omega)]
  grind
 ·simp only [hp,Bool.false_eq_true,if_false,if_true]
  by_cases hn:bP c.neg i=true
  ·simp only [hn,if_true]
   by_cases h2:(alU r).2=0
   ·have hN:=ju h2
    have l4:=hN.len
    simp only [h2,not_true,if_false,if_true]
    have e2: ∀ (f:List Cl×Int→Option S),jW k [Cl.mk (alW c.pos i) (alW c.neg i)] (alU r).1 f=f (alV [gap i c] (alU r).1):=fun f=>vY hk hg.2 hN.2 (by simp) (by omega) f
    rw [e2]
    by_cases h3:(alV [gap i c] (alU r).1).2=0
    ·have hB:=kS hg.2 hN.2 h3
     have l5:=hB.len
     simp only [h3,not_true,if_false,if_true]
     rw [Bz hk hh.2 hB.2 (by omega) (by omega)]
    grind
   grind
  ·simp only [hn,Bool.false_eq_true,if_false,if_true]
   have:=Bz hk hh.2 hg.2 (by omega) (by simp) ret
   exact this
theorem aeT (hk:Fu k) (ret:List Cl×Int→Option S) {i:Int} {q:List Cl} (hq:RF q) {l:List Cl} (hl:aq l) (hlen:l.length<2147483648):
  ∀ (r p:List Cl) (m:Nat) (h:List Cl),l=p++r→r.length<m→RF h→qc k ret i q l m h (p.length:Int)=ret (adU (dY i q) h r):=by
 intro r
 induction r with
 |nil=>
  intro p m h e hm hh
  obtain ⟨m,rfl,hm'⟩:=km hm
  simp only [qc,wZ,akb e,ad];rfl
 |cons x r ih=>
  intro p m h e hm hh
  obtain ⟨m,rfl,hm'⟩:=km hm
  obtain ⟨e1,e2,e3,e4⟩:=ln e (by omega)
  have hx:aX x:=hl x (by grind)
  simp only [qc,wZ,e1,ae,e2,Option.bind_some,ag hk,aiU hk hq hh hx,bG,e3]
  grind [ad,N5,adU,ae]
theorem aiL (hk:Fu k) (i:Int) (ret:List Cl×Int→Option S):yP k i ret=ret (if lL i then ([⟨e_ 0 i,0⟩],0) else ([],2)):=by
 simp only [yP,SF,ag hk,vV hk u0]
 grind [lL,B7,Dz,ad,Dy,ae]
theorem ajb (hk:Fu k) {f r:List Cl} {i:Int} (hf:aq f) (hr:aq r) (h1:f.length<2147483648) (h2:r.length<2147483648) (ret:List Cl×Int→Option S):yR k f i r ret=ret (iH f i r):=by
 simp only [yR,SJ,ag hk,Hc hk (l:=[f,r]) (by grind) (by simp),aiL hk]
 have e:[f,r].all bF=(bF f&&bF r):=by simp
 unfold iH
 by_cases ha:(bF f&&bF r)=true
 ·rw [e,if_pos ha,ha,Bool.true_and]
  rw [show ((0:Int)==0)=true from rfl,Bool.not_true,ad]
  cases hd:lL i with
  |true=>
   rw [if_pos rfl,if_pos rfl]
   rw [show ((0:Int)==0)=true from rfl,Bool.not_true,ad]
   simp only [tK,HN,DO,HO]
   have hr':=(fF hr).1 (by grind)
   exact aeT hk ret hr' hf h1 f [] k [] rfl (by omega) rA
  |false=>
   rfl
 simp_all [if_neg,ae]
theorem ahP (hk:Fu k) (ret:List Cl×Int→Option S) (rec0:List Cl→Int→Option S) (f:List Cl) (i:Int) (r:List Cl) {h:List Cl} {v:Int} {g:List Cl} {e:Int} (hh:RF h) (hg:e=0→RF g):
  qy k ret rec0 f i r h v k g e=if e=0 then if (alO h g).2=0 then rec0 (alO h g).1 (IntKind.wrap .i64 (v+1)) else ret ([],(alO h g).2) else ret ([],e):=by
 obtain ⟨q,hq⟩: ∃q,k=q+1:=⟨k-1,by omega⟩
 grind [qy,Dc,ae,ag,ajD,ad]
theorem afV (hk:Fu k) (ret:List Cl×Int→Option S) {i:Int} {q:List Cl} (hq:RF q) {l:List Cl} (hl:aq l) (hlen:l.length<2147483648):
  ∀ (r p:List Cl) (m:Nat) (h:List Cl),l=p++r→r.length<m→RF h→am6 k ret l i q m h (p.length:Int)=ret (adU (dY i q) h r):=by
 intro r
 induction r with
 |nil=>
  intro p m h e hm hh
  obtain ⟨m,rfl,hm'⟩:=km hm
  simp only [am6,sL,akb e,ad];rfl
 |cons x r ih=>
  intro p m h e hm hh
  obtain ⟨m,rfl,hm'⟩:=km hm
  obtain ⟨e1,e2,e3,e4⟩:=ln e (by omega)
  have hx:aX x:=hl x (by grind)
  have hg:=gS (kg i x)
  have key: ∀ (g:List Cl) (e:Int),(e=0→RF g)→(dY i q h x=if e=0 then alO h g else ([],e))→qy k ret (am6 k ret l i q m) l i q h (p.length:Int) k g e=ret (adU (dY i q) h (x::r)):=by
   intro g e hge hput
   rw [ahP hk _ _ _ _ _ hh hge,adU,hput]
   by_cases h0:e=0
   ·rw [if_pos h0,if_pos h0]
    by_cases h1:(alO h g).2=0
    ·rw [if_pos h1,if_pos h1,e3]
     exact ih (p++[x]) m _ e4 hm' (Lc hh.2 (hge h0).2 h1)
    grind
   grind
  have em: ∀ (f:List Cl×Int→Option S),amO k [Cl.mk (alW x.pos i) (alW x.neg i)] q f=f (alV [gap i x] q):=fun f=>BC hk hg hq f
  simp only [am6,sL,e1,ae,e2,Option.bind_some,ag hk,BF hk hx.1,BF hk hx.2,amG hk hx.1,amG hk hx.2,em,RN hk hq.2 hq.lt,hq.right,if_true,bG]
  cases hp:bP x.pos i with
  |true=>
   rw [ae]
   by_cases h1:(alV [gap i x] q).2=0
   ·have hA:RF (alV [gap i x] q).1:=kS hg.2 hq.2 h1
    rw [decide_eq_true h1,ae]
    cases hn:bP x.neg i with
    |true=>
     rw [ae]
     by_cases h2:(alU q).2=0
     ·rw [decide_eq_true h2,ae,BC hk hA (ju h2)]
      exact key _ _ (fun h0=>kS hA.2 (ju h2).2 h0) (by grind [dY,d_,amk])
     grind [ad,dY,d_,amk]
    |false=>
     grind [ad,dY,d_,amk]
   grind [ad,dY,d_]
  |false=>
   rw [ad]
   cases hn:bP x.neg i with
   |true=>
    rw [ae]
    by_cases h2:(alU q).2=0
    ·have em2: ∀ (f:List Cl×Int→Option S),amO k [Cl.mk (alW x.pos i) (alW x.neg i)] (alU q).1 f=f (alV [gap i x] (alU q).1):=fun f=>BC hk hg (ju h2) f
     rw [decide_eq_true h2,ae,em2]
     exact key _ _ (fun h0=>kS hg.2 (ju h2).2 h0) (by grind [dY,d_,amk])
    grind [ad,dY,d_,amk]
   |false=>
    grind [ad,gap,dY,d_,amk]
theorem ajS (hk:Fu k) {f r:List Cl} {i:Int} (hf:aq f) (hr:aq r) (h1:f.length<2147483648) (h2:r.length<2147483648) (ret:List Cl×Int→Option S):zk k f i r ret=ret (iH f i r):=by
 simp only [zk,If,ag hk,amy hk hf h1,amy hk hr h2,aY]
 unfold iH lL
 cases ha:bF f with
 |false=>rfl
 |true=>
  rw [Bool.not_true,ad]
  cases hb:bF r with
  |false=>rfl
  |true=>
   rw [Bool.not_true,ad]
   by_cases h3:i<0
   ·grind
   ·by_cases h4:i≥24
    ·grind
    ·rw [if_neg h3,if_neg h4,decide_eq_true (by omega)]
     exact afV hk ret ((fF hr).1 hb) hf h1 f [] k [] rfl (by omega) rA
theorem agr {m n b:Nat}:(amc m n b).1<16777216:=by
 have h1:m&&&M24<16777216:=Nat.lt_of_le_of_lt Nat.and_le_right (by decide)
 have h2:gO m n≤m&&&M24:=Nat.and_le_left
 unfold amc
 split
 ·omega
 ·split
  ·simp
  ·split
   ·simp
   ·exact Nat.or_lt_two_pow (n:=24) (by omega) (by omega)
theorem LK (s i b:Int):0≤(alS s i b).1∧(alS s i b).1<16777216:=by
 grind [alS,agr]
theorem LJ (c:Cl) (i b:Int):RC (dw c i b).1:=by
 unfold dw
 split
 ·split
  ·split
   ·exact ⟨LK _ _ _,LK _ _ _⟩
   ·exact oA
  ·exact oA
 ·exact oA
def dK (i b:Int) (h:List Cl) (c:Cl):List Cl×Int:=(h++[(dw c i b).1],(dw c i b).2)
def agS (f:List Cl) (i b:Int):List Cl×Int:=if bF f then if (adU (dK i b) [] f).2=0 then bp (adU (dK i b) [] f).1 else ([],(adU (dK i b) [] f).2) else ([],2)
theorem KH {i b:Int}: ∀ {r h:List Cl},aq h→aq (adU (dK i b) h r).1∧(adU (dK i b) h r).1.length≤h.length+r.length:=by
 intro r
 induction r with
 |nil=>intro h hh;exact ⟨hh,by show h.length≤_;omega⟩
 |cons c r ih=>
  intro h hh
  unfold adU
  split
  ·have:=ih (h:=(dK i b h c).1) (ami hh fun d hd=>by simp at hd;subst hd;exact (LJ c i b).ok)
   grind [dK]
  ·exact ⟨fun d hd=>(by cases hd),by simp⟩
theorem aeR (hk:Fu k) (ret:List Cl×Int→Option S) {i b:Int} (hi:aG i) (hb:aG b) {l:List Cl} (hl:aq l) (hlen:l.length<2147483648):
  ∀ (r p:List Cl) (m:Nat) (h:List Cl),l=p++r→r.length<m→h.length+r.length<4294967296→qf k ret i b l m h (p.length:Int)=ret (adU (dK i b) h r):=by
 intro r
 induction r with
 |nil=>
  intro p m h e hm hh
  obtain ⟨m,rfl,hm'⟩:=km hm
  simp only [qf,w6,akb e,ad];rfl
 |cons x r ih=>
  intro p m h e hm hh
  obtain ⟨m,rfl,hm'⟩:=km hm
  obtain ⟨e1,e2,e3,e4⟩:=ln e (by omega)
  have hx:aX x:=hl x (by grind)
  simp only [List.length_cons] at hh
  simp only [qf,w6,e1,ae,e2,Option.bind_some,ag hk,DN,SH,ai4 hk hx hi hb,bG,e3]
  grind [sf,ad,adU,dK,ae]
theorem vX (hk:Fu k) {f:List Cl} {i b:Int} (hf:aq f) (hlen:f.length<1073741824) (hi:aG i) (hb:aG b) (ret:List Cl×Int→Option S):jV k f i b ret=ret (agS f i b):=by
 have hlo:=KH (i:=i) (b:=b) (r:=f) (h:=[]) (fun d hd=>by cases hd)
 simp only [List.length_nil] at hlo
 have hfold: ∀ (g:List Cl×Int→Option S),yT k f [] i b g=g (adU (dK i b) [] f):=fun g=>by
  simp only [yT,HQ]
  exact aeR hk g hi hb hf (by omega) f [] k [] rfl (by omega) (by grind)
 simp only [jV,SG,ag hk,Hc hk (l:=[f]) (by grind) (by simp),tK,HN,hfold,kX hk hlo.1 (show _<2147483648 by omega)]
 grind [agS,ad,decide_eq_false,ae]
theorem afK (hk:Fu k) (ret:List Cl×Int→Option S) {i b:Int} (hi:aG i) (hb:aG b) {l:List Cl} (hl:aq l) (hlen:l.length<1073741824):
  ∀ (r p:List Cl) (m:Nat) (h:List Cl),l=p++r→r.length<m→aq h→h.length+r.length<2147483648→qw k ret l i b m h (p.length:Int)=ret (if (adU (dK i b) h r).2=0 then bp (adU (dK i b) h r).1 else ([],(adU (dK i b) h r).2)):=by
 intro r
 induction r with
 |nil=>
  grind [km,qw,xx,ad,ag,ank,adU]
 |cons x r ih=>
  intro p m h e hm hok hh
  obtain ⟨m,rfl,hm'⟩:=km hm
  obtain ⟨e1,e2,e3,e4⟩:=ln e (by omega)
  have hx:aX x:=hl x (by grind)
  simp only [List.length_cons] at hh
  simp only [qw,xx,e1,ae,e2,Option.bind_some,ag hk,ajC hk hx hi hb,bG,e3]
  by_cases h0:(dw x i b).2=0
  ·rw [decide_eq_true h0,Bool.not_true,ad,sf (by grind),ih (p++[x]) m _ e4 hm' (ami hok fun d hd=>by simp at hd;subst hd;exact (LJ x i b).ok) (by grind),adU,if_pos (show (dK i b h x).2=0 from h0)];rfl
  grind [ae,adU,dK]
theorem BB (hk:Fu k) {f:List Cl} {i b:Int} (hf:aq f) (hlen:f.length<1073741824) (hi:aG i) (hb:aG b) (ret:List Cl×Int→Option S):amY k f i b ret=ret (agS f i b):=by
 simp only [amY,Ic,ag hk,amy hk hf (show f.length<2147483648 by omega)]
 unfold agS
 cases hr:bF f with
 |true=>
  rw [Bool.not_true,ad,if_pos rfl]
  exact afK hk ret hi hb hf hlen f [] k [] rfl (by omega) (fun d hd=>by cases hd) (by grind)
 |false=>
  rfl
theorem kQ {f:List Cl} {i b:Int} (h:(agS f i b).2=0):RF (agS f i b).1:=by
 unfold agS at h ⊢
 split
 ·next hr=>
  rw [if_pos hr] at h
  split
  ·next h0=>
   rw [if_pos h0] at h
   exact qX (KH fun d hd=>by cases hd).1 h
  grind
 grind
end Go.Proofs.YtfkkpkhfjpaafaaGreatDoor
namespace Go.Proofs.YtfkkpkhfjpaafaaGreatDoor
open Go PI
set_option linter.unusedVariables false
set_option linter.unusedSimpArgs false
set_option maxRecDepth 20000
variable {S:Type} {k:Nat}
def AD (s:Nat) (f:List Cl):Nat:=f.foldl (fun s c=>s|||(c.pos.toNat|||c.neg.toNat)) s
def fS (f:List Cl):Nat:=AD 0 f&&&M24
def ie (f:List Cl):Int:=((fS f:Nat):Int)
def jJ (f:List Cl) (i:Nat):Bool:=f.any fun c=>c.pos.toNat.testBit i||c.neg.toNat.testBit i
theorem ahx (i:Nat): ∀ {f:List Cl} {s:Nat},(AD s f).testBit i=(s.testBit i||jJ f i):=by
 intro f
 induction f<;>simp_all [AD,jJ,Bool.or_assoc]
theorem D7 (f:List Cl) (i:Nat):(fS f).testBit i=(jJ f i&&decide (i<24)):=by
 grind [fS,g8,ahx]
theorem D6 (f:List Cl):fS f<16777216:=Nat.lt_of_le_of_lt Nat.and_le_right (by decide)
theorem aeB (hk:Fu k) (ret:Int→Option S) {l:List Cl} (hl:aq l) (hlen:l.length<4294967296):
  ∀ (r p:List Cl) (m:Nat) (s:Nat),l=p++r→r.length<m→s<4294967296→qb k ret l m (s:Int) (p.length:Int)=ret (((AD s r&&&M24:Nat):Int)):=by
 intro r
 induction r with
 |nil=>
  intro p m s e hm hs
  obtain ⟨m,rfl,hm'⟩:=km hm
  simp only [qb,wY,akb e,ad,ag hk,vW hk (U32.of hs)]
  rfl
 |cons x r ih=>
  intro p m s e hm hs
  obtain ⟨m,rfl,hm'⟩:=km hm
  obtain ⟨e1,e2,e3,e4⟩:=ln e (by omega)
  have hx:aX x:=hl x (by grind)
  have ho:U32 (ep x.pos x.neg):=FX hx.1 hx.2
  have hq:s|||(x.pos.toNat|||x.neg.toNat)<4294967296:=by
   have h1:=hx.1.1;have h2:=hx.1.2;have h3:=hx.2.1;have h4:=hx.2.2
   have h32:(2:Nat)^32=4294967296:=by decide
   exact Nat.or_lt_two_pow (n:=32) hs (Nat.or_lt_two_pow (n:=32) (by omega) (by omega))
  have es:ep (s:Int) (ep x.pos x.neg)=((s|||(x.pos.toNat|||x.neg.toNat):Nat):Int):=by rfl
  simp only [qb,wY,e1,ae,e2,Option.bind_some,rh hx.1 hx.2,rh (U32.of hs) ho,e3,es]
  exact ih (p++[x]) m _ e4 hm' hq
theorem Ha (hk:Fu k) {f:List Cl} (hf:aq f) (hlen:f.length<4294967296) (ret:Int→Option S):jc k f ret=ret (ie f):=by
 simp only [jc,HL]
 exact aeB hk ret hf hlen f [] k 0 rfl (by omega) (by decide)
theorem adc (s:Int) (i:Nat) (hi:i<24):bP s (i:Int)=s.toNat.testBit i:=by
 grind [bP]
theorem afE (hk:Fu k) (ret:Int→Option S) (rec0:List Int→Int→Option S) {l:List Cl} (hl:aq l) (hlen:l.length<4294967296) (o:List Int) (ho:o.length≤64) (i:Nat) (hi:i<24):
  ∀ (r p:List Cl) (m:Nat) (b:Bool),l=p++r→r.length<m→nM k ret rec0 l o (i:Int) m b (p.length:Int)=rec0 (if b||jJ r i then o++[(i:Int)] else o) ((i+1:Nat):Int):=by
 intro r
 induction r with
 |nil=>
  grind [km,nM,xw,ad,jJ,alX,ae,sf]
 |cons x r ih=>
  intro p m b e hm
  obtain ⟨m,rfl,hm'⟩:=km hm
  obtain ⟨e1,e2,e3,e4⟩:=ln e (by omega)
  have hx:aX x:=hl x (by grind)
  have eu:jJ (x::r) i=((x.pos.toNat.testBit i||x.neg.toNat.testBit i)||jJ r i):=by rfl
  simp only [nM,xw,e1,ae,e2,Option.bind_some,ag hk,amG hk hx.1,amG hk hx.2,adc _ _ hi,e3,eu]
  cases b<;>grind [ae,ad]
def nj (f:List Cl) (n:Nat):List Nat:=(List.range n).filter (jJ f)
theorem afD (hk:Fu k) (ret:Int→Option S) {f:List Cl} (hf:aq f) (hlen:f.length<1073741824): ∀ (d i m:Nat),i+d=24→d<m→am4 k ret f m (ints (nj f i)) (i:Int)=ret ((alK (nj f 24):Nat):Int):=by
 have hl: ∀n,n≤24→(nj f n).length≤24:=fun n hn=>by
  grind [nj]
 intro d
 induction d with
 |zero=>
  intro i m e hm
  obtain ⟨m,rfl,hm'⟩:=km hm
  have:i=24:=by omega
  subst this
  simp only [am4,sJ,aY,ag hk]
  rw [if_neg (by omega),anG hk _ (by grind) fun x hx=>by
   have:=(List.mem_filter.1 hx).1;grind]
 |succ d ih=>
  intro i m e hm
  obtain ⟨m,rfl,hm'⟩:=km hm
  have hk':4294967296≤k:=hk
  have hli:=hl i (by omega)
  simp only [am4,sJ,aY]
  rw [if_pos (by omega)]
  have:=afE hk ret (am4 k ret f m) hf (by omega) (ints (nj f i)) (by rw [amb];omega) i (by omega) f [] k false rfl (by omega)
  simp only [List.length_nil] at this
  rw [show (0:Int)=((0:Nat):Int) from rfl,this,Bool.false_or,←ih (i+1) m (by omega) (by omega)]
  grind [nj,List.range_succ,ints]
theorem RI (hk:Fu k) {f:List Cl} (hf:aq f) (hlen:f.length<1073741824) (ret:Int→Option S):tV k f ret=ret (ie f):=by
 simp only [tV,Ib]
 have:=afD hk ret hf hlen 24 0 k (by omega) (by omega)
 refine Eq.trans this ?_
 congr 2
 apply Nat.eq_of_testBit_eq
 grind [oG,nj,List.nodup_range,D7]
def dg (f:List Cl) (d:Int):Bool:=decide (∀i∈bW (fS f),(i:Int)<d)
theorem RZ (hk:Fu k) {f:List Cl} {d:Int} (hf:aq f) (hlen:f.length<4294967296) (hd:0≤d) (hd':d<9223372036854775808) (ret:Bool→Option S):lK k f d ret=ret (dg f d):=by
 simp only [lK,TY,aY,ag hk,Ha hk hf hlen]
 by_cases h:d≥24
 ·grind [dg,mem_bitsN]
 ·rw [if_neg h]
  obtain ⟨n,rfl⟩: ∃n:Nat,d=n:=⟨d.toNat,by omega⟩
  rw [iR n (by omega),yq (by omega),Int.toNat_natCast,Nat.min_eq_left (by omega)]
  congr 1
  rw [ie,Es,dg,Bool.eq_iff_iff]
  simp only [beq_iff_eq,decide_eq_true_eq]
  have hdiv:(fS f/2^n=0)↔fS f<2^n:=Nat.div_eq_zero_iff_lt (Nat.two_pow_pos n)
  constructor
  ·grind [mem_bitsN,Nat.lt_of_lt_of_le,Nat.pow_le_pow_right,Nat.testBit_lt_two_pow]
  ·intro h0
   have:fS f<2^n:=by
    apply Nat.lt_pow_two_of_testBit
    grind [mem_bitsN,oZ,D6]
   omega
theorem ZR (m:Nat):(bW m).Pairwise (· < ·):=List.Pairwise.filter _ List.pairwise_lt_range
theorem Rt (hk:Fu k) {f:List Cl} {d:Int} (hf:aq f) (hlen:f.length<1073741824) (ret:Bool→Option S):tY k f d ret=ret (dg f d):=by
 have hlt:=D6 f
 simp only [tY,Tu,ag hk,RI hk hf hlen,ie,anF hk (show fS f<4294967296 by omega),amb]
 have hs:=ZR (fS f)
 have hl:=gu (fS f)
 unfold dg
 generalize bW (fS f)=l at hs hl
 by_cases h0:l=[]
 ·simp_all [ae]
 ·have hpos:0<l.length:=List.length_pos_iff.2 h0
  have hb:((l.length:Int)==0)=false:=by grind
  have e1:(l.length:Int)-1=((l.length-1:Nat):Int):=by omega
  rw [hb,ad,alX (by omega) (by omega),e1,pU,EO,List.getElem?_eq_getElem (by omega)]
  simp only [Option.map_some,Option.bind_some]
  congr 1
  rw [Bool.eq_iff_iff,decide_eq_true_eq,decide_eq_true_eq]
  constructor
  ·intro h i hi
   obtain ⟨j,hj,rfl⟩:=List.getElem_of_mem hi
   have:l[j]≤l[l.length-1]:=by
    grind [List.pairwise_iff_getElem]
   grind
  grind
end Go.Proofs.YtfkkpkhfjpaafaaGreatDoor
