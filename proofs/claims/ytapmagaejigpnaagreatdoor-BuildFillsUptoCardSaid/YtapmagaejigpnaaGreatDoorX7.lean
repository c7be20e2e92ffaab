/- Part 7 of a proof: the sources, with their names and remarks, lie in wip/. -/
import Derived.Test.YtapmagaejigpnaaGreatDoorX6
namespace Go.Proofs.YtapmagaejigpnaaGreatDoor
open Go PI
set_option linter.unusedVariables false
set_option maxRecDepth 100000
noncomputable section
def Dq {S:Type} (k:Nat):Rw S:=ae u6 GL fun f depth c0 c1 κ=>aa k (pL k f depth c0 c1) (Qp c0 c1 κ)
def Ij {S:Type} (k:Nat):Fx S:=fp 38 [(38,rS k),(57,lG k),(103,nY k),(104,we k),(105,Dp k)] [] k Tryz.f102 3
theorem LJ {S:Type} (o:Obj) (ho:ad o) (k:Nat):Tl o 102 (Dq k:Rw S):=ah (Ij k) ⟨ur o ho k,na o ho k,qx o ho k,zA o ho k,LI o ho k,trivial⟩ Tryz.func102 (by kernel_rfl) fun f depth c0 c1 κ x h=>Eq.trans (by kernel_rfl) (ai h)
def Dr {S:Type} (k:Nat):Rw S:=ae u7 yn fun t depth c0 c1 κ=>aa k (pM k t depth c0 c1) (Qq c0 c1 κ)
def Ik {S:Type} (k:Nat):Fx S:=fp 27 [(102,j5 (nf u6 GL) (Dq k) (wm k))] [] k Tryz.f107 4
theorem LK {S:Type} (o:Obj) (ho:ad o) (k:Nat):Tl o 107 (Dr k:Rw S):=ah (Ik k) ⟨nP (LJ o ho k) (zH o ho k),trivial⟩ Tryz.func107 (by kernel_rfl) fun t depth c0 c1 κ x h=>Eq.trans (by kernel_rfl) (ai h)
def wn {S:Type} (k:Nat):Rw S:=ae Ax TM fun i c0 κ=>aa k (mN k i c0) (Qr c0 κ)
def Il {S:Type} (k:Nat):Fx S:=fp 14 [(110,lA k)] [] k Tryz.f109 1
theorem zI {S:Type} (o:Obj) (ho:ad o) (k:Nat):Tl o 109 (wn k:Rw S):=ah (Il k) ⟨m9 o ho k,trivial⟩ Tryz.func109 (by kernel_rfl) fun i c0 κ x h=>Eq.trans (by kernel_rfl) (ai h)
def wq {S:Type} (k:Nat):Rw S:=ae Ax eO fun p c0 κ=>aa k (mO k p c0) (Qs c0 κ)
def Im {S:Type} (k:Nat):Fx S:=fp 5 [] [] k Tryz.f111 1
theorem zJ {S:Type} (o:Obj) (ho:ad o) (k:Nat):Tl o 111 (wq k:Rw S):=ah (Im k) trivial Tryz.func111 (by kernel_rfl) fun p c0 κ x h=>Eq.trans (by kernel_rfl) (ai h)
def lH {S:Type} (hd:b9 S):Rw S:=ae u7 yn fun t depth c0 c1 κ=>hd t depth c0 c1 (rH c0 c1 κ)
def Ds {S:Type} (hd:b9 S) (k:Nat):Rw S:=ae Ay GM fun l depth c0 c1 c4 κ=>aa k (tV hd k l depth c0 c1 c4) (rI c0 c1 c4 κ)
def tp {S:Type} (hd:b9 S) (k:Nat):Fx S:=fp 42 [(59,lH hd),(111,wq k)] [(3,⟨[(2,.none),(3,.none),(4,.none),(10,some (100010,true)),(15,.none),(16,.none),(17,.none)],[(4,[.none,.none]),(1000000,[.none]),(1000001,[.none]),(1000002,[.none]),(1000003,[.none]),(1000004,[.none])]⟩,aH 5 11)] k Tryz.f108 5
def Bz (c0:Int) (c1:List Cl) (c4:Int) (l:List Tm) (depth:Int) (out10:List Tm) (v17:Int):St UU:=⟨[(2,(iI depth)),(3,(.func 111 [] [(pt 1000004)])),(4,(pt 4)),(10,(.own 100010 0)),(15,(sT l)),(16,(.int .i64 (l.length:Int))),(17,(iI v17))],[(4,.cells [(.func 102 [] [(pt 1000000),(pt 1000001),(pt 1000002)]),(.func 102 [] [(pt 1000000),(pt 1000001),(pt 1000003)])]),(1000000,bI c0),(1000001,.cells [(sC c1)]),(1000002,.cells [(.func 105 [] [])]),(1000003,.cells [(.func 106 [] [])]),(1000004,bI c4)],[(100010,⟨0,ET.T,out10⟩)],[(100010,.wr)]⟩
section
variable {S:Type} (hd:b9 S) (k:Nat) (l:List Tm) (depth c0:Int) (c1:List Cl) (c4:Int) (κ:Out UU→Option S)
theorem Jr: ∀n out10 v17,(tp hd k).lp κ 3 [] n (Bz c0 c1 c4 l depth out10 v17)=iH hd k (rI c0 c1 c4 κ) c0 c1 c4 l depth n out10 v17:=bO (oP hd k (rI c0 c1 c4 κ) c0 c1 c4 l depth) rfl (fun _=>rfl) fun r out10 v17=>by kernel_rfl
end
theorem LM {S:Type} (o:Obj) (ho:ad o) (hd:b9 S) (Hd:Tl o 59 (lH hd)) (k:Nat):Tl o 108 (Ds hd k:Rw S):=ah (tp hd k) ⟨Hd,zJ o ho k,trivial⟩ Tryz.func108 (by kernel_rfl) fun l depth c0 c1 c4 κ x h=>Eq.trans (b:=xk hd k (rI c0 c1 c4 κ) (fun out10 v17=>(tp hd k).lp κ 3 [] k (Bz c0 c1 c4 l depth out10 v17)) l depth c0 c1 c4) (by kernel_rfl) (Eq.trans (by simp only [Jr];rfl) (ai h))
def Dt {S:Type} (hd:b9 S) (k:Nat):Rw S:=ae Nd TN fun l depth c0 c1 c4 κ=>aa k (tW hd k l depth c0 c1 c4) (rJ c0 c1 c4 κ)
def tq {S:Type} (hd:b9 S) (k:Nat):Fx S:=fp 42 [(59,lH hd),(109,wn k)] [(3,⟨[(2,.none),(3,.none),(4,.none),(10,some (100010,true)),(15,.none),(16,.none),(17,.none)],[(4,[.none,.none]),(1000000,[.none]),(1000001,[.none]),(1000002,[.none]),(1000003,[.none]),(1000004,[.none,.none,.none,.none,.none,.none])]⟩,aH 5 11)] k Tryz.f108 5
def BA (c0:Int) (c1:List Cl) (c4:Tm) (l:List Tm) (depth:Int) (out10:List Tm) (v17:Int):St UU:=⟨[(2,(iI depth)),(3,(.func 109 [] [(pt 1000004)])),(4,(pt 4)),(10,(.own 100010 0)),(15,(sT l)),(16,(.int .i64 (l.length:Int))),(17,(iI v17))],[(4,.cells [(.func 102 [] [(pt 1000000),(pt 1000001),(pt 1000002)]),(.func 102 [] [(pt 1000000),(pt 1000001),(pt 1000003)])]),(1000000,bI c0),(1000001,.cells [(sC c1)]),(1000002,.cells [(.func 105 [] [])]),(1000003,.cells [(.func 106 [] [])]),(1000004,bT c4)],[(100010,⟨0,ET.T,out10⟩)],[(100010,.wr)]⟩
section
variable {S:Type} (hd:b9 S) (k:Nat) (l:List Tm) (depth c0:Int) (c1:List Cl) (c4:Tm) (κ:Out UU→Option S)
theorem Js: ∀n out10 v17,(tq hd k).lp κ 3 [] n (BA c0 c1 c4 l depth out10 v17)=iJ hd k (rJ c0 c1 c4 κ) c0 c1 c4 l depth n out10 v17:=bO (oQ hd k (rJ c0 c1 c4 κ) c0 c1 c4 l depth) rfl (fun _=>rfl) fun r out10 v17=>by kernel_rfl
end
theorem LN {S:Type} (o:Obj) (ho:ad o) (hd:b9 S) (Hd:Tl o 59 (lH hd)) (k:Nat):Tl o 108 (Dt hd k:Rw S):=ah (tq hd k) ⟨Hd,zI o ho k,trivial⟩ Tryz.func108 (by kernel_rfl) fun l depth c0 c1 c4 κ x h=>Eq.trans (b:=xl hd k (rJ c0 c1 c4 κ) (fun out10 v17=>(tq hd k).lp κ 3 [] k (BA c0 c1 c4 l depth out10 v17)) l depth c0 c1 c4) (by kernel_rfl) (Eq.trans (by simp only [Js];rfl) (ai h))
def tn {S:Type} (hd:b9 S) (k:Nat):Fx S:=fp 98 [(102,wm k),(107,Dr k),(108,j5 (nf Ay GM) (Ds hd k) (Dt hd k))] [(13,⟨[(2,.none),(3,.none),(6,.none),(8,.none),(10,.none),(53,.none),(54,.none),(55,.none)],[(3,[.none,.none]),(6,[.none,.none,.none,some (200387,true),some (200388,true),some (200389,true)]),(8,[.none,.none,.none,.none,.none,some (200517,true)]),(10,[.none]),(1000000,[.none]),(1000001,[.none]),(1000002,[.none]),(1000003,[.none])]⟩,aH 11 767)] k Tryz.f59 4
def By (c0:Int) (c1:List Cl) (t:Tm) (r1:List Cl×Int) (r2:List Tm×Int) (depth:Int) (b10_0:Int) (b8_5:List (Br Tm)) (v55:Int):St UU:=⟨[(2,(iI depth)),(3,(pt 3)),(6,(pt 6)),(8,(pt 8)),(10,(pt 10)),(53,(sB t.sys)),(54,(.int .i64 (t.sys.length:Int))),(55,(iI v55))],[(3,.cells [(.func 102 [] [(pt 1000000),(pt 1000001),(pt 1000002)]),(.func 102 [] [(pt 1000000),(pt 1000001),(pt 1000003)])]),(6,.cells [(iI 0),(iI 0),(.str ByteArray.empty),(.own 200387 0),(.own 200388 0),(.own 200389 0)]),(8,.cells [(iI t.kind),(iI t.n),(.str t.name),(sC r1.1),(sT r2.1),(.own 200517 0)]),(10,bI b10_0),(1000000,bI c0),(1000001,.cells [(sC c1)]),(1000002,.cells [(.func 105 [] [])]),(1000003,.cells [(.func 106 [] [])])],[(200517,⟨0,ET.B,b8_5⟩),(200389,⟨0,ET.B,([]:List (Br Tm))⟩),(200388,⟨0,ET.T,([]:List Tm)⟩),(200387,⟨0,ET.C,([]:List Cl)⟩)],[(200517,.wr),(200389,.wr),(200388,.wr),(200387,.wr)]⟩
section
variable {S:Type} (hd:b9 S) (k:Nat) (t:Tm) (depth c0:Int) (c1:List Cl) (κ:Out UU→Option S)
theorem Jq (r1 r2): ∀n b10_0 b8_5 v55,(tn hd k).lp κ 13 [] n (By c0 c1 t r1 r2 depth b10_0 b8_5 v55)=ez hd k (rH c0 c1 κ) c0 c1 t r1 r2 depth n b10_0 b8_5 v55:=lm (oR hd k (rH c0 c1 κ) c0 c1 t r1 r2 depth) rfl (fun _=>rfl) fun r b10_0 b8_5 v55=>by kernel_rfl
end
theorem uN {S:Type} (o:Obj) (ho:ad o): ∀k:Nat,Tl o 59 (lH (c8 k:b9 S))
 |0=>g7 fun t depth c0 c1 κ x h=>by cases h
 |k+1=>ah (tn (c8 k) k) ⟨zH o ho k,LK o ho k,nP (LM o ho (c8 k) (uN o ho k) k) (LN o ho (c8 k) (uN o ho k) k),trivial⟩ Tryz.func59 (by kernel_rfl) fun t depth c0 c1 κ x h=>Eq.trans (b:=xp (c8 k) k (rH c0 c1 κ) (fun r1 r2 b10_0 b8_5 v55=>(tn (c8 k) k).lp κ 13 [] k (By c0 c1 t r1 r2 depth b10_0 b8_5 v55)) t depth c0 c1) (by kernel_rfl) (Eq.trans (by simp only [Jq];rfl) h)
def Du {S:Type} (k:Nat):Rw S:=ae gP xn fun i κ=>aa k (tO k i) (Qt κ)
def Io {S:Type} (k:Nat):Fx S:=fp 8 [] [] k Tryz.f60 0
theorem LO {S:Type} (o:Obj) (ho:ad o) (k:Nat):Tl o 60 (Du k:Rw S):=ah (Io k) trivial Tryz.func60 (by kernel_rfl) fun i κ x h=>Eq.trans (by kernel_rfl) (ai h)
def Dv {S:Type} (k:Nat):Rw S:=ae qS xn fun s i κ=>aa k (kB k s i) (iZ κ)
def Ip {S:Type} (k:Nat):Fx S:=fp 24 [(130,nU k),(163,wa k)] [] k Tryz.f113 0
theorem LP {S:Type} (o:Obj) (ho:ad o) (k:Nat):Tl o 113 (Dv k:Rw S):=ah (Ip k) ⟨qu o ho k,zx o ho k,trivial⟩ Tryz.func113 (by kernel_rfl) fun s i κ x h=>Eq.trans (by kernel_rfl) (ai h)
def vQ {S:Type} (k:Nat):Rw S:=ae Nf eO fun f depth c0 κ=>aa k (kw k f depth c0) (nT c0 κ)
def sP {S:Type} (k:Nat):Fx S:=fp 37 [(100,gh k),(113,Dv k)] [(3,⟨[(1,.none),(2,.none),(7,some (100007,true)),(10,.none),(11,.none),(12,.none)],[(1000000,[.none])]⟩,aH 5 11)] k Tryz.f112 1
def AS (c0 depth:Int) (f:List Cl) (v12:Int) (out7:List Cl):St UU:=⟨[(1,(iI depth)),(2,(pt 1000000)),(7,(.own 100007 0)),(10,(sC f)),(11,(.int .i64 (f.length:Int))),(12,(iI v12))],[(1000000,bI c0)],[(100007,⟨0,ET.C,out7⟩)],[(100007,.wr)]⟩
section
variable {S:Type} (k:Nat) (f:List Cl) (depth c0:Int) (κ:Out UU→Option S)
theorem Iz: ∀n v12 out7,(sP k).lp κ 3 [] n (AS c0 depth f v12 out7)=kP k (nT c0 κ) c0 depth f n v12 out7:=bO (oM k (nT c0 κ) c0 depth f) rfl (fun _=>rfl) fun r v12 out7=>by kernel_rfl
end
theorem zk {S:Type} (o:Obj) (ho:ad o) (k:Nat):Tl o 112 (vQ k:Rw S):=ah (sP k) ⟨gJ o ho k,LP o ho k,trivial⟩ Tryz.func112 (by kernel_rfl) fun f depth c0 κ x h=>Eq.trans (b:=xe k (nT c0 κ) (fun v12 out7=>(sP k).lp κ 3 [] k (AS c0 depth f v12 out7)) f depth c0) (by kernel_rfl) (Eq.trans (by simp only [Iz];rfl) (ai h))
def B_ {S:Type} (k:Nat):Rw S:=ae Az eO fun t depth c0 κ=>aa k (pN k t depth c0) (nT c0 κ)
def GW {S:Type} (k:Nat):Fx S:=fp 27 [(112,vQ k)] [] k Tryz.f107 1
theorem Kv {S:Type} (o:Obj) (ho:ad o) (k:Nat):Tl o 107 (B_ k:Rw S):=ah (GW k) ⟨zk o ho k,trivial⟩ Tryz.func107 (by kernel_rfl) fun t depth c0 κ x h=>Eq.trans (by kernel_rfl) (ai h)
def ly {S:Type} (hd:b_ S):Rw S:=ae Az eO fun t depth c0 κ=>hd t depth c0 (rK c0 κ)
def Ca {S:Type} (hd:b_ S) (k:Nat):Rw S:=ae AB sL fun l depth c0 c1 κ=>aa k (tT hd k l depth c0 c1) (rL c0 c1 κ)
def sR {S:Type} (hd:b_ S) (k:Nat):Fx S:=fp 42 [(59,ly hd),(111,wq k)] [(3,⟨[(2,.none),(3,.none),(4,.none),(10,some (100010,true)),(15,.none),(16,.none),(17,.none)],[(4,[.none,.none]),(1000000,[.none]),(1000001,[.none])]⟩,aH 5 11)] k Tryz.f108 2
def AU (c0 c1:Int) (l:List Tm) (depth:Int) (out10:List Tm) (v17:Int):St UU:=⟨[(2,(iI depth)),(3,(.func 111 [] [(pt 1000001)])),(4,(pt 4)),(10,(.own 100010 0)),(15,(sT l)),(16,(.int .i64 (l.length:Int))),(17,(iI v17))],[(4,.cells [(.func 112 [] [(pt 1000000)]),(.func 112 [] [(pt 1000000)])]),(1000000,bI c0),(1000001,bI c1)],[(100010,⟨0,ET.T,out10⟩)],[(100010,.wr)]⟩
section
variable {S:Type} (hd:b_ S) (k:Nat) (l:List Tm) (depth c0 c1:Int) (κ:Out UU→Option S)
theorem IB: ∀n out10 v17,(sR hd k).lp κ 3 [] n (AU c0 c1 l depth out10 v17)=iF hd k (rL c0 c1 κ) c0 c1 l depth n out10 v17:=bO (oN hd k (rL c0 c1 κ) c0 c1 l depth) rfl (fun _=>rfl) fun r out10 v17=>by kernel_rfl
end
theorem Kw {S:Type} (o:Obj) (ho:ad o) (hd:b_ S) (Hd:Tl o 59 (ly hd)) (k:Nat):Tl o 108 (Ca hd k:Rw S):=ah (sR hd k) ⟨Hd,zJ o ho k,trivial⟩ Tryz.func108 (by kernel_rfl) fun l depth c0 c1 κ x h=>Eq.trans (b:=xh hd k (rL c0 c1 κ) (fun out10 v17=>(sR hd k).lp κ 3 [] k (AU c0 c1 l depth out10 v17)) l depth c0 c1) (by kernel_rfl) (Eq.trans (by simp only [IB];rfl) (ai h))
def Cb {S:Type} (hd:b_ S) (k:Nat):Rw S:=ae Ng TO fun l depth c0 c1 κ=>aa k (tU hd k l depth c0 c1) (rM c0 c1 κ)
def sS {S:Type} (hd:b_ S) (k:Nat):Fx S:=fp 42 [(59,ly hd),(109,wn k)] [(3,⟨[(2,.none),(3,.none),(4,.none),(10,some (100010,true)),(15,.none),(16,.none),(17,.none)],[(4,[.none,.none]),(1000000,[.none]),(1000001,[.none,.none,.none,.none,.none,.none])]⟩,aH 5 11)] k Tryz.f108 2
def AV (c0:Int) (c1:Tm) (l:List Tm) (depth:Int) (out10:List Tm) (v17:Int):St UU:=⟨[(2,(iI depth)),(3,(.func 109 [] [(pt 1000001)])),(4,(pt 4)),(10,(.own 100010 0)),(15,(sT l)),(16,(.int .i64 (l.length:Int))),(17,(iI v17))],[(4,.cells [(.func 112 [] [(pt 1000000)]),(.func 112 [] [(pt 1000000)])]),(1000000,bI c0),(1000001,bT c1)],[(100010,⟨0,ET.T,out10⟩)],[(100010,.wr)]⟩
section
variable {S:Type} (hd:b_ S) (k:Nat) (l:List Tm) (depth c0:Int) (c1:Tm) (κ:Out UU→Option S)
theorem IC: ∀n out10 v17,(sS hd k).lp κ 3 [] n (AV c0 c1 l depth out10 v17)=iG hd k (rM c0 c1 κ) c0 c1 l depth n out10 v17:=bO (oO hd k (rM c0 c1 κ) c0 c1 l depth) rfl (fun _=>rfl) fun r out10 v17=>by kernel_rfl
end
theorem Kx {S:Type} (o:Obj) (ho:ad o) (hd:b_ S) (Hd:Tl o 59 (ly hd)) (k:Nat):Tl o 108 (Cb hd k:Rw S):=ah (sS hd k) ⟨Hd,zI o ho k,trivial⟩ Tryz.func108 (by kernel_rfl) fun l depth c0 c1 κ x h=>Eq.trans (b:=xj hd k (rM c0 c1 κ) (fun out10 v17=>(sS hd k).lp κ 3 [] k (AV c0 c1 l depth out10 v17)) l depth c0 c1) (by kernel_rfl) (Eq.trans (by simp only [IC];rfl) (ai h))
def sQ {S:Type} (hd:b_ S) (k:Nat):Fx S:=fp 98 [(107,B_ k),(108,j5 (nf AB sL) (Ca hd k) (Cb hd k)),(112,vQ k)] [(13,⟨[(2,.none),(3,.none),(6,.none),(8,.none),(10,.none),(53,.none),(54,.none),(55,.none)],[(3,[.none,.none]),(6,[.none,.none,.none,some (200387,true),some (200388,true),some (200389,true)]),(8,[.none,.none,.none,.none,.none,some (200517,true)]),(10,[.none]),(1000000,[.none])]⟩,aH 11 767)] k Tryz.f59 1
def AT (c0:Int) (t:Tm) (r1:List Cl×Int) (r2:List Tm×Int) (depth:Int) (b10_0:Int) (b8_5:List (Br Tm)) (v55:Int):St UU:=⟨[(2,(iI depth)),(3,(pt 3)),(6,(pt 6)),(8,(pt 8)),(10,(pt 10)),(53,(sB t.sys)),(54,(.int .i64 (t.sys.length:Int))),(55,(iI v55))],[(3,.cells [(.func 112 [] [(pt 1000000)]),(.func 112 [] [(pt 1000000)])]),(6,.cells [(iI 0),(iI 0),(.str ByteArray.empty),(.own 200387 0),(.own 200388 0),(.own 200389 0)]),(8,.cells [(iI t.kind),(iI t.n),(.str t.name),(sC r1.1),(sT r2.1),(.own 200517 0)]),(10,bI b10_0),(1000000,bI c0)],[(200517,⟨0,ET.B,b8_5⟩),(200389,⟨0,ET.B,([]:List (Br Tm))⟩),(200388,⟨0,ET.T,([]:List Tm)⟩),(200387,⟨0,ET.C,([]:List Cl)⟩)],[(200517,.wr),(200389,.wr),(200388,.wr),(200387,.wr)]⟩
section
variable {S:Type} (hd:b_ S) (k:Nat) (t:Tm) (depth c0:Int) (κ:Out UU→Option S)
theorem IA (r1 r2): ∀n b10_0 b8_5 v55,(sQ hd k).lp κ 13 [] n (AT c0 t r1 r2 depth b10_0 b8_5 v55)=eA hd k (rK c0 κ) c0 t r1 r2 depth n b10_0 b8_5 v55:=lm (oS hd k (rK c0 κ) c0 t r1 r2 depth) rfl (fun _=>rfl) fun r b10_0 b8_5 v55=>by kernel_rfl
end
theorem uK {S:Type} (o:Obj) (ho:ad o): ∀k:Nat,Tl o 59 (ly (cV k:b_ S))
 |0=>g7 fun t depth c0 κ x h=>by cases h
 |k+1=>ah (sQ (cV k) k) ⟨Kv o ho k,nP (Kw o ho (cV k) (uK o ho k) k) (Kx o ho (cV k) (uK o ho k) k),zk o ho k,trivial⟩ Tryz.func59 (by kernel_rfl) fun t depth c0 κ x h=>Eq.trans (b:=xq (cV k) k (rK c0 κ) (fun r1 r2 b10_0 b8_5 v55=>(sQ (cV k) k).lp κ 13 [] k (AT c0 t r1 r2 depth b10_0 b8_5 v55)) t depth c0) (by kernel_rfl) (Eq.trans (by simp only [IA];rfl) h)
def vR {S:Type} (k:Nat):Rw S:=ae Au xn fun t i a_r κ=>aa k (jz k t i a_r) (gY κ)
def GX {S:Type} (k:Nat):Fx S:=fp 48 [(56,C3 k),(57,lG k),(58,C6 k),(59,j5 (nf u7 yn) (lH (c8 k)) (ly (cV k))),(60,Du k)] [] k Tryz.f19 0
theorem zl {S:Type} (o:Obj) (ho:ad o) (k:Nat):Tl o 19 (vR k:Rw S):=ah (GX k) ⟨Lm o ho k,na o ho k,Lp o ho k,nP (uN o ho k) (uK o ho k),LO o ho k,trivial⟩ Tryz.func19 (by kernel_rfl) fun t i a_r κ x h=>Eq.trans (by kernel_rfl) (ai h)
def vS {S:Type} (k:Nat):Rw S:=ae Nh eO fun line a_r c0 κ=>aa k (h9 k line a_r c0) (B5 κ)
def GY {S:Type} (k:Nat):Fx S:=fp 44 [(19,vR k),(52,j8 k),(85,i8 k),(93,C0 k)] [] k Tryz.f54 1
theorem zm {S:Type} (o:Obj) (ho:ad o) (k:Nat):Tl o 54 (vS k:Rw S):=ah (GY k) ⟨zl o ho k,kJ o ho k,jF o ho k,Lj o ho k,trivial⟩ Tryz.func54 (by kernel_rfl) fun line a_r c0 κ x h=>Eq.trans (by kernel_rfl) (ai h)
def Cc {S:Type} (k:Nat):Rw S:=ae As GO fun c0 c1 c2 κ=>aa k (p8 k c0 c1 c2) (Qu c0 c1 c2 κ)
def GZ {S:Type} (k:Nat):Fx S:=fp 11 [(141,rV (cL k))] [] k Tryz.f140 3
theorem Ky {S:Type} (o:Obj) (ho:ad o) (k:Nat):Tl o 140 (Cc k:Rw S):=ah (GZ k) ⟨uM o ho k,trivial⟩ Tryz.func140 (by kernel_rfl) fun c0 c1 c2 κ x h=>Eq.trans (by kernel_rfl) (ai h)
def Ce {S:Type} (k:Nat):Rw S:=ae Ni GO fun t numbers c0 c1 c2 κ=>aa k (uc k t numbers c0 c1 c2) (rN c0 c1 c2 κ)
def sU {S:Type} (k:Nat):Fx S:=⟨⟨30,(fun _=>[]),(fun _=>false),.none,fun|6=>true|7=>true|_=>false⟩,[(91,lE k),(140,Cc k)],[(5,⟨[(2,.none),(6,.none),(7,.none),(17,.none),(18,.none),(19,.none)],[(1000000,[.none]),(1000001,[.none]),(1000002,[.none,.none,.none,.none,.none,.none]),(5000006,[.none,.none,.none,some (320200387,true),some (320200388,true),some (320200389,true)]),(5000007,[.none])]⟩,aH 5 11)],k,Tryz.f139,false,[],3,some (px 16 189 Tryz.f189 k)⟩
def AW (c0 c1:Int) (c2:Tm) (numbers:List Int) (v19:Int):St UU:=⟨[(2,(.func 140 [] [(pt 1000000),(pt 1000001),(pt 1000002)])),(6,(pt 5000006)),(7,(pt 5000007)),(17,(kf numbers .none)),(18,(.int .i64 (numbers.length:Int))),(19,(iI v19))],[(1000000,bI c0),(1000001,bI c1),(1000002,bT c2),(5000006,.cells [(iI 0),(iI 0),(.str ByteArray.empty),(.own 320200387 0),(.own 320200388 0),(.own 320200389 0)]),(5000007,bI 0)],[(320200389,⟨0,ET.B,([]:List (Br Tm))⟩),(320200388,⟨0,ET.T,([]:List Tm)⟩),(320200387,⟨0,ET.C,([]:List Cl)⟩)],[(320200389,.wr),(320200388,.wr),(320200387,.wr)]⟩
section
variable {S:Type} (k:Nat) (t:Tm) (numbers:List Int) (c0 c1:Int) (c2:Tm) (κ:Out UU→Option S)
theorem ID: ∀n v19,(sU k).lp κ 5 [] n (AW c0 c1 c2 numbers v19)=jR k (rN c0 c1 c2 κ) c0 c1 c2 numbers n v19:=cA (pe k (rN c0 c1 c2 κ) c0 c1 c2 numbers) rfl (fun _=>rfl) fun r v19=>by kernel_rfl
end
theorem Kz {S:Type} (o:Obj) (ho:ad o) (k:Nat):Tl o 139 (Ce k:Rw S):=F9 (sU k) rfl (yN o Tryz.func189 (by kernel_rfl)) ⟨m_ o ho k,Ky o ho k,trivial⟩ Tryz.func139 (by kernel_rfl) fun t numbers c0 c1 c2 κ x h=>Eq.trans (b:=xJ k (rN c0 c1 c2 κ) (fun v19=>(sU k).lp κ 5 [] k (AW c0 c1 c2 numbers v19)) t numbers c0 c1 c2) (by kernel_rfl) (Eq.trans (by simp only [ID];rfl) (ai h))
def Cf {S:Type} (k:Nat):Rw S:=ae qT xn fun t vars dims κ=>aa k (p7 k t vars dims) (gY κ)
def G2 {S:Type} (k:Nat):Fx S:=fp 18 [(139,Ce k)] [] k Tryz.f92 0
theorem KA {S:Type} (o:Obj) (ho:ad o) (k:Nat):Tl o 92 (Cf k:Rw S):=ah (G2 k) ⟨Kz o ho k,trivial⟩ Tryz.func92 (by kernel_rfl) fun t vars dims κ x h=>Eq.trans (by kernel_rfl) (ai h)
def vT {S:Type} (k:Nat):Rw S:=ae Nj eO fun t vars dims c0 κ=>aa k (ej k t vars dims c0) (B5 κ)
def G4 {S:Type} (k:Nat):Fx S:=fp 30 [(52,j8 k),(85,i8 k),(92,Cf k)] [] k Tryz.f51 1
theorem zn {S:Type} (o:Obj) (ho:ad o) (k:Nat):Tl o 51 (vT k:Rw S):=ah (G4 k) ⟨kJ o ho k,jF o ho k,KA o ho k,trivial⟩ Tryz.func51 (by kernel_rfl) fun t vars dims c0 κ x h=>Eq.trans (by kernel_rfl) (ai h)
def lz {S:Type} (k:Nat):Rw S:=ae Nk xn fun kind kids κ=>aa k (cK k kind kids) (B6 κ)
def G5 {S:Type} (k:Nat):Fx S:=fx 8 (fun _=>[]) (fun _=>false) [] [] k Tryz.f50 true [] 0
theorem m8 {S:Type} (o:Obj) (ho:ad o) (k:Nat):Tl o 50 (lz k:Rw S):=ah (G5 k) trivial Tryz.func50 (by kernel_rfl) fun kind kids κ x h=>Eq.trans (by kernel_rfl) (ai h)
def vU {S:Type} (k:Nat):Rw S:=ae Nm eO fun t c0 κ=>aa k (ei k t c0) (Qw κ)
def G6 {S:Type} (k:Nat):Fx S:=fp 28 [(52,j8 k),(85,i8 k),(91,lE k)] [] k Tryz.f55 1
theorem zo {S:Type} (o:Obj) (ho:ad o) (k:Nat):Tl o 55 (vU k:Rw S):=ah (G6 k) ⟨kJ o ho k,jF o ho k,m_ o ho k,trivial⟩ Tryz.func55 (by kernel_rfl) fun t c0 κ x h=>Eq.trans (by kernel_rfl) (ai h)
def Ch {S:Type} (k:Nat):Rw S:=ae Nn xn fun line phi a a_end a_r κ=>aa k (y7 k line phi a a_end a_r) (gY κ)
def G7 {S:Type} (k:Nat):Fx S:=fp 49 [(48,v_ k),(50,lz k),(51,vT k),(53,wc k),(54,vS k),(55,vU k),(84,nW k),(85,i8 k),(86,CW k)] [] k Tryz.f41 0
theorem KC {S:Type} (o:Obj) (ho:ad o) (k:Nat):Tl o 41 (Ch k:Rw S):=ah (G7 k) ⟨zw o ho k,m8 o ho k,zn o ho k,zy o ho k,zm o ho k,zo o ho k,qv o ho k,jF o ho k,Lf o ho k,trivial⟩ Tryz.func41 (by kernel_rfl) fun line phi a a_end a_r κ x h=>Eq.trans (by kernel_rfl) (ai h)
def Ci {S:Type} (k:Nat):Rw S:=ae Np xn fun line phi a κ=>aa k (y6 k line phi a) (gY κ)
def G8 {S:Type} (k:Nat):Fx S:=fp 17 [(41,Ch k)] [] k Tryz.f11 0
theorem KD {S:Type} (o:Obj) (ho:ad o) (k:Nat):Tl o 11 (Ci k:Rw S):=ah (G8 k) ⟨KC o ho k,trivial⟩ Tryz.func11 (by kernel_rfl) fun line phi a κ x h=>Eq.trans (by kernel_rfl) (ai h)
def Cj {S:Type} (k:Nat):Rw S:=ae qU xn fun sys κ=>aa k (pF k sys) (B7 κ)
def G9 {S:Type} (k:Nat):Fx S:=fx 8 (fun _=>[]) (fun _=>false) [(50,lz k)] [] k Tryz.f49 true [] 0
theorem KE {S:Type} (o:Obj) (ho:ad o) (k:Nat):Tl o 49 (Cj k:Rw S):=ah (G9 k) ⟨m8 o ho k,trivial⟩ Tryz.func49 (by kernel_rfl) fun sys κ x h=>Eq.trans (by kernel_rfl) (ai h)
def vV {S:Type} (k:Nat):Rw S:=ae uY xn fun t a sys κ=>aa k (mI k t a sys) (gY κ)
def sV {S:Type} (k:Nat):Fx S:=fp 76 [(48,v_ k),(49,Cj k),(50,lz k),(51,vT k),(52,j8 k),(53,wc k),(54,vS k),(55,vU k)] [(4,⟨[(4,.none),(6,.none),(8,.none),(9,.none),(27,.none),(28,.none),(29,.none)],[(4,[.none,.none,.none,.none,.none,.none]),(6,[.none,.none,.none,some (200387,true),some (200388,true),some (200389,true)]),(9,[.none,.none,.none,some (200579,true),.none,some (200581,true)]),(19000,[.none])]⟩,aH 6 23)] k Tryz.f18 0
def AX (a:Tm) (r5:Int×Int×ByteArray×List Tm) (sys:List (Br Tm)) (b19000_0:Int) (b9_5:List (Br Tm)) (v29:Int):St UU:=⟨[(4,(pt 4)),(6,(pt 6)),(8,(pt 19000)),(9,(pt 9)),(27,(sB sys)),(28,(.int .i64 (sys.length:Int))),(29,(iI v29))],[(4,bT a),(6,.cells [(iI 0),(iI 0),(.str ByteArray.empty),(.own 200387 0),(.own 200388 0),(.own 200389 0)]),(9,.cells [(iI r5.1),(iI r5.2.1),(.str r5.2.2.1),(.own 200579 0),(sT r5.2.2.2),(.own 200581 0)]),(19000,bI b19000_0)],[(200581,⟨0,ET.B,b9_5⟩),(200579,⟨0,ET.C,([]:List Cl)⟩),(200389,⟨0,ET.B,([]:List (Br Tm))⟩),(200388,⟨0,ET.T,([]:List Tm)⟩),(200387,⟨0,ET.C,([]:List Cl)⟩)],[(200581,.wr),(200579,.wr),(200389,.wr),(200388,.wr),(200387,.wr)]⟩
section
variable {S:Type} (k:Nat) (t a:Tm) (sys:List (Br Tm)) (κ:Out UU→Option S)
theorem IE (r5): ∀n b19000_0 b9_5 v29,(sV k).lp κ 4 [] n (AX a r5 sys b19000_0 b9_5 v29)=eT k (gY κ) a r5 sys n b19000_0 b9_5 v29:=lm (km k (gY κ) a r5 sys) rfl (fun _=>rfl) fun r b19000_0 b9_5 v29=>by kernel_rfl
end
theorem zp {S:Type} (o:Obj) (ho:ad o) (k:Nat):Tl o 18 (vV k:Rw S):=ah (sV k) ⟨zw o ho k,KE o ho k,m8 o ho k,zn o ho k,kJ o ho k,zy o ho k,zm o ho k,zo o ho k,trivial⟩ Tryz.func18 (by kernel_rfl) fun t a sys κ x h=>Eq.trans (b:=w7 k (gY κ) (fun r5 b19000_0 b9_5 v29=>(sV k).lp κ 4 [] k (AX a r5 sys b19000_0 b9_5 v29)) t a sys) (by kernel_rfl) (Eq.trans (by simp only [IE];rfl) (ai h))
def vW {S:Type} (k:Nat):Rw S:=ae jL xn fun a b κ=>aa k (jD k a b) (aA κ)
def sW {S:Type} (k:Nat):Fx S:=fp 26 [] [(4,bz [0,1,5] [],aH 5 11)] k Tryz.f24 0
def AY (a b:List Cl) (i5:Int):St UU:=⟨[(0,(sC a)),(1,(sC b)),(5,(iI i5))],[],[],[]⟩
section
variable {S:Type} (k:Nat) (a b:List Cl) (κ:Out UU→Option S)
theorem IF: ∀n i5,(sW k).lp κ 4 [] n (AY a b i5)=lb k (aA κ) a b n i5:=cA (pg k (aA κ) a b) rfl (fun _=>rfl) fun r i5=>by kernel_rfl
end
theorem zq {S:Type} (o:Obj) (ho:ad o) (k:Nat):Tl o 24 (vW k:Rw S):=ah (sW k) trivial Tryz.func24 (by kernel_rfl) fun a b κ x h=>Eq.trans (b:=xM k (aA κ) (fun i5=>(sW k).lp κ 4 [] k (AY a b i5)) a b) (by kernel_rfl) (Eq.trans (by simp only [IF];rfl) (ai h))
def vX {S:Type} (k:Nat):Rw S:=ae gP xn fun a_n κ=>aa k (jy k a_n) (Qx κ)
def G_ {S:Type} (k:Nat):Fx S:=fx 5 (fun _=>[]) (fun _=>false) [] [] k Tryz.f69 true [] 0
theorem zr {S:Type} (o:Obj) (ho:ad o) (k:Nat):Tl o 69 (vX k:Rw S):=ah (G_ k) trivial Tryz.func69 (by kernel_rfl) fun a_n κ x h=>Eq.trans (by kernel_rfl) (ai h)
def Ck {S:Type} (k:Nat):Rw S:=ae f7 xn fun a_r κ=>aa k (tM k a_r) (Qy κ)
def Ha {S:Type} (k:Nat):Fx S:=fx 13 (fun _=>[]) (fun _=>false) [(50,lz k),(69,vX k)] [] k Tryz.f71 true [] 0
theorem KF {S:Type} (o:Obj) (ho:ad o) (k:Nat):Tl o 71 (Ck k:Rw S):=ah (Ha k) ⟨m8 o ho k,zr o ho k,trivial⟩ Tryz.func71 (by kernel_rfl) fun a_r κ x h=>Eq.trans (by kernel_rfl) (ai h)
def Cn {S:Type} (k:Nat):Rw S:=ae cn xn fun κ=>aa k (yZ k) (B6 κ)
def Hc {S:Type} (k:Nat):Fx S:=fx 37 (fun _=>[]) (fun _=>false) [(50,lz k),(69,vX k),(71,Ck k)] [] k Tryz.f31 true [] 0
theorem KH {S:Type} (o:Obj) (ho:ad o) (k:Nat):Tl o 31 (Cn k:Rw S):=ah (Hc k) ⟨m8 o ho k,zr o ho k,KF o ho k,trivial⟩ Tryz.func31 (by kernel_rfl) fun κ x h=>Eq.trans (by kernel_rfl) (ai h)
def Co {S:Type} (k:Nat):Rw S:=ae qT xn fun t vars dims κ=>aa k (za k t vars dims) (bq κ)
def He {S:Type} (k:Nat):Fx S:=fp 28 [(80,vP k),(81,lD (eo k))] [] k Tryz.f37 0
theorem KJ {S:Type} (o:Obj) (ho:ad o) (k:Nat):Tl o 37 (Co k:Rw S):=ah (He k) ⟨zj o ho k,uL o ho k,trivial⟩ Tryz.func37 (by kernel_rfl) fun t vars dims κ x h=>Eq.trans (by kernel_rfl) (ai h)
def Cp {S:Type} (k:Nat):Rw S:=ae cn xn fun κ=>aa k (p6 k) (aA κ)
def Hf {S:Type} (k:Nat):Fx S:=fp 75 [(11,Ci k),(18,vV k),(24,vW k),(31,Cn k),(37,Co k)] [] k Tryz.f10 0
theorem KK {S:Type} (o:Obj) (ho:ad o) (k:Nat):Tl o 10 (Cp k:Rw S):=ah (Hf k) ⟨KD o ho k,zp o ho k,zq o ho k,KH o ho k,KJ o ho k,trivial⟩ Tryz.func10 (by kernel_rfl) fun κ x h=>Eq.trans (by kernel_rfl) (ai h)
section
variable {S:Type} (hd:Is S) (k:Nat) (t:Tm) (κ:Out UU→Option S)
end
section
variable {S:Type} (hd:It S) (k:Nat) (t:Tm) (κ:Out UU→Option S)
end
section
variable {S:Type} (k:Nat) (s:ByteArray) (κ:Out UU→Option S)
end
section
variable {S:Type} (k:Nat) (a_n:Int) (κ:Out UU→Option S)
end
end
end Go.Proofs.YtapmagaejigpnaaGreatDoor
namespace Go.Proofs.YtapmagaejigpnaaGreatDoor
open Go PI
set_option linter.unusedVariables false
set_option maxRecDepth 100000
noncomputable section
section
variable {S:Type} (k:Nat) (l:List Cl) (c:Cl) (κ:Out UU→Option S)
end
section
variable {S:Type} (k:Nat) (l:List Cl) (κ:Out UU→Option S)
end
section
variable {S:Type} (k:Nat) (l:List Int) (κ:Out UU→Option S)
end
section
variable {S:Type} (k:Nat) (f:List Cl) (κ:Out UU→Option S)
end
section
variable {S:Type} (k:Nat) (s:Int) (κ:Out UU→Option S)
end
section
variable {S:Type} (k:Nat) (kind kid:Int) (κ:Out UU→Option S)
end
section
variable {S:Type} (k:Nat) (c:Cl) (κ:Out UU→Option S)
end
section
variable {S:Type} (k:Nat) (f:List Cl) (κ:Out UU→Option S)
end
section
variable {S:Type} (hd:Iq S) (k:Nat) (t:Tm) (vars dims:Int) (bound:Bool) (κ:Out UU→Option S)
end
section
variable {S:Type} (k:Nat) (l:List Tm) (κ:Out UU→Option S)
end
section
variable {S:Type} (k:Nat) (s a_from a_by:Int) (κ:Out UU→Option S)
end
section
variable {S:Type} (k:Nat) (f:List Cl) (a_from a_by:Int) (κ:Out UU→Option S)
end
section
variable {S:Type} (k:Nat) (l:List Cl) (κ:Out UU→Option S)
end
section
variable {S:Type} (hd:Iu S) (k:Nat) (t:Tm) (v vby d dby:Int) (κ:Out UU→Option S)
end
section
variable {S:Type} (k:Nat) (s i:Int) (κ:Out UU→Option S)
end
section
variable {S:Type} (k:Nat) (c:Cl) (κ:Out UU→Option S)
end
end
end Go.Proofs.YtapmagaejigpnaaGreatDoor
namespace Go.Proofs.YtapmagaejigpnaaGreatDoor
open Go PI
set_option linter.unusedVariables false
set_option maxRecDepth 100000
noncomputable section
section
variable {S:Type} (k:Nat) (a b:Int) (κ:Out UU→Option S)
end
section
variable {S:Type} (k:Nat) (f g:List Cl) (κ:Out UU→Option S)
end
section
variable {S:Type} (k:Nat) (f:List Cl) (κ:Out UU→Option S)
end
section
variable {S:Type} (k:Nat) (f g:List Cl) (κ:Out UU→Option S)
end
section
variable {S:Type} (k:Nat) (f:List Cl) (i:Int) (a_r:List Cl) (κ:Out UU→Option S)
end
section
variable {S:Type} (k:Nat) (f:List Cl) (i:Int) (a_r:List Cl) (κ:Out UU→Option S)
end
section
variable {S:Type} (k:Nat) (s i:Int) (κ:Out UU→Option S)
end
section
variable {S:Type} (k:Nat) (f:List Cl) (i:Int) (κ:Out UU→Option S)
end
section
variable {S:Type} (hd:Iv S) (k:Nat) (t:Tm) (i:Int) (a_r:List Cl) (depth:Int) (drop:Bool) (κ:Out UU→Option S)
end
section
variable {S:Type} (k:Nat) (kind:Int) (kids:List Tm) (κ:Out UU→Option S)
end
section
variable {S:Type} (k:Nat) (line:Tm) (phi:List Cl) (a:Tm) (κ:Out UU→Option S)
end
section
variable {S:Type} (k:Nat) (line:Tm) (phi:List Cl) (a:Tm) (κ:Out UU→Option S)
end
def rQ {S:Type} (hd:dG S):Rw S:=ae Nq xn fun a b κ=>hd a b (aA κ)
def Cx {S:Type} (hd:dG S) (k:Nat):Rw S:=ae Nr xn fun a b κ=>aa k (mV hd k a b) (aA κ)
def sZ {S:Type} (hd:dG S) (k:Nat):Fx S:=fp 27 [(22,rQ hd)] [(4,bz [0,1,5] [],aH 5 11)] k Tryz.f61 0
def A1 (a b:List Tm) (i5:Int):St UU:=⟨[(0,(sT a)),(1,(sT b)),(5,(iI i5))],[],[],[]⟩
section
variable {S:Type} (hd:dG S) (k:Nat) (a b:List Tm) (κ:Out UU→Option S)
theorem IJ: ∀n i5,(sZ hd k).lp κ 4 [] n (A1 a b i5)=lc hd k (aA κ) a b n i5:=cA (pj hd k (aA κ) a b) rfl (fun _=>rfl) fun r i5=>by kernel_rfl
end
theorem KQ {S:Type} (o:Obj) (ho:ad o) (hd:dG S) (Hd:Tl o 22 (rQ hd)) (k:Nat):Tl o 61 (Cx hd k:Rw S):=ah (sZ hd k) ⟨Hd,trivial⟩ Tryz.func61 (by kernel_rfl) fun a b κ x h=>Eq.trans (b:=xP hd k (aA κ) (fun i5=>(sZ hd k).lp κ 4 [] k (A1 a b i5)) a b) (by kernel_rfl) (Eq.trans (by simp only [IJ];rfl) (ai h))
def sX {S:Type} (hd:dG S) (k:Nat):Fx S:=fp 87 [(24,vW k),(61,Cx hd k)] [(4,bz [2,3,5] [(2,6),(3,6)],aH 5 11)] k Tryz.f22 0
def A0 (a b:Tm) (i5:Int):St UU:=⟨[(2,(pt 2)),(3,(pt 3)),(5,(iI i5))],[(2,bT a),(3,bT b)],[],[]⟩
section
variable {S:Type} (hd:dG S) (k:Nat) (a b:Tm) (κ:Out UU→Option S)
theorem II: ∀n i5,(sX hd k).lp κ 4 [] n (A0 a b i5)=jT hd k (aA κ) a b n i5:=cA (pi hd k (aA κ) a b) rfl (fun _=>rfl) fun r i5=>by kernel_rfl
end
theorem z_ {S:Type} (o:Obj) (ho:ad o): ∀k:Nat,Tl o 22 (rQ (dw k:dG S))
 |0=>g7 fun a b κ x h=>by cases h
 |k+1=>ah (sX (dw k) k) ⟨zq o ho k,KQ o ho (dw k) (z_ o ho k) k,trivial⟩ Tryz.func22 (by kernel_rfl) fun a b κ x h=>Eq.trans (b:=xO (dw k) k (aA κ) (fun i5=>(sX (dw k) k).lp κ 4 [] k (A0 a b i5)) a b) (by kernel_rfl) (Eq.trans (by simp only [II];rfl) h)
section
variable {S:Type} (hd:Ir S) (k:Nat) (t:Tm) (κ:Out UU→Option S)
end
section
variable {S:Type} (hd:yp S) (k:Nat) (l:List Tm) (κ:Out UU→Option S)
end
end
end Go.Proofs.YtapmagaejigpnaaGreatDoor
namespace Go.Proofs.YtapmagaejigpnaaGreatDoor
open Go PI
set_option linter.unusedVariables false
set_option maxRecDepth 100000
noncomputable section
section
variable {S:Type} (hd:yp S) (k:Nat) (t:Tm) (κ:Out UU→Option S)
end
section
variable {S:Type} (k:Nat) (line a:Tm) (sys:List (Br Tm)) (κ:Out UU→Option S)
end
section
variable {S:Type} (k:Nat) (kind:Int) (l:List (Br Tm)) (κ:Out UU→Option S)
end
section
variable {S:Type} (k:Nat) (line a:Tm) (sys:List (Br Tm)) (κ:Out UU→Option S)
end
section
variable {S:Type} (k:Nat) (t a:Tm) (sys:List (Br Tm)) (κ:Out UU→Option S)
end
def Cz {S:Type} (k:Nat):Rw S:=ae qU xn fun sys κ=>aa k (t8 k sys) (aA κ)
def s8 {S:Type} (k:Nat):Fx S:=fp 16 [] [(2,bz [5,6,7] [],aH 4 5)] k Tryz.f47 0
def A3 (sys:List (Br Tm)) (v7:Int):St UU:=⟨[(5,(sB sys)),(6,(.int .i64 (sys.length:Int))),(7,(iI v7))],[],[],[]⟩
section
variable {S:Type} (k:Nat) (sys:List (Br Tm)) (κ:Out UU→Option S)
theorem IL: ∀n v7,(s8 k).lp κ 2 [] n (A3 sys v7)=k_ k (aA κ) sys n v7:=cA (pb k (aA κ) sys) rfl (fun _=>rfl) fun r v7=>by kernel_rfl
end
theorem KS {S:Type} (o:Obj) (ho:ad o) (k:Nat):Tl o 47 (Cz k:Rw S):=ah (s8 k) trivial Tryz.func47 (by kernel_rfl) fun sys κ x h=>Eq.trans (b:=FA k (aA κ) (fun v7=>(s8 k).lp κ 2 [] k (A3 sys v7)) sys) (by kernel_rfl) (Eq.trans (by simp only [IL];rfl) (ai h))
def vZ {S:Type} (hd:e_ S):Rw S:=ae uZ xn fun t κ=>hd t (aA κ)
def ji {S:Type} (hd:e_ S) (k:Nat):Fx S:=fp 42 [(16,vZ hd),(47,Cz k)] [(4,bz [1,13,14,15] [(1,6)],aH 5 11),(10,bz [24,25,26] [],aH 6 23),(13,bz [24,25,26,31,32,33] [],aH 14 6551)] k Tryz.f16 0
def vm (t:Tm) (v15:Int):St UU:=⟨[(1,(pt 1)),(13,(sT t.kids)),(14,(.int .i64 (t.kids.length:Int))),(15,(iI v15))],[(1,bT t)],[],[]⟩
def nB (t:Tm) (v26:Int):St UU:=⟨[(24,(sB t.sys)),(25,(.int .i64 (t.sys.length:Int))),(26,(iI v26))],[],[],[]⟩
def A4 (t:Tm) (v26:Int) (x4:(Br Tm)) (v33:Int):St UU:=⟨[(24,(sB t.sys)),(25,(.int .i64 (t.sys.length:Int))),(26,(iI v26)),(31,(sT x4.kids)),(32,(.int .i64 (x4.kids.length:Int))),(33,(iI v33))],[],[],[]⟩
section
variable {S:Type} (hd:e_ S) (k:Nat) (t:Tm) (κ:Out UU→Option S)
theorem IP (v26 x4 κ1): ∀n v33,(ji hd k).lp κ 13 [κ1] n (A4 t v26 x4 v33)=jP hd k (aA κ) (fun v26=>κ1 (nB t v26)) t v26 x4 n v33:=cA (pc hd k (aA κ) t v26 x4 (fun v26=>κ1 (nB t v26))) rfl (fun _=>rfl) fun r v33=>by kernel_rfl
theorem IN: ∀n v26,(ji hd k).lp κ 10 [] n (nB t v26)=gQ hd k (aA κ) t n v26:=cA (fun own=>mj hd k (aA κ) t (fun v26 x4 v33=>jP hd k (aA κ) own t v26 x4 k v33) own) rfl (fun _=>rfl) fun r v26=>Eq.trans (b:=mj hd k (aA κ) t (fun v26 x4 v33=>(ji hd k).lp κ 13 [r] k (A4 t v26 x4 v33)) (fun v26=>r (nB t v26)) v26) (by kernel_rfl) (by simp only [IP])
theorem IM: ∀n v15,(ji hd k).lp κ 4 [] n (vm t v15)=la hd k (aA κ) t n v15:=cA (fun own=>mi hd k (aA κ) t (fun v26=>gQ hd k (aA κ) t k v26) own) rfl (fun _=>rfl) fun r v15=>Eq.trans (b:=mi hd k (aA κ) t (fun v26=>(ji hd k).lp κ 10 [] k (nB t v26)) (fun v15=>r (vm t v15)) v15) (by kernel_rfl) (by simp only [IN])
end
theorem Aa {S:Type} (o:Obj) (ho:ad o): ∀k:Nat,Tl o 16 (vZ (dT k:e_ S))
 |0=>g7 fun t κ x h=>by cases h
 |k+1=>ah (ji (dT k) k) ⟨Aa o ho k,KS o ho k,trivial⟩ Tryz.func16 (by kernel_rfl) fun t κ x h=>Eq.trans (b:=xG (dT k) k (aA κ) (fun v15=>(ji (dT k) k).lp κ 4 [] k (vm t v15)) t) (by kernel_rfl) (Eq.trans (by simp only [IM];rfl) h)
def CA {S:Type} (k:Nat):Rw S:=ae qU xn fun sys κ=>aa k (t_ k sys) (B7 κ)
def Hn {S:Type} (k:Nat):Fx S:=fx 10 (fun _=>[]) (fun _=>false) [] [] k Tryz.f17 true [] 0
theorem KT {S:Type} (o:Obj) (ho:ad o) (k:Nat):Tl o 17 (CA k:Rw S):=ah (Hn k) trivial Tryz.func17 (by kernel_rfl) fun sys κ x h=>Eq.trans (by kernel_rfl) (ai h)
def CB {S:Type} (k:Nat):Rw S:=ae Ns xn fun b κ=>aa k (qe k b) (aA κ)
def Ho {S:Type} (k:Nat):Fx S:=fp 15 [] [] k Tryz.f63 0
theorem KU {S:Type} (o:Obj) (ho:ad o) (k:Nat):Tl o 63 (CB k:Rw S):=ah (Ho k) trivial Tryz.func63 (by kernel_rfl) fun b κ x h=>Eq.trans (by kernel_rfl) (ai h)
def CC {S:Type} (k:Nat):Rw S:=ae Nt xn fun s κ=>aa k (ui k s) (bq κ)
def s9 {S:Type} (k:Nat):Fx S:=fp 19 [(63,CB k)] [(2,bz [0,1,7,8] [],aH 4 5)] k Tryz.f62 0
def A5 (s:List (Br Tm)) (v8:Int):St UU:=⟨[(0,(sB s)),(1,(.func 63 [] [])),(7,(.int .i64 (s.length:Int))),(8,(iI v8))],[],[],[]⟩
section
variable {S:Type} (k:Nat) (s:List (Br Tm)) (κ:Out UU→Option S)
theorem IQ: ∀n v8,(s9 k).lp κ 2 [] n (A5 s v8)=nk k (bq κ) s n v8:=cA (tx k (bq κ) s) rfl (fun _=>rfl) fun r v8=>by kernel_rfl
end
theorem KV {S:Type} (o:Obj) (ho:ad o) (k:Nat):Tl o 62 (CC k:Rw S):=ah (s9 k) ⟨KU o ho k,trivial⟩ Tryz.func62 (by kernel_rfl) fun s κ x h=>Eq.trans (b:=xU k (bq κ) (fun v8=>(s9 k).lp κ 2 [] k (A5 s v8)) s) (by kernel_rfl) (Eq.trans (by simp only [IQ];rfl) (ai h))
def CE {S:Type} (k:Nat):Rw S:=ae qU xn fun l κ=>aa k (qc k l) (bq κ)
def Hq {S:Type} (k:Nat):Fx S:=fp 5 [(62,CC k)] [] k Tryz.f23 0
theorem KX {S:Type} (o:Obj) (ho:ad o) (k:Nat):Tl o 23 (CE k:Rw S):=ah (Hq k) ⟨KV o ho k,trivial⟩ Tryz.func23 (by kernel_rfl) fun l κ x h=>Eq.trans (by kernel_rfl) (ai h)
def CF {S:Type} (k:Nat):Rw S:=ae uY xn fun t a sys κ=>aa k (t7 k t a sys) (aA κ)
def Hr {S:Type} (k:Nat):Fx S:=fp 93 [(9,B9 k),(10,Cp k),(16,vZ (dT k)),(17,CA k),(18,vV k),(19,vR k),(20,wj k),(21,rU k),(22,rQ (dw k)),(23,CE k)] [] k Tryz.f4 0
theorem KY {S:Type} (o:Obj) (ho:ad o) (k:Nat):Tl o 4 (CF k:Rw S):=ah (Hr k) ⟨Ku o ho k,KK o ho k,Aa o ho k,KT o ho k,zp o ho k,zl o ho k,zE o ho k,uw o ho k,z_ o ho k,KX o ho k,trivial⟩ Tryz.func4 (by kernel_rfl) fun t a sys κ x h=>Eq.trans (by kernel_rfl) (ai h)
theorem SW {S:Type} (o:Obj) (ho:ad o) (k:Nat):Tl o 4 (CF k:Rw S):=KY o ho k
end
end Go.Proofs.YtapmagaejigpnaaGreatDoor
namespace Go.Proofs.YtapmagaejigpnaaGreatDoor
open Go PI
set_option linter.unusedVariables false
set_option linter.unusedSimpArgs false
variable {S:Type} {k:Nat}
def bE {α β:Type} (x:Except Int α) (f:α→Except Int β):Except Int β:=match x with
 | .error e=> .error e
 | .ok a=>f a
theorem ak {α β:Type} (a:α) (f:α→Except Int β):bE (.ok a) f=f a:=rfl
theorem JL {α β:Type} (e:Int) (f:α→Except Int β):bE (.error e) f= .error e:=rfl
theorem aq {α β:Type} {x:Except Int α} {f:α→Except Int β} {b:β} (h:bE x f= .ok b): ∃a,x= .ok a∧f a= .ok b:=by
 cases x with
 |error e=>cases h
 |ok a=>exact ⟨a,rfl,h⟩
theorem ba {α β:Type} {x:Except Int α} {f:α→Except Int β} {e:Int} (h:bE x f= .error e):x= .error e∨ ∃a,x= .ok a∧f a= .error e:=by
 cases x with
 |error e=>injection h with h;subst h;exact .inl rfl
 |ok a=>exact .inr ⟨a,rfl,h⟩
def cm (x:List Cl×Int):Except Int (List Cl):=if x.2=0 then .ok x.1 else .error x.2
theorem jc {x:List Cl×Int} (h:x.2=0):cm x= .ok x.1:=if_pos h
theorem lS {x:List Cl×Int} (h:x.2≠0):cm x= .error x.2:=if_neg h
theorem fL {x:List Cl×Int} {l:List Cl} (h:cm x= .ok l):x.2=0∧x.1=l:=by
 unfold cm at h
 split at h
 ·next h0=>injection h with h;exact ⟨h0,h⟩
 ·cases h
theorem ow {x:List Cl×Int} {e:Int} (h:cm x= .error e):x.2≠0∧x.2=e:=by
 unfold cm at h
 split at h
 ·cases h
 ·next h0=>injection h with h;exact ⟨h0,h⟩
def EN (e:Int):Prop:=0≤e∧e≤1000
theorem jH:EN 0:=by unfold EN;omega
theorem iy:EN 2:=by unfold EN;omega
theorem LU:EN 3:=by unfold EN;omega
theorem zM:EN 10:=by unfold EN;omega
theorem lj (l:List Cl):EN (aX l).2:=by
 unfold aX
 split
 ·split
  ·exact LU
  ·exact jH
 ·exact iy
theorem qK {step:List Cl→Cl→List Cl×Int} (hs: ∀h c,EN (step h c).2): ∀ {r h:List Cl},EN (aL step h r).2:=by
 intro r
 induction r with
 |nil=>intro h;exact jH
 |cons c r ih=>
  intro h
  unfold aL
  split
  ·exact ih
  ·exact hs h c
theorem AK (s i b:Int):EN (bG s i b).2:=by
 unfold bG
 split
 ·exact iy
 ·unfold dL
  split
  ·exact jH
  ·split
   ·exact zM
   ·split
    ·exact zM
    ·exact jH
theorem Oy (c:Cl) (i b:Int):EN (b7 c i b).2:=by
 unfold b7
 split
 ·split
  ·split
   ·exact jH
   ·exact AK _ _ _
  ·exact AK _ _ _
 ·exact iy
theorem rd (f:List Cl) (i b:Int):EN (aP f i b).2:=by
 unfold aP
 split
 ·split
  ·exact lj _
  ·exact qK fun h c=>Oy c i b
 ·exact iy
theorem Ge {n b x y:Nat} (h:a6 n b x=a6 n b y):x=y:=by
 unfold a6 at h;split at h<;>split at h<;>omega
theorem S9 (n b:Nat) {l:List Nat} (h:l.Nodup):(l.map (a6 n b)).Nodup:=
 List.Pairwise.map (S:=fun a b=>a≠b) (R:=fun a b=>a≠b) _ (fun x y hxy h=>hxy (Ge h)) h
theorem OF {m n b:Nat} (h:(dL m n b).2=0) (j:Nat):(dL m n b).1.testBit j=true↔ ∃x,x<24∧m.testBit x=true∧a6 n b x=j:=by
 rw [AI] at h ⊢
 split
 ·next he=>rw [if_pos he] at h;cases h
 ·rw [wY _ (S9 n b (tB m)),decide_eq_true_eq,List.mem_map]
  constructor
  ·rintro ⟨x,hx,e⟩;have:=mem_bitsN.1 hx;exact ⟨x,this.1,this.2,e⟩
  ·rintro ⟨x,h1,h2,e⟩;exact ⟨x,mem_bitsN.2 ⟨h1,h2⟩,e⟩
theorem yx {m:Nat} (h:m<16777216):m&&&M24=m:=by
 apply Nat.eq_of_testBit_eq
 intro j
 rw [Nat.testBit_and,hX]
 cases hb:m.testBit j with
 |false=>rfl
 |true=>rw [decide_eq_true (hY h hb)];rfl
theorem Md {i b:Int}: ∀ {r h:List Cl},(aL (cO i b) h r).2=0→(∀c∈r,(b7 c i b).2=0)∧(aL (cO i b) h r).1=h++r.map fun c=>(b7 c i b).1:=by
 intro r
 induction r with
 |nil=>intro h _;exact ⟨fun c hc=>(by cases hc),by simp [aL]⟩
 |cons c r ih=>
  intro h h0
  unfold aL at h0 ⊢
  split at h0
  ·next h1=>
   have:=ih h0
   rw [if_pos h1]
   refine ⟨fun d hd=> ?_, ?_⟩
   ·rcases List.mem_cons.1 hd with rfl|hd
    ·exact h1
    ·exact this.1 d hd
   ·rw [this.2];simp [cO]
  ·next h1=>exact absurd h0 h1
theorem OB {f:List Cl} {i b:Int} (h:(aP f i b).2=0): ∀c∈(aP f i b).1,∃d∈f,(b7 d i b).2=0∧c=(b7 d i b).1:=by
 unfold aP at h ⊢
 split
 ·next hr=>
  rw [if_pos hr] at h
  split
  ·next h0=>
   rw [if_pos h0] at h
   obtain ⟨ha,hb⟩:=Md h0
   intro c hc
   have h':aX (aL (cO i b) [] f).1=((aX (aL (cO i b) [] f).1).1,0):=Prod.ext rfl h
   rw [(gU h').1] at hc
   have:=(mem_mins.1 hc).1
   rw [hb,List.nil_append,List.mem_map] at this
   obtain ⟨d,hd,rfl⟩:=this
   exact ⟨d,hd,ha d hd,rfl⟩
  ·next h0=>rw [if_neg h0] at h;exact absurd h h0
 ·next hr=>rw [if_neg hr] at h;exact absurd h (by decide)
theorem J5 {c:Cl}:bF c=false↔ ∀j,¬ (c.pos.toNat.testBit j=true∧c.neg.toNat.testBit j=true):=by
 unfold bF
 rw [Bool.not_eq_false',decide_eq_true_eq]
 constructor
 ·intro h j ⟨h1,h2⟩
  have:(c.pos.toNat&&&c.neg.toNat).testBit j=true:=by rw [Nat.testBit_and,h1,h2];rfl
  rw [h,Nat.zero_testBit] at this;cases this
 ·intro h
  apply Nat.eq_of_testBit_eq
  intro j
  rw [Nat.zero_testBit,Nat.testBit_and]
  cases h1:c.pos.toNat.testBit j with
  |false=>rfl
  |true=>
   cases h2:c.neg.toNat.testBit j with
   |false=>rfl
   |true=>exact absurd ⟨h1,h2⟩ (h j)
theorem AJ {s i b:Int} (h:(bG s i b).2=0) {j:Nat} (hj:(bG s i b).1.toNat.testBit j=true): ∃x,s.toNat.testBit x=true∧a6 i.toNat b.toNat x=j:=by
 unfold bG at h hj
 split at h
 ·cases h
 ·next hn=>
  rw [if_neg hn] at hj
  have h':(dL s.toNat i.toNat b.toNat).2=0:=by
   have:((dL s.toNat i.toNat b.toNat).2:Int)=0:=h
   omega
  obtain ⟨x,_,h2,h3⟩:=(OF h' j).1 hj
  exact ⟨x,h2,h3⟩
theorem Ox {c:Cl} {i b:Int} (h:(b7 c i b).2=0) (hc:bF c=false):bF (b7 c i b).1=false:=by
 rw [J5] at hc ⊢
 unfold b7 at h ⊢
 split at h
 ·next hr=>
  split at h
  ·next h1=>
   split at h
   ·next h2=>
    rw [if_pos hr,if_pos h1,if_pos h2]
    rintro j ⟨ha,hb⟩
    obtain ⟨x,hx,ex⟩:=AJ h1 ha
    obtain ⟨y,hy,ey⟩:=AJ h2 hb
    have:=Ge (ex.trans ey.symm)
    subst this
    exact hc x ⟨hx,hy⟩
   ·next h2=>exact absurd h h2
  ·next h1=>exact absurd h h1
 ·cases h
def bB (d b:Int) (f:List Cl):Except Int (List Cl):=if b=0∨d≥24 then .ok f else cm (aP f d b)
theorem n1 {d b:Int} {f g:List Cl} (hf:RF f) (h:bB d b f= .ok g):RF g:=by
 unfold bB at h
 split at h
 ·injection h with h;subst h;exact hf
 ·obtain ⟨h1,rfl⟩:=fL h;exact gV h1
theorem DG {d b:Int} {f:List Cl} {e:Int} (h:bB d b f= .error e):0<e∧e≤1000:=by
 unfold bB at h
 split at h
 ·cases h
 ·obtain ⟨h1,rfl⟩:=ow h
  have:=rd f d b
  unfold EN at this;omega
theorem DF {d b:Int} {f g:List Cl} (hf:f.all (fun c=> !bF c)=true) (h:bB d b f= .ok g):g.all (fun c=> !bF c)=true:=by
 unfold bB at h
 split at h
 ·injection h with h;subst h;exact hf
 ·obtain ⟨h1,rfl⟩:=fL h
  rw [List.all_eq_true] at hf ⊢
  intro c hc
  obtain ⟨e,he,h2,rfl⟩:=OB h1 c hc
  have:=hf e he
  rw [Bool.not_eq_true'] at this ⊢
  exact Ox h2 this
theorem wA (d b:Int):bB d b []= .ok []:=by
 unfold bB
 split
 ·rfl
 ·rfl
mutual
def bj (vb db v d:Int):Tm→Except Int Tm
 | .mk kd n nm r ks sys=>
  if kd=1∧n≥v∧n>1000000000-vb then .error 100
  else bE (bB d db r) fun r'=>bE (dm vb db v d kd 0 ks) fun ks'=>bE (cX vb db v d kd sys) fun sys'=> .ok (.mk kd (if kd=1∧n≥v then n+vb else n) nm r' ks' sys')
def dm (vb db v d kd:Int) (i:Nat):List Tm→Except Int (List Tm)
 |[]=> .ok []
 |t::l=>bE (bj vb db (v+fO kd i) (d+bU kd i) t) fun t'=>bE (dm vb db v d kd (i+1) l) fun l'=> .ok (t'::l')
def cX (vb db v d kd:Int):List (Br Tm)→Except Int (List (Br Tm))
 |[]=> .ok []
 |b::l=>bE (jX vb db v d kd b) fun b'=>bE (cX vb db v d kd l) fun l'=> .ok (b'::l')
def jX (vb db v d kd:Int):Br Tm→Except Int (Br Tm)
 | .mk f ks=>bE (bB d db f) fun f'=>bE (dn vb db v d kd ks) fun ks'=> .ok (.mk f' ks')
def dn (vb db v d kd:Int):List Tm→Except Int (List Tm)
 |[]=> .ok []
 |t::l=>bE (bj vb db v (d+aw kd) t) fun t'=>bE (dn vb db v d kd l) fun l'=> .ok (t'::l')
end
mutual
def RowsT:Tm→Prop
 | .mk kd n nm r ks sys=>(RF r∧(kd=1→r=[])∧0≤kd)∧cv ks∧dh sys
def cv:List Tm→Prop
 |[]=>True
 |t::l=>RowsT t∧cv l
def dh:List (Br Tm)→Prop
 |[]=>True
 |b::l=>jq b∧dh l
def jq:Br Tm→Prop
 | .mk f ks=>RF f∧cv ks
end
theorem rowsK_iff: ∀ {l:List Tm},cv l↔ ∀t∈l,RowsT t:=by
 intro l
 induction l with
 |nil=>rw [cv];simp
 |cons t l ih=>rw [cv,ih];simp
theorem wC {b:Br Tm}:jq b↔RF b.face∧ ∀t∈b.kids,RowsT t:=by cases b;rw [jq,rowsK_iff]
theorem rowsS_iff: ∀ {l:List (Br Tm)},dh l↔ ∀b∈l,RF b.face∧ ∀t∈b.kids,RowsT t:=by
 intro l
 induction l with
 |nil=>rw [dh];simp
 |cons t l ih=>rw [dh,ih,wC];simp
end Go.Proofs.YtapmagaejigpnaaGreatDoor
namespace Go.Proofs.YtapmagaejigpnaaGreatDoor
open Go PI
set_option linter.unusedVariables false
set_option linter.unusedSimpArgs false
variable {S:Type} {k:Nat}
inductive F2 {α β:Type} (R:α→β→Prop):List α→List β→Prop
 |nil:F2 R [] []
 |cons {a:α} {b:β} {l:List α} {m:List β}:R a b→F2 R l m→F2 R (a::l) (b::m)
theorem F2.len {α β:Type} {R:α→β→Prop} {l:List α} {m:List β} (h:F2 R l m):m.length=l.length:=by
 induction h with
 |nil=>rfl
 |cons _ _ ih=>simp [ih]
theorem F2.imp {α β:Type} {R Q:α→β→Prop} {l:List α} {m:List β} (h:F2 R l m) (hq: ∀a b,R a b→Q a b):F2 Q l m:=by
 induction h with
 |nil=>exact .nil
 |cons h1 _ ih=>exact .cons (hq _ _ h1) ih
theorem OC {vb db v d kd:Int} {R:Tm→Tm→Prop}: ∀ {l:List Tm} {i:Nat} {l':List Tm},(∀x∈l,∀v d x',bj vb db v d x= .ok x'→R x x')→dm vb db v d kd i l= .ok l'→F2 R l l':=by
 intro l
 induction l with
 |nil=>intro i l' _ h;rw [dm] at h;injection h with h;subst h;exact .nil
 |cons t l ih=>
  intro i l' hr h
  rw [dm] at h
  obtain ⟨t',h1,h⟩:=aq h
  obtain ⟨m,h2,h⟩:=aq h
  injection h with h;subst h
  exact .cons (hr t (by simp) _ _ _ h1) (ih (fun x hx=>hr x (by simp [hx])) h2)
theorem OD {vb db v d kd:Int} {R:Tm→Tm→Prop}: ∀ {l:List Tm} {l':List Tm},(∀x∈l,∀v d x',bj vb db v d x= .ok x'→R x x')→dn vb db v d kd l= .ok l'→F2 R l l':=by
 intro l
 induction l with
 |nil=>intro l' _ h;rw [dn] at h;injection h with h;subst h;exact .nil
 |cons t l ih=>
  intro l' hr h
  rw [dn] at h
  obtain ⟨t',h1,h⟩:=aq h
  obtain ⟨m,h2,h⟩:=aq h
  injection h with h;subst h
  exact .cons (hr t (by simp) _ _ _ h1) (ih (fun x hx=>hr x (by simp [hx])) h2)
theorem OG {vb db v d kd:Int} {R:Tm→Tm→Prop}: ∀ {l l':List (Br Tm)},(∀b∈l,∀x∈b.kids,∀v d x',bj vb db v d x= .ok x'→R x x')→cX vb db v d kd l= .ok l'→
  F2 (fun b b'=>bB d db b.face= .ok b'.face∧F2 R b.kids b'.kids) l l':=by
 intro l
 induction l with
 |nil=>intro l' _ h;rw [cX] at h;injection h with h;subst h;exact .nil
 |cons b l ih=>
  intro l' hr h
  rw [cX] at h
  obtain ⟨b',h1,h⟩:=aq h
  obtain ⟨m,h2,h⟩:=aq h
  injection h with h;subst h
  cases b with
  |mk f ks=>
   rw [jX] at h1
   obtain ⟨f',h3,h1⟩:=aq h1
   obtain ⟨ks',h4,h1⟩:=aq h1
   injection h1 with h1;subst h1
   exact .cons ⟨h3,OD (hr ⟨f,ks⟩ (by simp)) h4⟩ (ih (fun b hb=>hr b (by simp [hb])) h2)
theorem jY {f:List Cl} {d:Int} (h:24≤d):eV f d=true:=by
 unfold eV
 rw [decide_eq_true_eq]
 intro i hi
 have:=(mem_bitsN.1 hi).1
 omega
def Up (x x':Tm):Prop:=av x'=av x∧az x'=az x∧x'.kind=x.kind∧(OkT x→OkT x'∧(RowsT x→RowsT x')∧ ∀dd dd',24≤dd→24≤dd'→bn false (-1) dd x=true→bn false (-1) dd' x'=true)
theorem Gi {l l':List Tm} (h:F2 Up l l'):bo l'=bo l:=by
 induction h with
 |nil=>rfl
 |cons h1 _ ih=>rw [bo,bo,h1.1,ih]
theorem Gl {l l':List Tm} (h:F2 Up l l'):aE l'=aE l:=by
 induction h with
 |nil=>rfl
 |cons h1 _ ih=>rw [aE,aE,h1.2.1,ih]
theorem Th {l l':List (Br Tm)} (h:F2 (fun b b':Br Tm=>F2 Up b.kids b'.kids) l l'):bu l'=bu l:=by
 induction h with
 |nil=>rfl
 |cons h1 _ ih=>rw [bu,bu,m6,m6,Gi h1,ih]
theorem Tn {l l':List (Br Tm)} (h:F2 (fun b b':Br Tm=>F2 Up b.kids b'.kids) l l'):aD l'=aD l:=by
 induction h with
 |nil=>rfl
 |cons h1 _ ih=>rw [aD,aD,ke,ke,Gl h1,ih]
theorem Gj {l l':List Tm} (h:F2 Up l l'):bm l→bm l':=by
 induction h with
 |nil=>exact id
 |cons h1 _ ih=>rw [bm,bm];exact fun h=>⟨(h1.2.2.2 h.1).1,ih h.2⟩
theorem Gk {l l':List Tm} (h:F2 Up l l'):bm l→cv l→cv l':=by
 induction h with
 |nil=>exact fun _ h=>h
 |cons h1 _ ih=>rw [bm,cv,cv];exact fun h g=>⟨(h1.2.2.2 h.1).2.1 g.1,ih h.2 g.2⟩
theorem Tq (v:Int):eb (-1) v= -1:=by unfold eb;rw [if_pos (by decide)]
theorem Tf {kd dd dd':Int} (h1:24≤dd) (h2:24≤dd') {l l':List Tm} (h:F2 Up l l'): ∀ {i:Nat},bm l→cG false (-1) dd kd i l=true→cG false (-1) dd' kd i l'=true:=by
 induction h with
 |nil=>exact fun _ h=>h
 |cons h3 _ ih=>
  intro i
  rw [bm,cG,cG,Bool.and_eq_true,Bool.and_eq_true,Tq]
  have:=fN kd i
  exact fun h g=>⟨(h3.2.2.2 h.1).2.2 _ _ (by omega) (by omega) g.1,ih h.2 g.2⟩
theorem Tg {kd dd dd':Int} (h1:24≤dd) (h2:24≤dd') {l l':List Tm} (h:F2 Up l l'):bm l→dS false (-1) dd kd l=true→dS false (-1) dd' kd l'=true:=by
 induction h with
 |nil=>exact fun _ h=>h
 |cons h3 _ ih=>
  rw [bm,dS,dS,Bool.and_eq_true,Bool.and_eq_true]
  have:=d4 kd
  exact fun h g=>⟨(h3.2.2.2 h.1).2.2 _ _ (by omega) (by omega) g.1,ih h.2 g.2⟩
def kl (d db:Int) (b b':Br Tm):Prop:=bB d db b.face= .ok b'.face∧F2 Up b.kids b'.kids
theorem DI {d db:Int} {f g:List Cl} (h:bB d db f= .ok g) (hf:aj f) (hl:f.length<1073741824):aj g∧g.length<1073741824:=by
 unfold bB at h
 split at h
 ·injection h with h;subst h;exact ⟨hf,hl⟩
 ·obtain ⟨h1,rfl⟩:=fL h
  have:=gV h1
  exact ⟨this.2,by have:=this.len;omega⟩
theorem DJ {d db:Int} {f g:List Cl} (h:bB d db f= .ok g) (hf:aj f) (hr:be f=true):be g=true:=(n1 ((gm hf).1 hr) h).right
theorem DH {d db:Int} {f g:List Cl} (h:bB d db f= .ok g) (hf:aj f) (hr:cZ f=true):cZ g=true:=by
 unfold cZ at hr ⊢
 rw [Bool.and_eq_true] at hr ⊢
 exact ⟨DJ h hf hr.1,DF hr.2 h⟩
theorem wz {d db:Int} {f g:List Cl} (h:bB d db f= .ok g) (hf:f.length=0):g.length=0:=by
 have:=List.length_eq_zero_iff.1 hf
 subst this
 rw [wA] at h;injection h with h;subst h;rfl
theorem Tc {d db:Int} {l l':List (Br Tm)} (h:F2 (kl d db) l l'):bh l→bh l':=by
 induction h with
 |nil=>exact id
 |cons h1 _ ih=>
  rw [bh,bh,j3,j3]
  intro h
  have h3:=DI h1.1 h.1.1.1 h.1.1.2.1
  exact ⟨⟨⟨h3.1,h3.2,by have:=h1.2.len;have:=h.1.1.2.2;omega⟩,okK_iff.1 (Gj h1.2 (okK_iff.2 h.1.2))⟩,ih h.2⟩
theorem Te {d db:Int} {l l':List (Br Tm)} (h:F2 (kl d db) l l'):bh l→dh l→dh l':=by
 induction h with
 |nil=>exact fun _ h=>h
 |cons h1 _ ih=>
  rw [bh,j3,dh,dh,wC,wC]
  intro h g
  exact ⟨⟨n1 g.1.1 h1.1,rowsK_iff.1 (Gk h1.2 (okK_iff.2 h.1.2) (rowsK_iff.2 g.1.2))⟩,ih h.2 g.2⟩
theorem Tb {d db kd dd dd':Int} (h1:24≤dd) (h2:24≤dd') {l l':List (Br Tm)} (h:F2 (kl d db) l l'):bh l→c7 false (-1) dd kd l=true→c7 false (-1) dd' kd l'=true:=by
 induction h with
 |nil=>exact fun _ h=>h
 | @cons a b _ _ h3 _ ih=>
  rw [bh,j3,c7,c7,Bool.and_eq_true,Bool.and_eq_true]
  intro h g
  refine ⟨?_,ih h.2 g.2⟩
  cases a;cases b
  have g1:=g.1
  rw [mb] at g1 ⊢
  exact Tg h1 h2 h3.2 (okK_iff.2 h.1.2) g1
theorem Td {d db kd dd dd':Int} (h1:24≤dd) (h2:24≤dd') {l l':List (Br Tm)} (h:F2 (kl d db) l l'):bh l→l.all (dI kd dd)=true→l'.all (dI kd dd')=true:=by
 induction h with
 |nil=>exact fun _ h=>h
 | @cons a b _ _ h3 _ ih=>
  rw [bh,j3,List.all_cons,List.all_cons,Bool.and_eq_true,Bool.and_eq_true]
  intro h g
  refine ⟨?_,ih h.2 g.2⟩
  have g1:=g.1
  unfold dI at g1 ⊢
  rw [Bool.and_eq_true,Bool.and_eq_true,decide_eq_true_eq] at g1 ⊢
  rw [h3.2.len]
  exact ⟨g1.1,DH h3.1 h.1.1.1 g1.2.1,jY h2⟩
theorem Gg {d db:Int} {l l':List (Br Tm)} (h:F2 (kl d db) l l'):F2 (fun b b':Br Tm=>F2 Up b.kids b'.kids) l l':=h.imp fun _ _ h=>h.2
theorem OJ {vb db:Int} (hvb:0≤vb) (hvb':vb≤1000000000) (t:Tm): ∀v d t',bj vb db v d t= .ok t'→Up t t':=by
 induction t using d_ with
 |h kd n nm r ks sys ih1 ih2=>
  intro v d t' h
  rw [bj] at h
  split at h
  ·cases h
  next hv=>
  obtain ⟨r',hr,h⟩:=aq h
  obtain ⟨ks',hk,h⟩:=aq h
  obtain ⟨sys',hs,h⟩:=aq h
  injection h with h;subst h
  have fk:F2 Up ks ks':=OC (fun x hx v d x'=>ih1 x hx v d x') hk
  have fs:F2 (kl d db) sys sys':=OG (fun b hb x hx v d x'=>ih2 b hb x hx v d x') hs
  refine ⟨?_, ?_,rfl,fun hok=> ?_⟩
  ·rw [av,av,Gi fk,Th (Gg fs)]
  ·rw [az,az,Gl fk,Tn (Gg fs)]
  ·obtain ⟨o1,o2,o3,o4,o5,o6,o7⟩:=hok.node
   have hok':=hok
   rw [OkT] at hok'
   obtain ⟨_,ok,os⟩:=hok'
   have hr':=DI hr o4 o5
   have o2':=o2
   unfold aI at o2'
   refine ⟨?_, ?_, ?_⟩
   ·rw [OkT]
    refine ⟨⟨o1, ?_,o3,hr'.1,hr'.2,by rw [fk.len];exact o6,by rw [fs.len];exact o7⟩,Gj fk ok,Tc fs os⟩
    unfold aI
    split
    ·next hc=>constructor<;>omega
    ·exact o2
   ·rw [RowsT,RowsT]
    rintro ⟨⟨a,b,z⟩,c,e⟩
    refine ⟨⟨n1 a hr,fun h1=> ?_,z⟩,Gk fk ok c,Te fs os e⟩
    have:=b h1
    subst this
    rw [wA] at hr;injection hr with hr;exact hr.symm
   ·intro dd dd' h1 h2
    rw [bn,bn]
    simp only [Bool.false_and,Bool.not_false,Bool.true_and,Bool.and_eq_true]
    rintro ⟨a,b,c⟩
    refine ⟨?_,Tf h1 h2 fk ok b,Tb h1 h2 fs os c⟩
    unfold dM at a ⊢
    simp only [Bool.and_eq_true,decide_eq_true_eq,fk.len,fs.len] at a ⊢
    obtain ⟨⟨a1,a2,a3,a4⟩,a5⟩:=a
    refine ⟨⟨a1, ?_,a3,a4⟩, ?_⟩
    ·rcases a2 with a2|a2
     ·exact .inl a2
     ·by_cases h1:kd=1
      ·exact .inl h1
      ·right;rw [if_neg (fun h=>h1 h.1)];exact a2
    ·by_cases c1:kd=1
     ·rw [if_pos c1] at a5 ⊢
      simp only [Bool.and_eq_true,decide_eq_true_eq] at a5 ⊢
      refine ⟨wz hr a5.1, ?_,.inl (by decide)⟩
      have:=a5.2.1
      split<;>omega
     ·rw [if_neg c1] at a5 ⊢
      by_cases c2:kd=2
      ·rw [if_pos c2] at a5 ⊢
       simp only [Bool.and_eq_true,decide_eq_true_eq] at a5 ⊢
       exact ⟨wz hr a5.1,a5.2⟩
      ·rw [if_neg c2] at a5 ⊢
       by_cases c3:kd=13∨kd=21∨kd=26
       ·rw [if_pos c3] at a5 ⊢
        rw [Bool.and_eq_true] at a5 ⊢
        exact ⟨DJ hr o4 a5.1,jY h2⟩
       ·rw [if_neg c3] at a5 ⊢
        by_cases c4:kd=14
        ·rw [if_pos c4] at a5 ⊢
         rw [Bool.and_eq_true] at a5 ⊢
         exact ⟨DH hr o4 a5.1,jY h2⟩
        ·rw [if_neg c4] at a5 ⊢
         simp only [Bool.and_eq_true,decide_eq_true_eq] at a5 ⊢
         exact ⟨Td h1 h2 fs os a5.1,wz hr a5.2⟩
theorem Nw {kd:Int} {n:Nat} (h:f8 kd=n):0≤kd:=by
 apply Classical.byContradiction
 intro h0
 unfold f8 at h
 rw [if_pos (.inl (by omega))] at h
 omega
theorem JC {bd:Bool} (t:Tm): ∀ {vars dims:Int},OkT t→bn bd vars dims t=true→RowsT t:=by
 induction t using d_ with
 |h kd n nm r ks sys ih1 ih2=>
  intro vars dims hok h
  rw [bn,Bool.and_eq_true,Bool.and_eq_true,Bool.and_eq_true] at h
  obtain ⟨_,a,b,c⟩:=h
  obtain ⟨o1,o2,o3,o4,o5,o6,o7⟩:=hok.node
  have hok':=hok
  rw [OkT] at hok'
  obtain ⟨_,ok,os⟩:=hok'
  have hkids: ∀ {l:List Tm} {i:Nat},(∀x∈l,∀ {vars dims:Int},OkT x→bn bd vars dims x=true→RowsT x)→bm l→cG bd vars dims kd i l=true→cv l:=by
   intro l
   induction l with
   |nil=>intro i _ _ _;rw [cv];trivial
   |cons t l ih=>
    intro i hl ho ha
    rw [cG,Bool.and_eq_true] at ha
    rw [bm] at ho
    rw [cv]
    exact ⟨hl t (by simp) ho.1 ha.1,ih (fun x hx=>hl x (by simp [hx])) ho.2 ha.2⟩
  rw [oG,List.all_eq_true] at c
  unfold dM at a
  simp only [Bool.and_eq_true,decide_eq_true_eq] at a
  obtain ⟨⟨a1,a2,a3,a4⟩,a5⟩:=a
  have r0: ∀ {l:List Cl},l.length=0→RF l:=fun h=>by
   have:=List.length_eq_zero_iff.1 h;subst this;exact gk
  rw [RowsT]
  have hfaces:(sys=[]∨sys.all (dI kd dims)=true)∧RF r∧(kd=1→r=[]):=by
   have nosys:da kd=0→sys=[]:=fun h=>List.length_eq_zero_iff.1 (a4 h)
   by_cases c1:kd=1
   ·rw [if_pos c1] at a5
    simp only [Bool.and_eq_true,decide_eq_true_eq] at a5
    exact ⟨.inl (nosys (by subst c1;decide)),r0 a5.1,fun _=>List.length_eq_zero_iff.1 a5.1⟩
   ·rw [if_neg c1] at a5
    by_cases c2:kd=2
    ·rw [if_pos c2] at a5
     simp only [Bool.and_eq_true,decide_eq_true_eq] at a5
     exact ⟨.inl (nosys (by subst c2;decide)),r0 a5.1,fun h=>absurd h c1⟩
    ·rw [if_neg c2] at a5
     by_cases c3:kd=13∨kd=21∨kd=26
     ·rw [if_pos c3,Bool.and_eq_true] at a5
      exact ⟨.inl (nosys (by rcases c3 with rfl|rfl|rfl<;>decide)),(gm o4).1 a5.1,fun h=>absurd h c1⟩
     ·rw [if_neg c3] at a5
      by_cases c4:kd=14
      ·rw [if_pos c4,Bool.and_eq_true] at a5
       unfold cZ at a5
       rw [Bool.and_eq_true] at a5
       exact ⟨.inl (nosys (by subst c4;decide)),(gm o4).1 a5.1.1,fun h=>absurd h c1⟩
      ·rw [if_neg c4] at a5
       simp only [Bool.and_eq_true,decide_eq_true_eq] at a5
       exact ⟨.inr a5.1,r0 a5.2,fun h=>absurd h c1⟩
  refine ⟨⟨hfaces.2.1,hfaces.2.2,Nw a1⟩,hkids (fun x hx=>ih1 x hx) ok b, ?_⟩
  rw [rowsS_iff]
  intro br hbr
  have hc:=c br hbr
  rw [List.all_eq_true] at hc
  have hob:=hok.br hbr
  refine ⟨?_,fun x hx=>ih2 br hbr x hx (hob.2 x hx) (hc x hx)⟩
  rcases hfaces.1 with h|h
  ·subst h;cases hbr
  ·have:=List.all_eq_true.1 h br hbr
   unfold dI cZ at this
   simp only [Bool.and_eq_true] at this
   exact (gm hob.1.1).1 this.2.1.1
theorem re {vb db:Int} (t:Tm): ∀ {v d e},bj vb db v d t= .error e→0<e∧e≤1000:=by
 induction t using d_ with
 |h kd n nm r ks sys ih1 ih2=>
  intro v d e h
  rw [bj] at h
  split at h
  ·injection h with h;omega
  rcases ba h with h|⟨_,_,h⟩
  ·exact DG h
  have hkids: ∀ {l:List Tm} {i:Nat},(∀x∈l,∀ {v d e},bj vb db v d x= .error e→0<e∧e≤1000)→dm vb db v d kd i l= .error e→0<e∧e≤1000:=by
   intro l
   induction l with
   |nil=>intro i _ h;rw [dm] at h;cases h
   |cons t l ih=>
    intro i hl h
    rw [dm] at h
    rcases ba h with h|⟨_,_,h⟩
    ·exact hl t (by simp) h
    ·rcases ba h with h|⟨_,_,h⟩
     ·exact ih (fun x hx=>hl x (by simp [hx])) h
     ·cases h
  have hmore: ∀ {l:List Tm},(∀x∈l,∀ {v d e},bj vb db v d x= .error e→0<e∧e≤1000)→ ∀ {e},dn vb db v d kd l= .error e→0<e∧e≤1000:=by
   intro l
   induction l with
   |nil=>intro _ e h;rw [dn] at h;cases h
   |cons t l ih=>
    intro hl e h
    rw [dn] at h
    rcases ba h with h|⟨_,_,h⟩
    ·exact hl t (by simp) h
    ·rcases ba h with h|⟨_,_,h⟩
     ·exact ih (fun x hx=>hl x (by simp [hx])) h
     ·cases h
  have hsys: ∀ {l:List (Br Tm)},(∀b∈l,∀x∈b.kids,∀ {v d e},bj vb db v d x= .error e→0<e∧e≤1000)→cX vb db v d kd l= .error e→0<e∧e≤1000:=by
   intro l
   induction l with
   |nil=>intro _ h;rw [cX] at h;cases h
   |cons b l ih=>
    intro hl h
    rw [cX] at h
    rcases ba h with h|⟨_,_,h⟩
    ·cases b with
     |mk f ks'=>
      rw [jX] at h
      rcases ba h with h|⟨_,_,h⟩
      ·exact DG h
      ·rcases ba h with h|⟨_,_,h⟩
       ·exact hmore (hl (Br.mk f ks') (by simp)) h
       ·cases h
    ·rcases ba h with h|⟨_,_,h⟩
     ·exact ih (fun b hb=>hl b (by simp [hb])) h
     ·cases h
  rcases ba h with h|⟨_,_,h⟩
  ·exact hkids (fun x hx=>ih1 x hx) h
  ·rcases ba h with h|⟨_,_,h⟩
   ·exact hsys ih2 h
   ·cases h
end Go.Proofs.YtapmagaejigpnaaGreatDoor
namespace Go.Proofs.YtapmagaejigpnaaGreatDoor
open Go PI
set_option linter.unusedVariables false
set_option linter.unusedSimpArgs false
variable {S:Type} {k:Nat}
abbrev ca:=Int→List Cl→Except Int (List Cl)
mutual
def ay (fo fa:ca) (d:Int):Tm→Except Int Tm
 | .mk kd n nm r ks sys=>bE (if kd=14 then fa d r else fo d r) fun r'=>bE (aO fo fa d kd 0 ks) fun ks'=>bE (ax fo fa d kd sys) fun sys'=> .ok (.mk kd n nm r' ks' sys')
def aO (fo fa:ca) (d kd:Int) (i:Nat):List Tm→Except Int (List Tm)
 |[]=> .ok []
 |t::l=>bE (ay fo fa (d+bU kd i) t) fun t'=>bE (aO fo fa d kd (i+1) l) fun l'=> .ok (t'::l')
def ax (fo fa:ca) (d kd:Int):List (Br Tm)→Except Int (List (Br Tm))
 |[]=> .ok []
 |b::l=>bE (cF fo fa d kd b) fun o=>bE (ax fo fa d kd l) fun l'=> .ok (o++l')
def cF (fo fa:ca) (d kd:Int):Br Tm→Except Int (List (Br Tm))
 | .mk f ks=>bE (fa d f) fun f'=>if f'.length=0 then .ok [] else bE (aS fo fa d kd ks) fun ks'=> .ok [.mk f' ks']
def aS (fo fa:ca) (d kd:Int):List Tm→Except Int (List Tm)
 |[]=> .ok []
 |t::l=>bE (ay fo fa (d+aw kd) t) fun t'=>bE (aS fo fa d kd l) fun l'=> .ok (t'::l')
end
theorem Ts {fo fa:ca} {d kd:Int} {R:Tm→Tm→Prop}: ∀ {l:List Tm} {i:Nat} {l':List Tm},(∀x∈l,∀d x',ay fo fa d x= .ok x'→R x x')→aO fo fa d kd i l= .ok l'→F2 R l l':=by
 intro l
 induction l with
 |nil=>intro i l' _ h;rw [aO] at h;injection h with h;subst h;exact .nil
 |cons t l ih=>
  intro i l' hr h
  rw [aO] at h
  obtain ⟨t',h1,h⟩:=aq h
  obtain ⟨m,h2,h⟩:=aq h
  injection h with h;subst h
  exact .cons (hr t (by simp) _ _ h1) (ih (fun x hx=>hr x (by simp [hx])) h2)
theorem Tu {fo fa:ca} {d kd:Int} {R:Tm→Tm→Prop}: ∀ {l:List Tm} {l':List Tm},(∀x∈l,∀d x',ay fo fa d x= .ok x'→R x x')→aS fo fa d kd l= .ok l'→F2 R l l':=by
 intro l
 induction l with
 |nil=>intro l' _ h;rw [aS] at h;injection h with h;subst h;exact .nil
 |cons t l ih=>
  intro l' hr h
  rw [aS] at h
  obtain ⟨t',h1,h⟩:=aq h
  obtain ⟨m,h2,h⟩:=aq h
  injection h with h;subst h
  exact .cons (hr t (by simp) _ _ h1) (ih (fun x hx=>hr x (by simp [hx])) h2)
def Wk (x x':Tm):Prop:=av x'≤av x∧az x'≤az x∧x'.kind=x.kind∧(OkT x→RowsT x→OkT x'∧RowsT x')
theorem GD {l l':List Tm} (h:F2 Wk l l'):bo l'≤bo l:=by
 induction h with
 |nil=>exact Nat.le_refl _
 |cons h1 _ ih=>rw [bo,bo];have:=h1.1;omega
theorem GF {l l':List Tm} (h:F2 Wk l l'):aE l'≤aE l:=by
 induction h with
 |nil=>exact Nat.le_refl _
 |cons h1 _ ih=>rw [aE,aE];have:=h1.2.1;omega
theorem GE {l l':List Tm} (h:F2 Wk l l'):bm l→cv l→bm l'∧cv l':=by
 induction h with
 |nil=>exact fun h g=>⟨h,g⟩
 |cons h1 _ ih=>
  rw [bm,bm,cv,cv]
  intro h g
  have a:=h1.2.2.2 h.1 g.1
  have b:=ih h.2 g.2
  exact ⟨⟨a.1,b.1⟩,a.2,b.2⟩
theorem Tw {fo fa:ca} {d kd:Int} (hfa: ∀d f g,RF f→fa d f= .ok g→RF g): ∀ {l l':List (Br Tm)},(∀b∈l,∀x∈b.kids,∀d x',ay fo fa d x= .ok x'→Wk x x')→ax fo fa d kd l= .ok l'→
  bu l'≤bu l∧aD l'≤aD l∧l'.length≤l.length∧(bh l→dh l→bh l'∧dh l'):=by
 intro l
 induction l with
 |nil=>intro l' _ h;rw [ax] at h;injection h with h;subst h;exact ⟨Nat.le_refl _,Nat.le_refl _,Nat.le_refl _,fun h g=>⟨h,g⟩⟩
 |cons b l ih=>
  intro l' hr h
  rw [ax] at h
  obtain ⟨o,h1,h⟩:=aq h
  obtain ⟨m,h2,h⟩:=aq h
  injection h with h;subst h
  obtain ⟨i1,i2,i3,i4⟩:=ih (fun b hb=>hr b (by simp [hb])) h2
  cases b with
  |mk f ks=>
   rw [cF] at h1
   obtain ⟨f',h3,h1⟩:=aq h1
   split at h1
   ·injection h1 with h1;subst h1
    refine ⟨?_, ?_, ?_,fun ho hg=> ?_⟩
    ·rw [List.nil_append,bu];omega
    ·rw [List.nil_append,aD];omega
    ·rw [List.nil_append,List.length_cons];omega
    ·rw [bh] at ho;rw [dh] at hg
     exact i4 ho.2 hg.2
   ·obtain ⟨ks',h4,h1⟩:=aq h1
    injection h1 with h1;subst h1
    have f2:F2 Wk ks ks':=Tu (hr ⟨f,ks⟩ (by simp)) h4
    have hd:=GD f2
    have hs:=GF f2
    refine ⟨?_, ?_, ?_,fun ho hg=> ?_⟩
    ·show bu (Br.mk f' ks'::m)≤_
     rw [bu,bu,jE,jE];omega
    ·show aD (Br.mk f' ks'::m)≤_
     rw [aD,aD,gq,gq];omega
    ·simp only [List.length_append,List.length_cons,List.length_nil];omega
    ·rw [bh,hJ] at ho;rw [dh,jq] at hg
     have a:=GE f2 ho.1.2 hg.1.2
     have b:=i4 ho.2 hg.2
     have c:=hfa d f f' hg.1.1 h3
     show bh (Br.mk f' ks'::m)∧dh (Br.mk f' ks'::m)
     rw [bh,hJ,dh,jq]
     exact ⟨⟨⟨⟨c.2,by have:=c.len;omega,by rw [f2.len];exact ho.1.1.2.2⟩,a.1⟩,b.1⟩,⟨c,a.2⟩,b.2⟩
theorem Gu {fo fa:ca} (hfo: ∀d f g,RF f→fo d f= .ok g→RF g) (hfa: ∀d f g,RF f→fa d f= .ok g→RF g) (h0: ∀d,fo d []= .ok []) (t:Tm): ∀d t',ay fo fa d t= .ok t'→Wk t t':=by
 induction t using d_ with
 |h kd n nm r ks sys ih1 ih2=>
  intro d t' h
  rw [ay] at h
  obtain ⟨r',hr,h⟩:=aq h
  obtain ⟨ks',hk,h⟩:=aq h
  obtain ⟨sys',hs,h⟩:=aq h
  injection h with h;subst h
  have fk:F2 Wk ks ks':=Ts ih1 hk
  obtain ⟨s1,s2,s3,s4⟩:=Tw hfa ih2 hs
  refine ⟨?_, ?_,rfl,fun hok hro=> ?_⟩
  ·rw [av,av];have:=GD fk;omega
  ·rw [az,az];have:=GF fk;omega
  ·rw [OkT] at hok;rw [RowsT] at hro
   obtain ⟨⟨o1,o2,o3,o4,o5,o6,o7⟩,ok,os⟩:=hok
   obtain ⟨⟨a,b,z⟩,c,e⟩:=hro
   have hk:=GE fk ok c
   have hs:=s4 os e
   have hrf:RF r':=by
    split at hr
    ·exact hfa d r r' a hr
    ·exact hfo d r r' a hr
   rw [OkT,RowsT]
   refine ⟨⟨⟨o1,o2,o3,hrf.2,by have:=hrf.len;omega,by rw [fk.len];exact o6,by omega⟩,hk.1,hs.1⟩,⟨hrf,fun h1=> ?_,z⟩,hk.2,hs.2⟩
   rw [if_neg (by omega),b h1,h0] at hr
   injection hr with hr;exact hr.symm
section
variable {fo fa:ca} {G:Int→List Cl→List Cl}
def ce (f:ca) (G:Int→List Cl→List Cl):ca:=fun d l=>bE (f d l) fun m=> .ok (G d m)
def ap (G:Int→List Cl→List Cl):ca:=fun d l=> .ok (G d l)
theorem sH (t:Tm): ∀d,∃t',ay (ap G) (ap G) d t= .ok t':=by
 induction t using d_ with
 |h kd n nm r ks sys ih1 ih2=>
  intro d
  have hk: ∀ {l:List Tm} {i:Nat},(∀x∈l,∀d,∃t',ay (ap G) (ap G) d x= .ok t')→ ∃l',aO (ap G) (ap G) d kd i l= .ok l':=by
   intro l
   induction l with
   |nil=>intro i _;exact ⟨[],by rw [aO]⟩
   |cons t l ih=>
    intro i h
    obtain ⟨t',e⟩:=h t (by simp) (d+bU kd i)
    obtain ⟨l',e'⟩:=ih (i:=i+1) fun x hx=>h x (by simp [hx])
    exact ⟨t'::l',by rw [aO,e,ak,e',ak]⟩
  have hm: ∀ {l:List Tm},(∀x∈l,∀d,∃t',ay (ap G) (ap G) d x= .ok t')→ ∃l',aS (ap G) (ap G) d kd l= .ok l':=by
   intro l
   induction l with
   |nil=>intro _;exact ⟨[],by rw [aS]⟩
   |cons t l ih=>
    intro h
    obtain ⟨t',e⟩:=h t (by simp) (d+aw kd)
    obtain ⟨l',e'⟩:=ih fun x hx=>h x (by simp [hx])
    exact ⟨t'::l',by rw [aS,e,ak,e',ak]⟩
  have hs: ∀ {l:List (Br Tm)},(∀b∈l,∀x∈b.kids,∀d,∃t',ay (ap G) (ap G) d x= .ok t')→ ∃l',ax (ap G) (ap G) d kd l= .ok l':=by
   intro l
   induction l with
   |nil=>intro _;exact ⟨[],by rw [ax]⟩
   |cons b l ih=>
    intro h
    obtain ⟨l',e'⟩:=ih fun b hb=>h b (by simp [hb])
    cases b with
    |mk f ks=>
     obtain ⟨ks',e⟩:=hm (h ⟨f,ks⟩ (by simp))
     have: ∃o,cF (ap G) (ap G) d kd (.mk f ks)= .ok o:=by
      rw [cF,ap,ak]
      split
      ·exact ⟨_,rfl⟩
      ·exact ⟨_,by rw [e,ak]⟩
     obtain ⟨o,e3⟩:=this
     exact ⟨o++l',by rw [ax,e3,ak,e',ak]⟩
  obtain ⟨ks',ek⟩:=hk (i:=0) ih1
  obtain ⟨sys',es⟩:=hs ih2
  refine ⟨.mk kd n nm (G d r) ks' sys', ?_⟩
  have:(if kd=14 then ap G d r else ap G d r)= .ok (G d r):=by split<;>rfl
  rw [ay,this,ak,ek,ak,es,ak]
theorem Tt (d kd:Int): ∀ (l:List Tm) (i:Nat),∃l',aO (ap G) (ap G) d kd i l= .ok l':=by
 intro l
 induction l with
 |nil=>intro i;exact ⟨[],by rw [aO]⟩
 |cons t l ih=>
  intro i
  obtain ⟨t',e⟩:=sH (G:=G) t (d+bU kd i)
  obtain ⟨l',e'⟩:=ih (i+1)
  exact ⟨t'::l',by rw [aO,e,ak,e',ak]⟩
theorem Gr (d kd:Int): ∀ (l:List Tm),∃l',aS (ap G) (ap G) d kd l= .ok l':=by
 intro l
 induction l with
 |nil=>exact ⟨[],by rw [aS]⟩
 |cons t l ih=>
  obtain ⟨t',e⟩:=sH (G:=G) t (d+aw kd)
  obtain ⟨l',e'⟩:=ih
  exact ⟨t'::l',by rw [aS,e,ak,e',ak]⟩
theorem Tr (d kd:Int) (b:Br Tm): ∃o,cF (ap G) (ap G) d kd b= .ok o:=by
 cases b with
 |mk f ks=>
  obtain ⟨ks',e⟩:=Gr (G:=G) d kd ks
  rw [cF,ap,ak]
  split
  ·exact ⟨_,rfl⟩
  ·exact ⟨_,by rw [e,ak]⟩
theorem Tv (d kd:Int): ∀ (l:List (Br Tm)),∃l',ax (ap G) (ap G) d kd l= .ok l':=by
 intro l
 induction l with
 |nil=>exact ⟨[],by rw [ax]⟩
 |cons b l ih=>
  obtain ⟨l',e'⟩:=ih
  obtain ⟨o,e⟩:=Tr (G:=G) d kd b
  exact ⟨o++l',by rw [ax,e,ak,e',ak]⟩
theorem ym (d kd:Int): ∀ (a b:List (Br Tm)),ax fo fa d kd (a++b)=bE (ax fo fa d kd a) fun a'=>bE (ax fo fa d kd b) fun b'=> .ok (a'++b'):=by
 intro a
 induction a with
 |nil=>intro b;rw [List.nil_append,ax,ak];cases ax fo fa d kd b<;>rfl
 |cons x a ih=>
  intro b
  rw [List.cons_append,ax,ax,ih]
  cases cF fo fa d kd x with
  |error e=>rfl
  |ok o=>
   rw [ak,ak]
   cases ax fo fa d kd a with
   |error e=>rfl
   |ok a'=>
    rw [ak,ak]
    cases ax fo fa d kd b with
    |error e=>rfl
    |ok b'=>simp only [ak,List.append_assoc]
theorem TB (hfa: ∀d f g,RF f→fa d f= .ok g→RF g) (hG: ∀d f,RF f→((G d f).length=0↔f.length=0)) (t:Tm): ∀d,RowsT t→bE (ay fo fa d t) (ay (ap G) (ap G) d)=ay (ce fo G) (ce fa G) d t:=by
 induction t using d_ with
 |h kd n nm r ks sys ih1 ih2=>
  intro d hrows
  rw [RowsT] at hrows
  obtain ⟨_,hrk,hrs⟩:=hrows
  have hk: ∀ {l:List Tm} {i:Nat},(∀x∈l,∀d,RowsT x→bE (ay fo fa d x) (ay (ap G) (ap G) d)=ay (ce fo G) (ce fa G) d x)→cv l→bE (aO fo fa d kd i l) (aO (ap G) (ap G) d kd i)=aO (ce fo G) (ce fa G) d kd i l:=by
   intro l
   induction l with
   |nil=>intro i _ _;rw [aO,aO,ak,aO]
   |cons t l ih=>
    intro i h hr
    rw [cv] at hr
    have h1:=h t (by simp) (d+bU kd i) hr.1
    have h2:=ih (i:=i+1) (fun x hx=>h x (by simp [hx])) hr.2
    rw [aO,aO,←h1,←h2]
    cases ay fo fa (d+bU kd i) t with
    |error e=>rfl
    |ok t'=>
     rw [ak,ak]
     obtain ⟨t'',e⟩:=sH (G:=G) t' (d+bU kd i)
     rw [e,ak]
     cases aO fo fa d kd (i+1) l with
     |error e=>rfl
     |ok l'=>
      rw [ak,ak,ak,aO,e,ak]
  have hm: ∀ {l:List Tm},(∀x∈l,∀d,RowsT x→bE (ay fo fa d x) (ay (ap G) (ap G) d)=ay (ce fo G) (ce fa G) d x)→cv l→bE (aS fo fa d kd l) (aS (ap G) (ap G) d kd)=aS (ce fo G) (ce fa G) d kd l:=by
   intro l
   induction l with
   |nil=>intro _ _;rw [aS,aS,ak,aS]
   |cons t l ih=>
    intro h hr
    rw [cv] at hr
    have h1:=h t (by simp) (d+aw kd) hr.1
    have h2:=ih (fun x hx=>h x (by simp [hx])) hr.2
    rw [aS,aS,←h1,←h2]
    cases ay fo fa (d+aw kd) t with
    |error e=>rfl
    |ok t'=>
     rw [ak,ak]
     obtain ⟨t'',e⟩:=sH (G:=G) t' (d+aw kd)
     rw [e,ak]
     cases aS fo fa d kd l with
     |error e=>rfl
     |ok l'=>
      rw [ak,ak,ak,aS,e,ak]
  have hb: ∀ {b:Br Tm},(∀x∈b.kids,∀d,RowsT x→bE (ay fo fa d x) (ay (ap G) (ap G) d)=ay (ce fo G) (ce fa G) d x)→jq b→bE (cF fo fa d kd b) (ax (ap G) (ap G) d kd)=cF (ce fo G) (ce fa G) d kd b:=by
   intro b h hr
   cases b with
   |mk f ks'=>
    rw [jq] at hr
    have h2:=hm h hr.2
    rw [cF,cF]
    show _=bE (bE (fa d f) fun m=> .ok (G d m)) _
    cases hf:fa d f with
    |error e=>rfl
    |ok f'=>
     rw [ak,ak,ak]
     have hg:=hG d f' (hfa d f f' hr.1 hf)
     by_cases h0:f'.length=0
     ·rw [if_pos h0,if_pos (hg.2 h0),ak,ax]
     ·rw [if_neg h0,if_neg (fun h=>h0 (hg.1 h)),←h2]
      cases aS fo fa d kd ks' with
      |error e=>rfl
      |ok l'=>
       rw [ak,ak,ak,ax,cF]
       show bE (bE (.ok (G d f')) _) _=_
       rw [ak,if_neg (fun h=>h0 (hg.1 h))]
       obtain ⟨l'',e⟩:=Gr (G:=G) d kd l'
       rw [e,ak,ak,ax,ak];rfl
  have hs: ∀ {l:List (Br Tm)},(∀b∈l,∀x∈b.kids,∀d,RowsT x→bE (ay fo fa d x) (ay (ap G) (ap G) d)=ay (ce fo G) (ce fa G) d x)→dh l→bE (ax fo fa d kd l) (ax (ap G) (ap G) d kd)=ax (ce fo G) (ce fa G) d kd l:=by
   intro l
   induction l with
   |nil=>intro _ _;rw [ax,ax,ak,ax]
   |cons b l ih=>
    intro h hr
    rw [dh] at hr
    have h1:=hb (h b (by simp)) hr.1
    have h2:=ih (fun b hb=>h b (by simp [hb])) hr.2
    rw [ax,ax,←h1,←h2]
    cases cF fo fa d kd b with
    |error e=>rfl
    |ok o=>
     rw [ak,ak]
     obtain ⟨o',e⟩:=Tv (G:=G) d kd o
     rw [e,ak]
     cases ax fo fa d kd l with
     |error e=>rfl
     |ok l'=>
      rw [ak,ak,ak,ym,e,ak]
  rw [ay,ay,←hk (i:=0) ih1 hrk,←hs ih2 hrs]
  have hrow:(if kd=14 then ce fa G d r else ce fo G d r)=bE (if kd=14 then fa d r else fo d r) fun m=> .ok (G d m):=by split<;>rfl
  rw [hrow]
  cases (if kd=14 then fa d r else fo d r) with
  |error e=>rfl
  |ok r'=>
   rw [ak,ak,ak]
   cases aO fo fa d kd 0 ks with
   |error e=>rfl
   |ok ks'=>
    rw [ak,ak]
    obtain ⟨ks'',ek⟩:=Tt (G:=G) d kd ks' 0
    rw [ek,ak]
    cases ax fo fa d kd sys with
    |error e=>rfl
    |ok sys'=>
     rw [ak,ak,ak,ay]
     have:(if kd=14 then ap G d r' else ap G d r')= .ok (G d r'):=by split<;>rfl
     rw [this,ak,ek,ak]
end
end Go.Proofs.YtapmagaejigpnaaGreatDoor
namespace Go.Proofs.YtapmagaejigpnaaGreatDoor
open Go PI
set_option linter.unusedVariables false
set_option linter.unusedSimpArgs false
set_option maxRecDepth 20000
variable {S:Type} {k:Nat}
theorem Nx (kd:Int):(kd<0∨kd>28)∨(∃n:Nat,n<29∧kd=n):=by
 by_cases h:kd<0∨kd>28
 ·exact .inl h
 ·exact .inr ⟨kd.toNat,by omega,by omega⟩
theorem Q_ (kd:Int) (ret:Int→Option S):qf k kd ret=ret (f8 kd):=by
 simp only [qf,FU]
 rcases Nx kd with h|⟨n,hn,rfl⟩
 ·simp only [d8,beq_iff_eq]
  unfold f8
  rw [if_pos h]
  repeat rw [if_neg (by omega)]
 ·unfold f8
  rw [if_neg (by omega),Int.toNat_natCast]
  match n,hn with
  |0,_=>rfl
  |1,_=>rfl
  |2,_=>rfl
  |3,_=>rfl
  |4,_=>rfl
  |5,_=>rfl
  |6,_=>rfl
  |7,_=>rfl
  |8,_=>rfl
  |9,_=>rfl
  |10,_=>rfl
  |11,_=>rfl
  |12,_=>rfl
  |13,_=>rfl
  |14,_=>rfl
  |15,_=>rfl
  |16,_=>rfl
  |17,_=>rfl
  |18,_=>rfl
  |19,_=>rfl
  |20,_=>rfl
  |21,_=>rfl
  |22,_=>rfl
  |23,_=>rfl
  |24,_=>rfl
  |25,_=>rfl
  |26,_=>rfl
  |27,_=>rfl
  |28,_=>rfl
  |n+29,h=>exact absurd h (by omega)
theorem lM (kd i:Int) (ret:Int×Int→Option S):ij k kd i ret=ret (fO kd i,bU kd i):=by
 simp only [ij,FS,d8,beq_iff_eq]
 unfold fO bU
 repeat' split
 all_goals first|rfl|(exfalso;omega)
theorem D9 (kd:Int) (ret:Int→Option S):il k kd ret=ret (da kd):=by
 simp only [il,FV,d8,beq_iff_eq]
 unfold da
 repeat' split
 all_goals first|rfl|(exfalso;omega)
theorem yC (s t:ByteArray):(s==t)=decide (s=t):=by
 obtain ⟨a⟩:=s;obtain ⟨b⟩:=t
 show (a==b)=_
 rw [Bool.eq_iff_iff,beq_iff_eq,decide_eq_true_eq]
 constructor
 ·rintro rfl;rfl
 ·intro h;injection h
theorem BI (s:ByteArray):(s==ByteArray.empty)=decide (s.size=0):=by
 rw [yC,Bool.eq_iff_iff,decide_eq_true_eq,decide_eq_true_eq]
 constructor
 ·rintro rfl;rfl
 ·intro h
  obtain ⟨⟨l⟩⟩:=s
  have:l.length=0:=h
  rw [List.length_eq_zero_iff] at this
  subst this;rfl
theorem om (s:ByteArray):(s.size:Int)=(s.data.toList.length:Int):=by
 obtain ⟨⟨l⟩⟩:=s;rfl
def gb (p:List UInt8) (r:List UInt8):Bool:=match p with
 |[]=>nI r
 |_::_=>r.all fun d=>iQ d||m7 d
theorem O2 (p:List UInt8) (x:UInt8) (r:List UInt8):gb p (x::r)=((iQ x||(decide (p≠[])&&m7 x))&&gb (p++[x]) r):=by
 cases p with
 |nil=>simp [gb,nI]
 |cons c l=>simp [gb]
theorem O3 {p:List UInt8}:gb p []=decide (p.length≠0):=by
 cases p with
 |nil=>rfl
 |cons c l=>simp [gb]
theorem Oa (hk:Fu k) (ret:Bool→Option S) {s:ByteArray} (hs:s.size<2147483648):
  ∀ (r p:List UInt8) (m:Nat),s.data.toList=p++r→r.length<m→jW k ret s m (p.length:Int)=ret (gb p r):=by
 obtain ⟨q,rfl⟩: ∃q,k=q+1:=⟨k-1,by have:4294967296≤k:=hk;omega⟩
 have hs':s.data.toList.length<2147483648:=by have:=om s;omega
 intro r
 induction r with
 |nil=>
  intro p m h hm
  obtain ⟨m,rfl,hm'⟩:=ao hm
  simp only [jW,mA,om,aM h,ac,BI,O3]
  have:s.size=p.length:=by have:=om s;rw [h,List.append_nil] at this;omega
  rw [this]
  by_cases h0:p.length=0<;>simp [h0]
 |cons x r ih=>
  intro p m h hm
  obtain ⟨m,rfl,hm'⟩:=ao hm
  obtain ⟨e1,e2,e3,e4⟩:=aJ h (by omega)
  have hi:=ih (p++[x]) m e4 hm'
  rw [O2]
  simp only [jW,mA,om,e1,ag,e2,Option.bind_some,bW,qV,tz,e3,hi]
  have hl: ∀b:Bool,b=iQ x→ab (!b) (ab (((p.length:Nat):Int)==0) (ret false) (if ((x.toNat:Nat):Int)<48 then ret false else if ((x.toNat:Nat):Int)>57 then ret false else ret (gb (p++[x]) r))) (ret (gb (p++[x]) r))=ret ((iQ x||(decide (p≠[])&&m7 x))&&gb (p++[x]) r):=by
   rintro b rfl
   cases iQ x with
   |true=>rw [Bool.not_true,ac];simp
   |false=>
    rw [Bool.not_false,ag,d8]
    by_cases hp:p=[]
    ·subst hp;simp
    ·have h0: ¬ (((p.length:Nat):Int)==0)=true:=by
      have:0<p.length:=List.length_pos_iff.2 hp
      simp;exact hp
     rw [if_neg h0,decide_eq_true hp]
     unfold m7
     by_cases c1:x.toNat<48
     ·rw [if_pos (by omega),decide_eq_false (by omega)];simp
     ·rw [if_neg (by omega),decide_eq_true (by omega)]
      by_cases c2:x.toNat>57
      ·rw [if_pos (by omega),decide_eq_false (by omega)];simp
      ·rw [if_neg (by omega),decide_eq_true (by omega)];simp
  have hb: ∀n:Nat,(((n:Nat):Int)==95)=decide (n=95):=fun n=>by
   rw [Bool.eq_iff_iff];simp;omega
  have hlt:iQ x=(decide (97≤x.toNat)&&decide (x.toNat≤122)||decide (65≤x.toNat)&&decide (x.toNat≤90)||decide (x.toNat=95)):=rfl
  by_cases c1:97≤x.toNat
  ·rw [if_pos (show ((x.toNat:Nat):Int)≥97 by omega)]
   by_cases c2:x.toNat≤122
   ·rw [if_pos (by omega)]
    exact hl true (by rw [hlt,decide_eq_true c1,decide_eq_true c2];rfl)
   ·rw [if_neg (by omega),if_pos (by omega),if_neg (by omega),hb]
    exact hl _ (by rw [hlt,decide_eq_false c2,decide_eq_false (show ¬x.toNat≤90 by omega)];simp)
  ·rw [if_neg (show ¬ ((x.toNat:Nat):Int)≥97 by omega)]
   by_cases c3:65≤x.toNat
   ·rw [if_pos (show ((x.toNat:Nat):Int)≥65 by omega)]
    by_cases c4:x.toNat≤90
    ·rw [if_pos (by omega)]
     exact hl true (by rw [hlt,decide_eq_true c3,decide_eq_true c4];simp)
    ·rw [if_neg (by omega),hb]
     exact hl _ (by rw [hlt,decide_eq_false c1,decide_eq_false c4];simp)
   ·rw [if_neg (show ¬ ((x.toNat:Nat):Int)≥65 by omega),hb]
    exact hl _ (by rw [hlt,decide_eq_false c1,decide_eq_false c3];simp)
theorem RG (hk:Fu k) {s:ByteArray} (hs:s.size<2147483648) (ret:Bool→Option S):qi k s ret=ret (nI s.data.toList):=by
 simp only [qi,xY]
 have:=Oa hk ret hs s.data.toList [] k rfl (by have:=om s;have:4294967296≤k:=hk;omega)
 exact this
end Go.Proofs.YtapmagaejigpnaaGreatDoor
namespace Go.Proofs.YtapmagaejigpnaaGreatDoor
open Go PI
set_option linter.unusedVariables false
set_option linter.unusedSimpArgs false
set_option maxRecDepth 20000
variable {S:Type} {k:Nat}
theorem qY (n:Nat):(((n:Nat):Int)==0)=decide (n=0):=by rw [Bool.eq_iff_iff];simp
theorem Oe (hk:Fu k) (ret:Bool→Option S) {t:Tm} {dims:Int} (hd:0≤dims) (hd':dims<9223372036854775808) (hs: ∀b∈t.sys,aj b.face∧b.face.length<1073741824) (hlen:t.sys.length<1073741824):
  ∀ (r p:List (Br Tm)) (m:Nat),t.sys=p++r→r.length<m→gT k ret t dims m (p.length:Int)=ret (r.all (dI t.kind dims)&&decide (t.r.length=0)):=by
 intro r
 induction r with
 |nil=>
  intro p m h hm
  obtain ⟨m,rfl,hm'⟩:=ao hm
  simp only [gT,pu,aM h,ac,qY,List.all_nil,Bool.true_and]
 |cons x r ih=>
  intro p m h hm
  obtain ⟨m,rfl,hm'⟩:=ao hm
  obtain ⟨e1,e2,e3,e4⟩:=aJ h (by omega)
  have hx:=hs x (by rw [h];simp)
  have hb:((x.kids.length:Int)==da t.kind)=decide ((x.kids.length:Int)=da t.kind):=by rw [Bool.eq_iff_iff];simp
  simp only [gT,pu,e1,ag,e2,Option.bind_some,am hk,D9,wL hk hx.1 (show x.face.length<2147483648 by omega),Er hk hx.1 (show x.face.length<4294967296 by omega) hd hd',e3,ih (p++[x]) m e4 hm',List.all_cons,hb]
  have:dI t.kind dims x=(decide ((x.kids.length:Int)=da t.kind)&&(cZ x.face&&eV x.face dims)):=rfl
  rw [this]
  cases decide ((x.kids.length:Int)=da t.kind) with
  |false=>rw [Bool.not_false,ag];rfl
  |true=>
   rw [Bool.not_true,ac]
   cases cZ x.face with
   |false=>rw [Bool.not_false,ag];rfl
   |true=>
    rw [Bool.not_true,ac]
    cases eV x.face dims with
    |false=>rw [Bool.not_false,ag];rfl
    |true=>rw [Bool.not_true,ac];rfl
theorem Es {S:Type} (b c:Bool) (ret:Bool→Option S):ab b (ret c) (ret false)=ret (b&&c):=by
 cases b<;>rfl
def j6 (vars dims:Int) (t:Tm):Bool:=
 if t.kind=1 then decide (t.r.length=0)&&(decide (0≤t.n)&&decide (vars<0∨t.n<vars))
   else if t.kind=2 then decide (t.r.length=0)&&nI t.name.data.toList
   else if t.kind=13∨t.kind=21∨t.kind=26 then be t.r&&eV t.r dims
   else if t.kind=14 then cZ t.r&&eV t.r dims
   else t.sys.all (dI t.kind dims)&&decide (t.r.length=0)
theorem PO (vars dims:Int) (t:Tm):dM vars dims t=((decide (f8 t.kind=t.kids.length)&&(decide (t.kind=1∨t.n=0)&&(decide (t.kind=2∨t.name.size=0)&&decide (da t.kind=0→t.sys.length=0))))&&j6 vars dims t):=by
 cases t;rfl
def Jt (t:Tm):Prop:=aI t.kind∧aI t.n∧t.name.size<1073741824∧aj t.r∧t.r.length<1073741824∧t.kids.length<1073741824∧t.sys.length<1073741824
theorem OkT.no {t:Tm} (h:OkT t):Jt t:=by cases t;exact h.node
theorem OkT.ki {t x:Tm} (h:OkT t) (hx:x∈t.kids):OkT x:=by cases t;exact h.kid hx
theorem OkT.bi {t:Tm} {b:Br Tm} (h:OkT t) (hb:b∈t.sys):(aj b.face∧b.face.length<1073741824∧b.kids.length<1073741824)∧ ∀t∈b.kids,OkT t:=by cases t;exact h.br hb
theorem RN (hk:Fu k) {t:Tm} (ht:OkT t) {vars dims:Int} (hd:0≤dims) (hd':dims<9223372036854775808) (ret:Bool→Option S):qW k ret t vars dims k=ret (j6 vars dims t):=by
 obtain ⟨o1,o2,o3,o4,o5,o6,o7⟩:=ht.no
 have hb:=fun b hb=>(ht.bi (b:=b) hb).1
 obtain ⟨q,hq⟩: ∃q,k=q+1:=⟨k-1,by have:4294967296≤k:=hk;omega⟩
 have: ∀j,j=q+1→qW k ret t vars dims j=mB k ret t vars dims (fun v109=>gT k ret t dims k v109):=by rintro j rfl;rfl
 rw [this k hq]
 have hl:=Oe hk ret hd hd' (fun b h=>⟨(hb b h).1,(hb b h).2.1⟩) o7 t.sys [] k rfl (by have:4294967296≤k:=hk;omega)
 have hl:gT k ret t dims k 0=_:=hl
 simp only [mB,am hk,RG hk (show t.name.size<2147483648 by omega),lO hk o4 (show t.r.length<2147483648 by omega),wL hk o4 (show t.r.length<2147483648 by omega),Er hk o4 (show t.r.length<4294967296 by omega) hd hd',hl,qY,Es]
 have hv:ab (decide (t.n≥0)) (ab (decide (vars<0)) (ret true) (ret (decide (t.n<vars)))) (ret false)=ret (decide (0≤t.n)&&decide (vars<0∨t.n<vars)):=by
  rw [bW,bW]
  by_cases h1:t.n≥0
  ·rw [if_pos h1,decide_eq_true (show 0≤t.n from h1),Bool.true_and]
   by_cases h2:vars<0
   ·rw [if_pos h2,decide_eq_true (.inl h2)]
   ·rw [if_neg h2];congr 1;rw [decide_eq_decide];omega
  ·rw [if_neg h1,decide_eq_false (show ¬0≤t.n from h1)];rfl
 rw [hv,Es]
 simp only [d8,beq_iff_eq]
 unfold j6
 by_cases c1:t.kind=1
 ·rw [if_pos c1,if_pos c1]
 ·rw [if_neg c1,if_neg c1]
  by_cases c2:t.kind=2
  ·rw [if_pos c2,if_pos c2]
  ·rw [if_neg c2,if_neg c2]
   by_cases c3:t.kind=13
   ·rw [if_pos c3,if_pos (.inl c3)]
   ·rw [if_neg c3]
    by_cases c4:t.kind=21
    ·rw [if_pos c4,if_pos (.inr (.inl c4))]
    ·rw [if_neg c4]
     by_cases c5:t.kind=26
     ·rw [if_pos c5,if_pos (.inr (.inr c5))]
     ·rw [if_neg c5,if_neg (show ¬ (t.kind=13∨t.kind=21∨t.kind=26) by omega)]
      by_cases c6:t.kind=14
      ·rw [if_pos c6,if_pos c6]
      ·rw [if_neg c6,if_neg c6]
theorem RM (hk:Fu k) {t:Tm} (ht:OkT t) {vars dims:Int} (hd:0≤dims) (hd':dims<9223372036854775808) (ret:Bool→Option S):mX k t vars dims ret=ret (dM vars dims t):=by
 have hq:(f8 t.kind==(t.kids.length:Int))=decide (f8 t.kind=t.kids.length):=by rw [Bool.eq_iff_iff];simp
 have hp:(da t.kind==0)=decide (da t.kind=0):=bP _
 simp only [mX,xZ,am hk,Q_,D9,RN hk ht hd hd',BI,hq,hp,bP,PO]
 have hsy:ab (decide (da t.kind=0)) (ab (decide (((t.sys.length:Nat):Int)>0)) (ret false) (ret (j6 vars dims t))) (ret (j6 vars dims t))=ret (decide (da t.kind=0→t.sys.length=0)&&j6 vars dims t):=by
  rw [bW,bW]
  by_cases h1:da t.kind=0
  ·rw [if_pos h1]
   by_cases h2:t.sys.length=0
   ·rw [if_neg (by omega),decide_eq_true (fun _=>h2)];rfl
   ·rw [if_pos (by omega),decide_eq_false (fun h=>h2 (h h1))];rfl
  ·rw [if_neg h1,decide_eq_true (fun h=>absurd h h1)];rfl
 simp only [hsy]
 have hk1: ∀n:Int,(t.kind==n)=decide (t.kind=n):=fun n=>by rw [Bool.eq_iff_iff];simp
 rw [hk1,hk1]
 generalize decide (da t.kind=0→t.sys.length=0)=P
 generalize j6 vars dims t=Q
 cases decide (f8 t.kind=t.kids.length) with
 |false=>rw [Bool.not_false,ag];rfl
 |true=>
  rw [Bool.not_true,ac,Bool.true_and]
  by_cases c1:t.kind=1
  ·rw [decide_eq_true c1,Bool.not_true,ac,decide_eq_true (p:=t.kind=1∨t.n=0) (.inl c1),Bool.true_and]
   by_cases c2:t.kind=2
   ·omega
   ·rw [decide_eq_false c2,Bool.not_false,ag]
    by_cases c3:t.name.size=0
    ·rw [decide_eq_true c3,Bool.not_true,ac,decide_eq_true (p:=t.kind=2∨t.name.size=0) (.inr c3),Bool.true_and]
    ·rw [decide_eq_false c3,Bool.not_false,ag,decide_eq_false (p:=t.kind=2∨t.name.size=0) (by omega)];rfl
  ·rw [decide_eq_false c1,Bool.not_false,ag]
   by_cases c4:t.n=0
   ·rw [decide_eq_true c4,Bool.not_true,ac,decide_eq_true (p:=t.kind=1∨t.n=0) (.inr c4),Bool.true_and]
    by_cases c2:t.kind=2
    ·rw [decide_eq_true c2,Bool.not_true,ac,decide_eq_true (p:=t.kind=2∨t.name.size=0) (.inl c2),Bool.true_and]
    ·rw [decide_eq_false c2,Bool.not_false,ag]
     by_cases c3:t.name.size=0
     ·rw [decide_eq_true c3,Bool.not_true,ac,decide_eq_true (p:=t.kind=2∨t.name.size=0) (.inr c3),Bool.true_and]
     ·rw [decide_eq_false c3,Bool.not_false,ag,decide_eq_false (p:=t.kind=2∨t.name.size=0) (by omega)];rfl
   ·rw [decide_eq_false c4,Bool.not_false,ag,decide_eq_false (p:=t.kind=1∨t.n=0) (by omega)];rfl
end Go.Proofs.YtapmagaejigpnaaGreatDoor
namespace Go.Proofs.YtapmagaejigpnaaGreatDoor
open Go PI
set_option linter.unusedVariables false
set_option linter.unusedSimpArgs false
set_option maxRecDepth 20000
variable {S:Type} {k:Nat}
abbrev Fd (k n:Nat):Prop:=4294967296+n≤k
theorem Fd.fu {n:Nat} (h:Fd k n):Fu k:=by have:4294967296+n≤k:=h;show 4294967296≤k;omega
theorem Fd.pos {n:Nat} (h:Fd k n): ∃q,k=q+1∧ ∀j,j+1≤n→Fd q j:=⟨k-1,by have:4294967296+n≤k:=h;omega,fun j hj=>by have:4294967296+n≤k:=h;show 4294967296+j≤k-1;omega⟩
theorem Fd.pos' {n:Nat} (h:Fd k n) (hn:1≤n): ∃q,k=q+1∧Fu q∧ ∀j,j+1≤n→Fd q j:=⟨k-1,by have:4294967296+n≤k:=h;omega,by have:4294967296+n≤k:=h;show 4294967296≤k-1;omega,fun j hj=>by have:4294967296+n≤k:=h;show 4294967296+j≤k-1;omega⟩
theorem dV (t:Tm):1≤av t:=by cases t;rw [av];omega
theorem ql (t:Tm):av t=max (bo t.kids) (bu t.sys)+1:=by cases t;rw [av];rfl
theorem EF (t:Tm):az t=1+aE t.kids+aD t.sys:=by cases t;rw [az];rfl
theorem eu {t x:Tm} (h:x∈t.kids):av x+1≤av t:=by rw [ql t];have:=uk h;omega
theorem ep {t:Tm} {b:Br Tm} {x:Tm} (hb:b∈t.sys) (h:x∈b.kids):av x+1≤av t:=by rw [ql t];have:=uk h;have:=zd hb;omega
theorem fK {Q:Tm→Prop} (h: ∀t,(∀x∈t.kids,Q x)→(∀b∈t.sys,∀x∈b.kids,Q x)→Q t) (t:Tm):Q t:=d_ (fun kd n nm r ks sys h1 h2=>h (.mk kd n nm r ks sys) h1 h2) t
theorem qk {p q:Prop} [Decidable p] [Decidable q] (h:p↔q):decide p=decide q:=decide_eq_decide.2 h
theorem Et {α:Type} (b c:Bool) (x y:α):ab (!b) y (if c then x else y)=if b&&c then x else y:=by cases b<;>cases c<;>rfl
theorem Eu {S:Type} (b c:Bool) (ret:Bool→Option S):ab (!b) (ret false) (ret c)=ret (b&&c):=by cases b<;>rfl
theorem Al {S:Type} (b c:Bool) (ret:Bool→Option S):(if b=true then ret c else ret false)=ret (b&&c):=by cases b<;>rfl
theorem bL {n:Int} (h1: -9223372036854775808≤n) (h2:n<9223372036854775808):IntKind.wrap .i64 n=n:=GI h1 h2
section
variable {hd:Tm→Int→(Bool→Option S)→Option S} {c0:Int} {t:Tm} {Q:Tm→Bool}
theorem NP (hk:Fu k) (ret:Bool→Option S) (rec1:Int→Int→Option S) (hc: -9223372036854775807≤c0) (hc':c0<9223372036854775808) {v more:Int} {x:Br Tm} (hQ: ∀y∈x.kids,∀g,hd y (c0-1) g=g (Q y)) (hl:x.kids.length<1073741824):
  ∀ (r p:List Tm) (m:Nat),x.kids=p++r→r.length<m→iP hd k ret rec1 c0 t v x more m (p.length:Int)=if r.all Q then rec1 (IntKind.wrap .i64 (v+1)) more else ret false:=by
 intro r
 induction r with
 |nil=>
  intro p m h hm
  obtain ⟨m,rfl,hm'⟩:=ao hm
  simp only [iP,pr,aM h,ac];rfl
 |cons y r ih=>
  intro p m h hm
  obtain ⟨m,rfl,hm'⟩:=ao hm
  obtain ⟨e1,e2,e3,e4⟩:=aJ h (by omega)
  have hy:=hQ y (by rw [h];simp)
  simp only [iP,pr,e1,ag,e2,Option.bind_some,am hk,mY,x_,a8,bL (show-9223372036854775808≤c0-1 by omega) (by omega),hy,e3,ih (p++[y]) m e4 hm',Et]
  rfl
theorem NO (hk:Fu k) (ret:Bool→Option S) (hc: -9223372036854775807≤c0) (hc':c0<9223372036854775808) {more:Int} (hQ: ∀b∈t.sys,∀y∈b.kids,∀g,hd y (c0-1) g=g (Q y)) (hl:t.sys.length<1073741824) (hl': ∀b∈t.sys,b.kids.length<1073741824):
  ∀ (r p:List (Br Tm)) (m:Nat),t.sys=p++r→r.length<m→fA hd k ret c0 t m (p.length:Int) more=ret (r.all fun b=>b.kids.all Q):=by
 intro r
 induction r with
 |nil=>
  intro p m h hm
  obtain ⟨m,rfl,hm'⟩:=ao hm
  simp only [fA,mz,aM h,ac];rfl
 |cons x r ih=>
  intro p m h hm
  obtain ⟨m,rfl,hm'⟩:=ao hm
  obtain ⟨e1,e2,e3,e4⟩:=aJ h (by omega)
  have hx:x∈t.sys:=by rw [h];simp
  have hlx:=hl' x hx
  have:=NP (t:=t) hk ret (fA hd k ret c0 t m) (v:=(p.length:Int)) (more:=more) hc hc' (hQ x hx) hlx x.kids [] k rfl (by have:4294967296≤k:=hk;omega)
  have this:iP hd k ret (fA hd k ret c0 t m) c0 t (p.length:Int) x more k 0=_:=this
  simp only [fA,mz,e1,ag,e2,Option.bind_some,this,e3,ih (p++[x]) m e4 hm',Al]
  rfl
theorem NN (hk:Fu k) (ret:Bool→Option S) (hc: -9223372036854775807≤c0) (hc':c0<9223372036854775808) (hQ: ∀y∈t.kids,∀g,hd y (c0-1) g=g (Q y)) (hQ': ∀b∈t.sys,∀y∈b.kids,∀g,hd y (c0-1) g=g (Q y)) (ht:OkT t):
  ∀ (r p:List Tm) (m:Nat),t.kids=p++r→r.length<m→lh hd k ret c0 t m (p.length:Int)=ret (r.all Q&&t.sys.all fun b=>b.kids.all Q):=by
 obtain ⟨o1,o2,o3,o4,o5,o6,o7⟩:=ht.no
 intro r
 induction r with
 |nil=>
  intro p m h hm
  obtain ⟨m,rfl,hm'⟩:=ao hm
  have hs: ∀more:Int,fA hd k ret c0 t k 0 more=_:=fun more=>NO hk ret hc hc' (more:=more) hQ' o7 (fun b hb=>(ht.bi hb).1.2.2) t.sys [] k rfl (by have:4294967296≤k:=hk;omega)
  simp only [lh,my,aM h,ac,hs]
  cases (t.kind==15)<;>rfl
 |cons y r ih=>
  intro p m h hm
  obtain ⟨m,rfl,hm'⟩:=ao hm
  obtain ⟨e1,e2,e3,e4⟩:=aJ h (by omega)
  have hy:=hQ y (by rw [h];simp)
  simp only [lh,my,e1,ag,e2,Option.bind_some,am hk,lM,mY,x_,a8,bL (show-9223372036854775808≤c0-1 by omega) (by omega),hy,e3,ih (p++[y]) m e4 hm',Eu,List.all_cons,Bool.and_assoc]
end
theorem zb {n:Int} (hn:0≤n): ∀ {l:List Tm},(l.all fun x=>decide ((av x:Int)≤n))=decide ((bo l:Int)≤n):=by
 intro l
 induction l with
 |nil=>rw [bo];simp [hn]
 |cons t l ih=>rw [List.all_cons,ih,bo,Bool.eq_iff_iff];simp;omega
theorem Kj {n:Int} (hn:0≤n): ∀ {l:List (Br Tm)},(l.all fun b=>b.kids.all fun x=>decide ((av x:Int)≤n))=decide ((bu l:Int)≤n):=by
 intro l
 induction l with
 |nil=>rw [bu];simp [hn]
 |cons b l ih=>rw [List.all_cons,ih,zb hn,bu,m6,Bool.eq_iff_iff];simp;omega
theorem RQ (t:Tm):OkT t→ ∀ {k:Nat} {left:Int} (ret:Bool→Option S),Fd k (av t)→ -4611686018427387904≤left→left<4611686018427387904→fV k t left ret=ret (decide ((av t:Int)≤left)):=by
 induction t using fK with
 |h t ih1 ih2=>
  intro ht k left ret hk h1 h2
  obtain ⟨q,rfl,hq,hf⟩:=hk.pos' (dV t)
  simp only [fV,FY,bW,a8,am hq]
  by_cases h0:left>0
  ·rw [if_pos h0]
   have hQ: ∀y∈t.kids,∀g:Bool→Option S,fV q y (left-1) g=g (decide ((av y:Int)≤left-1)):=fun y hy g=>ih1 y hy (ht.ki hy) g (hf _ (eu hy)) (by omega) (by omega)
   have hQ': ∀b∈t.sys,∀y∈b.kids,∀g:Bool→Option S,fV q y (left-1) g=g (decide ((av y:Int)≤left-1)):=fun b hb y hy g=>ih2 b hb y hy ((ht.bi hb).2 y hy) g (hf _ (ep hb hy)) (by omega) (by omega)
   have:=NN (Q:=fun y=>decide ((av y:Int)≤left-1)) hq ret (by omega) (by omega) hQ hQ' ht t.kids [] q rfl (by have:=ht.no.2.2.2.2.2.1;have:4294967296≤q:=hq;omega)
   simp only [uj,xX]
   refine Eq.trans this ?_
   rw [zb (by omega),Kj (by omega),ql]
   congr 1
   rw [Bool.eq_iff_iff];simp;omega
  ·rw [if_neg h0,decide_eq_false (by have:=dV t;omega)]
section
variable {hd:Tm→Int→(Bool×Int→Option S)→Option S} {t:Tm}
def lX (hd:Tm→Int→(Bool×Int→Option S)→Option S) (k:Nat) (y:Tm):Prop:= ∀ (c:Int) (g:Bool×Int→Option S),0≤c→c<4611686018427387904→
 ∃v,kG hd k y c g=g (decide ((az y:Int)≤c),v)∧((az y:Int)≤c→v=c-az y)
theorem NM (hk:Fu k) (ret:Bool×Int→Option S) (rec1:Int→Int→Int→Option S) {v more:Int} {x:Br Tm} (hQ: ∀y∈x.kids,lX hd k y) (hl:x.kids.length<1073741824):
  ∀ (r p:List Tm) (m:Nat) (c:Int),0≤c→c<4611686018427387904→x.kids=p++r→r.length<m→
  ((aE r:Int)≤c→fy hd k ret rec1 t v x more m c (p.length:Int)=rec1 (c-aE r) (IntKind.wrap .i64 (v+1)) more)∧(¬ (aE r:Int)≤c→ ∃w,fy hd k ret rec1 t v x more m c (p.length:Int)=ret (false,w)):=by
 intro r
 induction r with
 |nil=>
  intro p m c h0 h1 h hm
  obtain ⟨m,rfl,hm'⟩:=ao hm
  simp only [fy,po,aM h,ac,aE]
  exact ⟨fun _=>by simp,fun h=>absurd h (by simpa using h0)⟩
 |cons y r ih=>
  intro p m c h0 h1 h hm
  obtain ⟨m,rfl,hm'⟩:=ao hm
  obtain ⟨e1,e2,e3,e4⟩:=aJ h (by omega)
  have hy:=hQ y (by rw [h];simp)
  obtain ⟨w,hw,hw'⟩:=hy c (fun r1=>(fun r6:Bool×Int=>ab (!r6.1) (ret (false,r6.2)) (fy hd k ret rec1 t v x more m r6.2 (((p++[y]).length:Nat):Int))) (r1.1,r1.2)) h0 h1
  simp only [fy,po,e1,ag,e2,Option.bind_some,am hk,m0,ya,a8,e3,aE]
  rw [hw]
  by_cases hs:(az y:Int)≤c
  ·have:=hw' hs
   subst this
   obtain ⟨i1,i2⟩:=ih (p++[y]) m (c-az y) (by omega) (by omega) e4 hm'
   simp only [decide_eq_true hs,Bool.not_true,ac]
   refine ⟨fun h=> ?_,fun h=> ?_⟩
   ·rw [i1 (by omega)];congr 1;omega
   ·exact i2 (by omega)
  ·simp only [decide_eq_false hs,Bool.not_false,ag]
   exact ⟨fun h=>absurd h (by omega),fun _=>⟨w,rfl⟩⟩
theorem NL (hk:Fu k) (ret:Bool×Int→Option S) {more:Int} (hQ: ∀b∈t.sys,∀y∈b.kids,lX hd k y) (hl:t.sys.length<1073741824) (hl': ∀b∈t.sys,b.kids.length<1073741824):
  ∀ (r p:List (Br Tm)) (m:Nat) (c:Int),0≤c→c<4611686018427387904→t.sys=p++r→r.length<m→
  ((aD r:Int)≤c→eB hd k ret t m c (p.length:Int) more=ret (true,c-aD r))∧(¬ (aD r:Int)≤c→ ∃w,eB hd k ret t m c (p.length:Int) more=ret (false,w)):=by
 intro r
 induction r with
 |nil=>
  intro p m c h0 h1 h hm
  obtain ⟨m,rfl,hm'⟩:=ao hm
  simp only [eB,mt,aM h,ac,aD]
  exact ⟨fun _=>by simp,fun h=>absurd h (by simpa using h0)⟩
 |cons x r ih=>
  intro p m c h0 h1 h hm
  obtain ⟨m,rfl,hm'⟩:=ao hm
  obtain ⟨e1,e2,e3,e4⟩:=aJ h (by omega)
  have hx:x∈t.sys:=by rw [h];simp
  have hlx:=hl' x hx
  have:=NM (t:=t) hk ret (eB hd k ret t m) (v:=(p.length:Int)) (more:=more) (hQ x hx) hlx x.kids [] k c h0 h1 rfl (by have:4294967296≤k:=hk;omega)
  simp only [eB,mt,e1,ag,e2,Option.bind_some,aD,ke]
  by_cases hs:(aE x.kids:Int)≤c
  ·have e:fy hd k ret (eB hd k ret t m) t (p.length:Int) x more k c 0=_:=this.1 hs
   obtain ⟨i1,i2⟩:=ih (p++[x]) m (c-aE x.kids) (by omega) (by omega) e4 hm'
   rw [e,e3]
   refine ⟨fun h=> ?_,fun h=>i2 (by omega)⟩
   rw [i1 (by omega)];congr 2;omega
  ·obtain ⟨w,e⟩:=this.2 hs
   have e:fy hd k ret (eB hd k ret t m) t (p.length:Int) x more k c 0=_:=e
   rw [e]
   exact ⟨fun h=>absurd h (by omega),fun _=>⟨w,rfl⟩⟩
theorem NK (hk:Fu k) (ret:Bool×Int→Option S) (hQ: ∀y∈t.kids,lX hd k y) (hQ': ∀b∈t.sys,∀y∈b.kids,lX hd k y) (ht:OkT t):
  ∀ (r p:List Tm) (m:Nat) (c:Int),0≤c→c<4611686018427387904→t.kids=p++r→r.length<m→
  ∃w,jU hd k ret t m c (p.length:Int)=ret (decide (((aE r+aD t.sys:Nat):Int)≤c),w)∧(((aE r+aD t.sys:Nat):Int)≤c→w=c-((aE r+aD t.sys:Nat):Int)):=by
 obtain ⟨o1,o2,o3,o4,o5,o6,o7⟩:=ht.no
 intro r
 induction r with
 |nil=>
  intro p m c h0 h1 h hm
  obtain ⟨m,rfl,hm'⟩:=ao hm
  have hs: ∀more:Int,_:=fun more=>NL hk ret (more:=more) hQ' o7 (fun b hb=>(ht.bi hb).1.2.2) t.sys [] k c h0 h1 rfl (by have:4294967296≤k:=hk;omega)
  have key: ∀more:Int,∃w,eB hd k ret t k c 0 more=ret (decide (((aD t.sys:Nat):Int)≤c),w)∧(((aD t.sys:Nat):Int)≤c→w=c-((aD t.sys:Nat):Int)):=fun more=>by
   by_cases hc:(aD t.sys:Int)≤c
   ·exact ⟨_,((hs more).1 hc).trans (by rw [decide_eq_true hc]),fun _=>rfl⟩
   ·obtain ⟨w,e⟩:=(hs more).2 hc
    exact ⟨w,Eq.trans e (by rw [decide_eq_false hc]),fun h=>absurd h hc⟩
  have hz:aE []+aD t.sys=aD t.sys:=by rw [aE,Nat.zero_add]
  rw [hz]
  simp only [jU,mq,aM h,ac]
  cases (t.kind==15) with
  |true=>exact key 1
  |false=>exact key 0
 |cons y r ih=>
  intro p m c h0 h1 h hm
  obtain ⟨m,rfl,hm'⟩:=ao hm
  obtain ⟨e1,e2,e3,e4⟩:=aJ h (by omega)
  have hy:=hQ y (by rw [h];simp)
  obtain ⟨w,hw,hw'⟩:=hy c (fun r1=>(fun r3:Bool×Int=>ab (!r3.1) (ret (false,r3.2)) (jU hd k ret t m r3.2 (((p++[y]).length:Nat):Int))) (r1.1,r1.2)) h0 h1
  have hz:aE (y::r)+aD t.sys=az y+aE r+aD t.sys:=by rw [aE]
  rw [hz]
  simp only [jU,mq,e1,ag,e2,Option.bind_some,am hk,lM,m0,ya,a8,e3]
  rw [hw]
  by_cases hs:(az y:Int)≤c
  ·have:=hw' hs
   subst this
   obtain ⟨u,i1,i2⟩:=ih (p++[y]) m (c-az y) (by omega) (by omega) e4 hm'
   simp only [decide_eq_true hs,Bool.not_true,ac]
   refine ⟨u,i1.trans ?_,fun h=> ?_⟩
   ·congr 2;exact qk (by omega)
   ·rw [i2 (by omega)];omega
  ·simp only [decide_eq_false hs,Bool.not_false,ag]
   exact ⟨w,by rw [decide_eq_false (by omega)],fun h=>absurd h (by omega)⟩
end
theorem Rk (t:Tm):OkT t→ ∀ {k:Nat} (c:Int) (ret:Bool×Int→Option S),Fd k (av t)→0≤c→c<4611686018427387904→
  ∃w,dU k t c ret=ret (decide ((az t:Int)-1≤c),w)∧((az t:Int)-1≤c→w=c-((az t:Int)-1)):=by
 induction t using fK with
 |h t ih1 ih2=>
  intro ht k c ret hk h1 h2
  obtain ⟨q,rfl,hq,hf⟩:=hk.pos' (dV t)
  have cnt: ∀y,(∀ {k:Nat} (c:Int) (ret:Bool×Int→Option S),Fd k (av y)→0≤c→c<4611686018427387904→ ∃w,dU k y c ret=ret (decide ((az y:Int)-1≤c),w)∧((az y:Int)-1≤c→w=c-((az y:Int)-1)))→
    Fd q (av y)→lX (S:=S) (dU q) q y:=by
   intro y hy hfy c g h0 h1
   simp only [kG,yb,a8,bL (show-9223372036854775808≤c-1 by omega) (by omega),bW]
   have:=w5 y
   by_cases hc:c-1≥0
   ·rw [if_pos hc]
    obtain ⟨w,e,e'⟩:=hy (c-1) (fun r1=>g (r1.1,r1.2)) hfy (by omega) (by omega)
    refine ⟨w,e.trans ?_,fun h=> ?_⟩
    ·congr 2;exact qk (by omega)
    ·rw [e' (by omega)];omega
   ·rw [if_neg hc]
    exact ⟨c-1,by rw [decide_eq_false (by omega)],fun h=>by omega⟩
  obtain ⟨w,e,e'⟩:=NK hq ret (fun y hy=>cnt y (fun c ret=>ih1 y hy (ht.ki hy) c ret) (hf _ (eu hy))) (fun b hb y hy=>cnt y (fun c ret=>ih2 b hb y hy ((ht.bi hb).2 y hy) c ret) (hf _ (ep hb hy))) ht t.kids [] q c h1 h2 rfl (by have:=ht.no.2.2.2.2.2.1;have:4294967296≤q:=hq;omega)
  simp only [dU,xV]
  have hz:=EF t
  refine ⟨w,Eq.trans e ?_,fun h=> ?_⟩
  ·congr 2;exact qk (by omega)
  ·rw [e' (by omega)];omega
theorem RS {t:Tm} (ht:OkT t) (hk:Fd k (av t)) {most:Int} (h0:0<most) (h1:most<4611686018427387904) (ret:Bool→Option S):qj k t most ret=ret (decide ((az t:Int)≤most)):=by
 simp only [qj,F0,am hk.fu,kG,yb,a8,bL (show-9223372036854775808≤most-1 by omega) (by omega),bW]
 rw [if_pos (by omega)]
 obtain ⟨w,e,_⟩:=Rk t ht (most-1) (fun r1=>ret (r1.1,r1.2).1) hk (by omega) (by omega)
 refine Eq.trans e ?_
 show ret (decide _)=_
 congr 1;exact qk (by omega)
def VD (vars dims:Int) (n:Nat):Prop:= -4611686018427387904≤vars∧vars+n<4611686018427387904∧0≤dims∧dims+n<4611686018427387904
section
variable {hd:Tm→Int→Int→Bool→(Bool→Option S)→Option S} {vars dims:Int} {bd:Bool} {t:Tm}
theorem Ea (hv:VD vars dims 1) {v d:Int} (h1:0≤v∧v≤1) (h2:0≤d∧d≤1) (y:Tm) (g:Bool→Option S):mW hd k y v d vars dims bd g=hd y (eb vars v) (dims+d) bd g:=by
 unfold VD at hv
 simp only [mW,FX,a8,bW,bL (n:=vars+0) (by omega) (by omega),bL (n:=vars+v) (by omega) (by omega),bL (n:=dims+d) (by omega) (by omega)]
 unfold eb
 split
 ·rw [Int.add_zero]
 ·rfl
theorem NJ (hk:Fu k) (ret:Bool→Option S) (rec1:Int→Int→Option S) (hv:VD vars dims 1) {v more:Int} {x:Br Tm} (hm:more=aw t.kind) (hQ: ∀y∈x.kids,∀g,hd y vars (dims+more) bd g=g (bn bd vars (dims+more) y)) (hl:x.kids.length<1073741824):
  ∀ (r p:List Tm) (m:Nat),x.kids=p++r→r.length<m→iO hd k ret rec1 vars dims bd t v x more m (p.length:Int)=if dS bd vars dims t.kind r then rec1 (IntKind.wrap .i64 (v+1)) more else ret false:=by
 subst hm
 intro r
 induction r with
 |nil=>
  intro p m h hm
  obtain ⟨m,rfl,hm'⟩:=ao hm
  simp only [iO,pq,aM h,ac];rfl
 |cons y r ih=>
  intro p m h hm
  obtain ⟨m,rfl,hm'⟩:=ao hm
  obtain ⟨e1,e2,e3,e4⟩:=aJ h (by omega)
  have hy:=hQ y (by rw [h];simp)
  have h0:eb vars 0=vars:=by unfold eb;split<;>omega
  simp only [iO,pq,e1,ag,e2,Option.bind_some,am hk,a8,Ea hv (show (0:Int)≤0∧(0:Int)≤1 by omega) (d4 t.kind),h0,hy,e3,ih (p++[y]) m e4 hm',Et]
  rw [dS]
theorem NI (hk:Fu k) (ret:Bool→Option S) (hv:VD vars dims 1) {more:Int} (hm:more=aw t.kind) (hQ: ∀b∈t.sys,∀y∈b.kids,∀g,hd y vars (dims+more) bd g=g (bn bd vars (dims+more) y)) (hl:t.sys.length<1073741824) (hl': ∀b∈t.sys,b.kids.length<1073741824):
  ∀ (r p:List (Br Tm)) (m:Nat),t.sys=p++r→r.length<m→fz hd k ret vars dims bd t m (p.length:Int) more=ret (c7 bd vars dims t.kind r):=by
 intro r
 induction r with
 |nil=>
  intro p m h hm
  obtain ⟨m,rfl,hm'⟩:=ao hm
  simp only [fz,mw,aM h,ac,c7]
 |cons x r ih=>
  intro p m h hml
  obtain ⟨m,rfl,hm'⟩:=ao hml
  obtain ⟨e1,e2,e3,e4⟩:=aJ h (by omega)
  have hx:x∈t.sys:=by rw [h];simp
  have hlx:=hl' x hx
  have:=NJ (t:=t) (bd:=bd) hk ret (fz hd k ret vars dims bd t m) hv (v:=(p.length:Int)) hm (hQ x hx) hlx x.kids [] k rfl (by have:4294967296≤k:=hk;omega)
  have this:iO hd k ret (fz hd k ret vars dims bd t m) vars dims bd t (p.length:Int) x more k 0=_:=this
  simp only [fz,mw,e1,ag,e2,Option.bind_some,this,e3,ih (p++[x]) m e4 hm']
  have ea:c7 bd vars dims t.kind (x::r)=(dS bd vars dims t.kind x.kids&&c7 bd vars dims t.kind r):=by cases x;rw [c7,mb]
  rw [ea,Al]
theorem NH (hk:Fu k) (ret:Bool→Option S) (hv:VD vars dims 1) (hQ: ∀y∈t.kids,∀v d,0≤v∧v≤1→0≤d∧d≤1→ ∀g,hd y (eb vars v) (dims+d) bd g=g (bn bd (eb vars v) (dims+d) y)) (hQ': ∀b∈t.sys,∀y∈b.kids,∀g,hd y vars (dims+aw t.kind) bd g=g (bn bd vars (dims+aw t.kind) y)) (ht:OkT t):
  ∀ (r p:List Tm) (m:Nat),t.kids=p++r→r.length<m→jV hd k ret vars dims bd t m (p.length:Int)=ret (cG bd vars dims t.kind p.length r&&c7 bd vars dims t.kind t.sys):=by
 obtain ⟨o1,o2,o3,o4,o5,o6,o7⟩:=ht.no
 intro r
 induction r with
 |nil=>
  intro p m h hm
  obtain ⟨m,rfl,hm'⟩:=ao hm
  have hs:fz hd k ret vars dims bd t k 0 (aw t.kind)=_:=NI hk ret hv rfl hQ' o7 (fun b hb=>(ht.bi hb).1.2.2) t.sys [] k rfl (by have:4294967296≤k:=hk;omega)
  simp only [jV,mu,aM h,ac]
  rw [cG,Bool.true_and,←hs]
  unfold aw
  rw [d8]
  by_cases h15:t.kind=15
  ·rw [if_pos h15,if_pos (by rw [h15];rfl)]
  ·rw [if_neg h15,if_neg (by rw [beq_iff_eq];exact h15)]
 |cons y r ih=>
  intro p m h hm
  obtain ⟨m,rfl,hm'⟩:=ao hm
  obtain ⟨e1,e2,e3,e4⟩:=aJ h (by omega)
  have b1:=yE t.kind p.length
  have b2:=fN t.kind p.length
  have hy:=hQ y (by rw [h];simp) (fO t.kind p.length) (bU t.kind p.length) b1 b2
  simp only [jV,mu,e1,ag,e2,Option.bind_some,am hk,lM,a8,Ea hv b1 b2,hy,e3,ih (p++[y]) m e4 hm',Eu]
  rw [cG,show (p++[y]).length=p.length+1 by simp,Bool.and_assoc]
end
theorem tr (bd:Bool) (vars dims:Int) (t:Tm):bn bd vars dims t=(!(bd&&decide (dims>24))&&(dM vars dims t&&(cG bd vars dims t.kind 0 t.kids&&c7 bd vars dims t.kind t.sys))):=by cases t;rw [bn];rfl
theorem Tp {vars v:Int} (h:0≤v∧v≤1):vars≤eb vars v∧eb vars v≤vars+1:=by unfold eb;split<;>omega
theorem Re (t:Tm):OkT t→ ∀ {k:Nat} {vars dims:Int} {bd:Bool} (ret:Bool→Option S),Fd k (av t)→VD vars dims (av t)→eo k t vars dims bd ret=ret (bn bd vars dims t):=by
 induction t using fK with
 |h t ih1 ih2=>
  intro ht k vars dims bd ret hk hv
  obtain ⟨q,rfl,hq,hf⟩:=hk.pos' (dV t)
  have hp:=dV t
  have hv':=hv
  unfold VD at hv'
  have hv1:VD vars dims 1:=by unfold VD;omega
  have hm:=d4 t.kind
  have hQ: ∀y∈t.kids,∀v d,0≤v∧v≤1→0≤d∧d≤1→ ∀g:Bool→Option S,eo q y (eb vars v) (dims+d) bd g=g (bn bd (eb vars v) (dims+d) y):=fun y hy v d h1 h2 g=>ih1 y hy (ht.ki hy) g (hf _ (eu hy)) (by
   have:=eu hy;have:=Tp (vars:=vars) h1;unfold VD;omega)
  have hQ': ∀b∈t.sys,∀y∈b.kids,∀g:Bool→Option S,eo q y vars (dims+aw t.kind) bd g=g (bn bd vars (dims+aw t.kind) y):=fun b hb y hy g=>ih2 b hb y hy ((ht.bi hb).2 y hy) g (hf _ (ep hb hy)) (by
   have:=ep hb hy;unfold VD;omega)
  have:=NH (bd:=bd) hq ret hv1 hQ hQ' ht t.kids [] q rfl (by have:=ht.no.2.2.2.2.2.1;have:4294967296≤q:=hq;omega)
  have this:jV (eo q) q ret vars dims bd t q 0=_:=this
  simp only [eo,FW,a8,am hq,RM hq ht (show 0≤dims by omega) (show dims<9223372036854775808 by omega),qh,xW,this]
  rw [tr]
  cases bd with
  |true=>
   rw [ag,bW,Bool.true_and]
   by_cases h24:dims>24
   ·rw [if_pos h24,decide_eq_true h24];rfl
   ·rw [if_neg h24,decide_eq_false h24]
    cases dM vars dims t<;>rfl
  |false=>
   rw [ac]
   cases dM vars dims t<;>rfl
theorem RR {t:Tm} (ht:OkT t) (hk:Fd k (av t)) (ret:Int→Option S):mZ k t ret=ret (if av t>200 then 62 else if az t>20000 then 221 else 0):=by
 simp only [mZ,FZ,a8,RQ t ht _ hk (show (-4611686018427387904:Int)≤200 by omega) (show (200:Int)<4611686018427387904 by omega),am hk.fu,RS ht hk (show (0:Int)<20000 by omega) (show (20000:Int)<4611686018427387904 by omega)]
 by_cases h1:av t>200
 ·rw [if_pos h1,decide_eq_false (by omega)];rfl
 ·rw [if_neg h1,decide_eq_true (by omega),Bool.not_true,ac]
  by_cases h2:az t>20000
  ·rw [if_pos h2,decide_eq_false (by omega)];rfl
  ·rw [if_neg h2,decide_eq_true (by omega)];rfl
theorem n8 {t:Tm} (ht:OkT t) (hk:Fd k (av t)) (hdep:av t<1099511627776) (ret:Int→Option S):ik k t ret=ret (cz t):=by
 simp only [ik,FT,a8,am hk.fu,RR ht hk,Re t ht _ hk (show VD (-1) 24 (av t) by unfold VD;omega),bP]
 unfold cz
 by_cases h1:av t>200
 ·rw [if_pos h1,if_pos h1];rfl
 ·rw [if_neg h1,if_neg h1]
  by_cases h2:az t>20000
  ·rw [if_pos h2,if_pos h2];rfl
  ·rw [if_neg h2,if_neg h2,decide_eq_true rfl,Bool.not_true,ac]
   cases bn false (-1) 24 t<;>rfl
end Go.Proofs.YtapmagaejigpnaaGreatDoor
namespace Go.Proofs.YtapmagaejigpnaaGreatDoor
open Go PI
set_option linter.unusedVariables false
set_option linter.unusedSimpArgs false
set_option maxRecDepth 20000
variable {S:Type} {k:Nat}
theorem zc: ∀ {l:List Tm},(∀x∈l,av x≤az x)→bo l≤aE l:=by
 intro l
 induction l with
 |nil=>intro _;rw [bo,aE];omega
 |cons t l ih=>
  intro h
  rw [bo,aE]
  have:=h t (by simp)
  have:=ih fun x hx=>h x (by simp [hx])
  omega
theorem Kl: ∀ {l:List (Br Tm)},(∀b∈l,∀x∈b.kids,av x≤az x)→bu l≤aD l:=by
 intro l
 induction l with
 |nil=>intro _;rw [bu,aD];omega
 |cons b l ih=>
  intro h
  rw [bu,aD,m6,ke]
  have:=zc (h b (by simp))
  have:=ih fun x hx=>h x (by simp [hx])
  omega
theorem qm (t:Tm):av t≤az t:=by
 induction t using fK with
 |h t ih1 ih2=>
  rw [ql,EF]
  have:=zc ih1
  have:=Kl ih2
  omega
section
variable {hd:Tm→(Int→Option S)→Option S} {t:Tm}
end
section
variable {hd:Tm→(Int→Option S)→Option S} {t:Tm}
end
section
variable {hd:Tm→Int→Int→Bool→(Bool→Option S)→Option S} {vars dims:Int} {bd:Bool} {t:Tm}
end
theorem Ok (hk:Fu k) (ret:Bool→Option S) {l:List Cl} (hlen:l.length<2147483648):
  ∀ (r p:List Cl) (m:Nat),l=p++r→r.length<m→lb k ret l l m (p.length:Int)=ret true:=by
 intro r
 induction r with
 |nil=>
  intro p m h hm
  obtain ⟨m,rfl,hm'⟩:=ao hm
  simp only [lb,pg,aM h,ac]
 |cons x r ih=>
  intro p m h hm
  obtain ⟨m,rfl,hm'⟩:=ao hm
  obtain ⟨e1,e2,e3,e4⟩:=aJ h (by omega)
  simp only [lb,pg,e1,ag,e2,Option.bind_some,e3,ih (p++[x]) m e4 hm',mD,decide_true,Bool.not_true,ac]
theorem Em (hk:Fu k) {l:List Cl} (hlen:l.length<2147483648) (ret:Bool→Option S):jD k l l ret=ret true:=by
 simp only [jD,xM,beq_self_eq_true,Bool.not_true,ac]
 exact Ok hk ret hlen l [] k rfl (by have:4294967296≤k:=hk;omega)
section
variable {hd:Tm→Tm→(Bool→Option S)→Option S}
theorem N8 (hk:Fu k) (ret:Bool→Option S) {l:List Tm} (hlen:l.length<2147483648) (hQ: ∀y∈l,∀g,hd y y g=g true):
  ∀ (r p:List Tm) (m:Nat),l=p++r→r.length<m→lc hd k ret l l m (p.length:Int)=ret true:=by
 intro r
 induction r with
 |nil=>
  intro p m h hm
  obtain ⟨m,rfl,hm'⟩:=ao hm
  simp only [lc,pj,aM h,ac]
 |cons x r ih=>
  intro p m h hm
  obtain ⟨m,rfl,hm'⟩:=ao hm
  obtain ⟨e1,e2,e3,e4⟩:=aJ h (by omega)
  simp only [lc,pj,e1,ag,e2,Option.bind_some,a8,hQ x (by rw [h];simp),e3,ih (p++[x]) m e4 hm',Bool.not_true,ac]
theorem Eh (hk:Fu k) (ret:Bool→Option S) {l:List Tm} (hlen:l.length<2147483648) (hQ: ∀y∈l,∀g,hd y y g=g true):mV hd k l l ret=ret true:=by
 simp only [mV,xP,beq_self_eq_true,Bool.not_true,ac]
 exact N8 hk ret hlen hQ l [] k rfl (by have:4294967296≤k:=hk;omega)
theorem Oi (hk:Fu k) (ret:Bool→Option S) {t:Tm} (ht:OkT t) (hQ: ∀b∈t.sys,∀y∈b.kids,∀g,hd y y g=g true):
  ∀ (r p:List (Br Tm)) (m:Nat),t.sys=p++r→r.length<m→jT hd k ret t t m (p.length:Int)=ret true:=by
 obtain ⟨o1,o2,o3,o4,o5,o6,o7⟩:=ht.no
 intro r
 induction r with
 |nil=>
  intro p m h hm
  obtain ⟨m,rfl,hm'⟩:=ao hm
  simp only [jT,pi,aM h,ac]
 |cons x r ih=>
  intro p m h hm
  obtain ⟨m,rfl,hm'⟩:=ao hm
  obtain ⟨e1,e2,e3,e4⟩:=aJ h (by omega)
  have hx:x∈t.sys:=by rw [h];simp
  have hb:=(ht.bi hx).1
  simp only [jT,pi,e1,ag,e2,Option.bind_some,am hk,Em hk (show x.face.length<2147483648 by omega),Eh hk _ (show x.kids.length<2147483648 by omega) (hQ x hx),e3,ih (p++[x]) m e4 hm',Bool.not_true,ac]
end
theorem Ej (t:Tm):OkT t→ ∀ {k:Nat} (ret:Bool→Option S),Fd k (av t)→dw k t t ret=ret true:=by
 induction t using fK with
 |h t ih1 ih2=>
  intro ht k ret hk
  obtain ⟨q,rfl,hq,hf⟩:=hk.pos' (dV t)
  obtain ⟨o1,o2,o3,o4,o5,o6,o7⟩:=ht.no
  have hQ: ∀y∈t.kids,∀g:Bool→Option S,dw q y y g=g true:=fun y hy g=>ih1 y hy (ht.ki hy) g (hf _ (eu hy))
  have hQ': ∀b∈t.sys,∀y∈b.kids,∀g:Bool→Option S,dw q y y g=g true:=fun b hb y hy g=>ih2 b hb y hy ((ht.bi hb).2 y hy) g (hf _ (ep hb hy))
  have:=Oi hq ret ht hQ' t.sys [] q rfl (by have:4294967296≤q:=hq;omega)
  have this:jT (dw q) q ret t t q 0=_:=this
  have hn:(t.name==t.name)=true:=by rw [yC];exact decide_eq_true rfl
  simp only [dw,xO,beq_self_eq_true,hn,Bool.not_true,ac,am hq,Em hq (show t.r.length<2147483648 by omega),Eh hq _ (show t.kids.length<2147483648 by omega) hQ,this]
section
variable {hd:Tm→Int→(Int→Option S)→Option S} {t:Tm}
end
end Go.Proofs.YtapmagaejigpnaaGreatDoor
namespace Go.Proofs.YtapmagaejigpnaaGreatDoor
open Go PI
set_option linter.unusedVariables false
set_option linter.unusedSimpArgs false
set_option maxRecDepth 20000
variable {S:Type} {k:Nat}
def pE {α:Type}:Except Int α→Pan Int α
 | .ok a=> .ok a
 | .error e=> .pan e
def eE {α β:Type} (x:Except Int α) (f:α→β) (g:Int→β):β:=match x with
 | .ok a=>f a
 | .error e=>g e
theorem jG {α β:Type} (x:Except Int α) (f:α→β) (g:Int→β):Pan.elim (pE x) f g=eE x f g:=by cases x<;>rfl
theorem aY {α β γ:Type} (x:Except Int α) (f:α→Except Int β) (u:β→γ) (w:Int→γ):eE (bE x f) u w=eE x (fun a=>eE (f a) u w) w:=by cases x<;>rfl
theorem bp {α β:Type} (a:α) (f:α→β) (g:Int→β):eE (.ok a) f g=f a:=rfl
theorem QN {α:Type} (x:Except Int α) (ret:Pan Int α→Option S):ret (pE x)=eE x (fun a=>ret (.ok a)) fun e=>ret (.pan e):=by cases x<;>rfl
def aK:Tm:= .mk 0 0 ByteArray.empty [] [] []
def tE:Except Int Tm→Tm×Int
 | .ok t=>(t,0)
 | .error e=>(aK,e)
theorem bQ {α β:Type} {x:Except Int α} {f f':α→β} {g g':Int→β} (h: ∀a,x= .ok a→f a=f' a) (h': ∀e,x= .error e→g e=g' e):eE x f g=eE x f' g':=by
 cases x with
 |ok a=>exact h a rfl
 |error e=>exact h' e rfl
theorem Ei (hk:Fu k) {a b d:Int} {f:List Cl} (hf:aj f) (hl:f.length<1073741824) (hd:aI d) (hb:aI b) (ret:Pan Int (List Cl)→Option S):mU k a b f d ret=ret (pE (bB d b f)):=by
 simp only [mU,FG,am hk,oa hk hf hl hd hb,bP,bW,bM (show 0+f.length≤1099511627776 by omega)]
 unfold bB
 by_cases h0:b=0
 ·rw [if_pos h0,if_pos (.inl h0)];rfl
 ·rw [if_neg h0]
  by_cases h1:d≥24
  ·rw [if_pos h1,if_pos (.inr h1)];rfl
  ·rw [if_neg h1,if_neg (show ¬ (b=0∨d≥24) by omega)]
   by_cases h2:(aP f d b).2=0
   ·rw [decide_eq_true h2,jc h2];rfl
   ·rw [decide_eq_false h2,lS h2];rfl
section
variable {hd:Int→Int→Tm→Int→Int→(Pan Int Tm→Option S)→Option S} {vb db v d:Int} {t:Tm}
theorem N7 (hk:Fu k) (ret:Pan Int Tm→Option S) (rec2:List (Br Tm)→Int→Int→Option S) {r12 r2:List Cl} {b1 v90:Int} {ks:List Tm} {o:List (Br Tm)} {x:Br Tm} {more:Int} (hm:more=aw t.kind)
  (hd0:0≤d∧d<4611686018427387904) (hQ: ∀y∈x.kids,∀g,hd vb db y v (d+more) g=g (pE (bj vb db v (d+more) y))) (hl:x.kids.length<1073741824) (ho:o.length<1073741824):
  ∀ (r p:List Tm) (m:Nat) (acc:List Tm),x.kids=p++r→r.length<m→acc.length=p.length→
  iN hd k ret rec2 r12 vb db t b1 r2 ks o x more v d v90 m acc (p.length:Int)=eE (dn vb db v d t.kind r) (fun l=>rec2 (o++[⟨r12,acc++l⟩]) more (IntKind.wrap .i64 (v90+1))) fun e=>ret (.pan e):=by
 subst hm
 have hmo:=d4 t.kind
 intro r
 induction r with
 |nil=>
  intro p m acc h hm ha
  obtain ⟨m,rfl,hm'⟩:=ao hm
  simp only [iN,pf,aM h,ac,dn,bp,List.append_nil]
  rw [bM (by simp;omega)]
 |cons y r ih=>
  intro p m acc h hm ha
  obtain ⟨m,rfl,hm'⟩:=ao hm
  obtain ⟨e1,e2,e3,e4⟩:=aJ h (by omega)
  have hpl:p.length<x.kids.length:=by rw [h];simp
  have hy:=hQ y (by rw [h];simp)
  simp only [iN,pf,e1,ag,e2,Option.bind_some,a8,bL (n:=d+aw t.kind) (by omega) (by omega),hy,jG,dn,aY,bp]
  refine bQ (fun t' ht'=> ?_) fun e _=>rfl
  rw [bM (by simp;omega),e3,ih (p++[y]) m (acc++[t']) e4 hm' (by simp;omega)]
  simp
theorem N6 (hk:Fu k) (ret:Pan Int Tm→Option S) {r2:List Cl} {b1:Int} {ks:List Tm} {more:Int} (hm:more=aw t.kind) (ht:OkT t) (hdb:aI db) (hd0:0≤d∧d<4611686018427387904)
  (hQ: ∀b∈t.sys,∀y∈b.kids,∀g,hd vb db y v (d+more) g=g (pE (bj vb db v (d+more) y))):
  ∀ (r p:List (Br Tm)) (m:Nat) (o:List (Br Tm)),t.sys=p++r→r.length<m→o.length=p.length→
  d3 hd k ret vb db t b1 r2 ks v d m o more (p.length:Int)=eE (cX vb db v d t.kind r) (fun l=>ret (.ok (.mk t.kind b1 t.name r2 ks (o++l)))) fun e=>ret (.pan e):=by
 obtain ⟨o1,o2,o3,o4,o5,o6,o7⟩:=ht.no
 intro r
 induction r with
 |nil=>
  intro p m o h hml ho
  obtain ⟨m,rfl,hm'⟩:=ao hml
  simp only [d3,mm,aM h,ac,cX,bp,List.append_nil]
 |cons x r ih=>
  intro p m o h hml ho
  obtain ⟨m,rfl,hm'⟩:=ao hml
  obtain ⟨e1,e2,e3,e4⟩:=aJ h (by omega)
  have hx:x∈t.sys:=by rw [h];simp
  have hpl:p.length<t.sys.length:=by rw [h];simp
  have hb:=(ht.bi hx).1
  have hrow:=Ei (S:=S) hk (a:=vb) hb.1 hb.2.1 (show aI d by unfold aI;omega) hdb
  have:=fun r12=>N7 hk ret (d3 hd k ret vb db t b1 r2 ks v d m) (r12:=r12) (r2:=r2) (b1:=b1) (v90:=(p.length:Int)) (ks:=ks) (o:=o) hm hd0 (hQ x hx) hb.2.2 (by omega) x.kids [] k [] rfl (by have:4294967296≤k:=hk;omega) rfl
  have this: ∀r12,iN hd k ret (d3 hd k ret vb db t b1 r2 ks v d m) r12 vb db t b1 r2 ks o x more v d (p.length:Int) k [] 0=_:=this
  have hB:jX vb db v d t.kind x=bE (bB d db x.face) fun f'=>bE (dn vb db v d t.kind x.kids) fun ks'=> .ok (.mk f' ks'):=by cases x;rw [jX]
  simp only [d3,mm,e1,ag,e2,Option.bind_some,am hk,hrow,jG,this,cX,hB,aY,bp,List.nil_append,e3]
  refine bQ (fun f' _=>bQ (fun ks' _=> ?_) fun e _=>rfl) fun e _=>rfl
  rw [ih (p++[x]) m (o++[Br.mk f' ks']) e4 hm' (by simp;omega)]
  simp
theorem N5 (hk:Fu k) (ret:Pan Int Tm→Option S) {r2:List Cl} {b1:Int} (ht:OkT t) (hdb:aI db) (hd0:0≤d∧d<4611686018427387904) (hv0:0≤v∧v<4611686018427387904)
  (hQ: ∀y∈t.kids,∀a b,0≤a∧a≤1→0≤b∧b≤1→ ∀g,hd vb db y (v+a) (d+b) g=g (pE (bj vb db (v+a) (d+b) y))) (hQ': ∀b∈t.sys,∀y∈b.kids,∀g,hd vb db y v (d+aw t.kind) g=g (pE (bj vb db v (d+aw t.kind) y))):
  ∀ (r p:List Tm) (m:Nat) (acc:List Tm),t.kids=p++r→r.length<m→acc.length=p.length→
  gR hd k ret vb db t b1 r2 v d m acc (p.length:Int)=eE (dm vb db v d t.kind p.length r) (fun l=>eE (cX vb db v d t.kind t.sys) (fun s=>ret (.ok (.mk t.kind b1 t.name r2 (acc++l) s))) fun e=>ret (.pan e)) fun e=>ret (.pan e):=by
 obtain ⟨o1,o2,o3,o4,o5,o6,o7⟩:=ht.no
 intro r
 induction r with
 |nil=>
  intro p m acc h hm ha
  obtain ⟨m,rfl,hm'⟩:=ao hm
  have hs:d3 hd k ret vb db t b1 r2 acc v d k [] (aw t.kind) 0=_:=N6 hk ret rfl ht hdb hd0 hQ' t.sys [] k [] rfl (by have:4294967296≤k:=hk;omega) rfl
  simp only [gR,ml,aM h,ac,dm,bp,List.append_nil]
  rw [d8]
  have he:(if (t.kind==15)=true then d3 hd k ret vb db t b1 r2 acc v d k [] 1 0 else d3 hd k ret vb db t b1 r2 acc v d k [] 0 0)=d3 hd k ret vb db t b1 r2 acc v d k [] (aw t.kind) 0:=by
   unfold aw
   by_cases h15:t.kind=15
   ·rw [if_pos h15,if_pos (by rw [h15];rfl)]
   ·rw [if_neg h15,if_neg (by rw [beq_iff_eq];exact h15)]
  rw [he,hs]
  simp only [List.nil_append]
 |cons y r ih=>
  intro p m acc h hm ha
  obtain ⟨m,rfl,hm'⟩:=ao hm
  obtain ⟨e1,e2,e3,e4⟩:=aJ h (by omega)
  have hpl:p.length<t.kids.length:=by rw [h];simp
  have b1':=yE t.kind p.length
  have b2':=fN t.kind p.length
  have hy:=hQ y (by rw [h];simp) (fO t.kind p.length) (bU t.kind p.length) b1' b2'
  simp only [gR,ml,e1,ag,e2,Option.bind_some,am hk,lM,a8,bL (n:=v+fO t.kind p.length) (by omega) (by omega),bL (n:=d+bU t.kind p.length) (by omega) (by omega),hy,jG,dm,aY,bp]
  refine bQ (fun t' ht'=> ?_) fun e _=>rfl
  rw [bM (by simp;omega),e3,ih (p++[y]) m (acc++[t']) e4 hm' (by simp;omega),show (p++[y]).length=p.length+1 by simp]
  simp
end
theorem OH (vb db v d:Int) (t:Tm):bj vb db v d t=if t.kind=1∧t.n≥v∧t.n>1000000000-vb then .error 100 else bE (bB d db t.r) fun r'=>bE (dm vb db v d t.kind 0 t.kids) fun ks'=>bE (cX vb db v d t.kind t.sys) fun sys'=> .ok (.mk t.kind (if t.kind=1∧t.n≥v then t.n+vb else t.n) t.name r' ks' sys'):=by cases t;rw [bj];rfl
theorem RowsT.no {t:Tm} (h:RowsT t):RF t.r∧(t.kind=1→t.r=[])∧0≤t.kind:=by cases t;rw [RowsT] at h;exact h.1
theorem RowsT.ki {t x:Tm} (h:RowsT t) (hx:x∈t.kids):RowsT x:=by cases t;rw [RowsT] at h;exact rowsK_iff.1 h.2.1 x hx
theorem RowsT.bi {t:Tm} {b:Br Tm} (h:RowsT t) (hb:b∈t.sys):RF b.face∧ ∀x∈b.kids,RowsT x:=by cases t;rw [RowsT] at h;exact rowsS_iff.1 h.2.2 b hb
def VP (v d:Int) (n:Nat):Prop:=0≤v∧v+n<4611686018427387904∧0≤d∧d+n<4611686018427387904
theorem wN {vb db:Int} (hvb:0≤vb∧vb≤1000000000) (hdb:aI db) (t:Tm):OkT t→RowsT t→ ∀ {k:Nat} {v d:Int} (ret:Pan Int Tm→Option S),Fd k (av t)→VP v d (av t)→cL k vb db t v d ret=ret (pE (bj vb db v d t)):=by
 induction t using fK with
 |h t ih1 ih2=>
  intro ht hro k v d ret hk hv
  obtain ⟨q,rfl,hq,hf⟩:=hk.pos' (dV t)
  obtain ⟨q',hq'⟩: ∃q',q=q'+1:=⟨q-1,by have:4294967296≤q:=hq;omega⟩
  have hp:=dV t
  unfold VP at hv
  obtain ⟨o1,o2,o3,o4,o5,o6,o7⟩:=ht.no
  have hmo:=d4 t.kind
  have hQ: ∀y∈t.kids,∀a b,0≤a∧a≤1→0≤b∧b≤1→ ∀g:Pan Int Tm→Option S,cL q vb db y (v+a) (d+b) g=g (pE (bj vb db (v+a) (d+b) y)):=fun y hy a b h1 h2 g=>
   ih1 y hy (ht.ki hy) (hro.ki hy) g (hf _ (eu hy)) (by have:=eu hy;unfold VP;omega)
  have hQ': ∀b∈t.sys,∀y∈b.kids,∀g:Pan Int Tm→Option S,cL q vb db y v (d+aw t.kind) g=g (pE (bj vb db v (d+aw t.kind) y)):=fun b hb y hy g=>
   ih2 b hb y hy ((ht.bi hb).2 y hy) ((hro.bi hb).2 y hy) g (hf _ (ep hb hy)) (by have:=ep hb hy;unfold VP;omega)
  have h1:=fun r2 b1=>N5 (r2:=r2) (b1:=b1) hq ret ht hdb (show 0≤d∧d<4611686018427387904 by omega) (show 0≤v∧v<4611686018427387904 by omega) hQ hQ' t.kids [] q [] rfl (by have:4294967296≤q:=hq;omega) rfl
  have h0: ∀r2 b1,nj (cL q) q ret vb db t r2 v d q b1=gR (cL q) q ret vb db t b1 r2 v d q [] 0:=by
   intro r2 b1
   have: ∀j,j=q'+1→nj (cL q) q ret vb db t r2 v d j b1=gR (cL q) q ret vb db t b1 r2 v d q [] 0:=by rintro j rfl;rfl
   exact this q hq'
  have h2: ∀r2 b1,nj (cL q) q ret vb db t r2 v d q b1=_:=fun r2 b1=>(h0 r2 b1).trans (h1 r2 b1)
  have hrow:=Ei (S:=S) hq (a:=vb) o4 o5 (show aI d by unfold aI;omega) hdb
  simp only [cL,xK,am hq,hrow,jG,h2,List.length_nil,List.nil_append]
  rw [QN _ ret,OH]
  unfold aI at o2
  by_cases hc:t.kind=1
  ·have hr:=hro.no.2.1 hc
   rw [hr,wA,bp,hc,show ((1:Int)==1)=true from rfl,ag,bW]
   by_cases hn:t.n≥v
   ·rw [if_pos hn,bL (n:=1000000000-vb) (by omega) (by omega),bW]
    by_cases hb:t.n>1000000000-vb
    ·rw [if_pos hb,if_pos (show (1:Int)=1∧t.n≥v∧t.n>1000000000-vb from ⟨rfl,hn,hb⟩)];rfl
    ·rw [if_neg hb,if_neg (show ¬ ((1:Int)=1∧t.n≥v∧t.n>1000000000-vb) from fun h=>hb h.2.2),ak,aY]
     rw [if_pos (show (1:Int)=1∧t.n≥v from ⟨rfl,hn⟩),bL (n:=t.n+vb) (by omega) (by omega)]
     simp only [aY,bp]
   ·rw [if_neg hn,if_neg (show ¬ ((1:Int)=1∧t.n≥v∧t.n>1000000000-vb) from fun h=>hn h.2.1),ak,aY]
    rw [if_neg (show ¬ ((1:Int)=1∧t.n≥v) from fun h=>hn h.2)]
    simp only [aY,bp]
  ·have hc':(t.kind==1)=false:=by rw [beq_eq_false_iff_ne];exact hc
   rw [hc',if_neg (show ¬ (t.kind=1∧t.n≥v∧t.n>1000000000-vb) from fun h=>hc h.1)]
   simp only [ac,aY,bp,if_neg (show ¬ (t.kind=1∧t.n≥v) from fun h=>hc h.1)]
section
variable {hd:Tm→Int→Int→Int→Int→(Tm→Option S)→Option S} {vb db v d:Int} {t:Tm}
theorem sD {z:List Cl×Int} {α:Type} (f:List Cl→α) (g:Int→α):ab (!(z.2==0)) (g z.2) (f z.1)=eE (cm z) f g:=by
 rw [bP]
 unfold cm
 by_cases h:z.2=0
 ·rw [decide_eq_true h,if_pos h];rfl
 ·rw [decide_eq_false h,if_neg h];rfl
end
end Go.Proofs.YtapmagaejigpnaaGreatDoor
