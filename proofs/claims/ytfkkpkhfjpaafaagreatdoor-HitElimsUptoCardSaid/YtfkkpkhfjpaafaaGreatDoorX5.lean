/- Part 5 of a proof: the sources, with their names and remarks, lie in wip/. -/
import Derived.Test.YtfkkpkhfjpaafaaGreatDoorX4
namespace Go.Proofs.YtfkkpkhfjpaafaaGreatDoor
open Go PI
set_option linter.unusedVariables false
set_option maxRecDepth 100000
noncomputable section
def GT {S:Type} (k:Nat):Rw S:=aj eo xn fun f κ=>aa k (ph k f) (az κ)
def WN {S:Type} (k:Nat):Fx S:=fp 9 [(74,Bj k),(125,Qf k)] [] k Tryz.f263 0
theorem Ky {S:Type} (o:Obj) (ho:ai o) (k:Nat):Tl o 263 (GT k:Rw S):=ak (WN k) ⟨Eo o ho k,acq o ho k,trivial⟩ Tryz.func263 (by kernel_rfl) fun f κ x h=>Eq.trans (by kernel_rfl) (al h)
def Qh {S:Type} (k:Nat):Rw S:=aj eo xn fun f κ=>aa k (yQ k f) (az κ)
def WP {S:Type} (k:Nat):Fx S:=fp 15 [(124,Bd k),(263,GT k)] [] k Tryz.f297 0
theorem acs {S:Type} (o:Obj) (ho:ai o) (k:Nat):Tl o 297 (Qh k:Rw S):=ak (WP k) ⟨Ei o ho k,Ky o ho k,trivial⟩ Tryz.func297 (by kernel_rfl) fun f κ x h=>Eq.trans (by kernel_rfl) (al h)
def Qi {S:Type} (k:Nat):Rw S:=aj eo xn fun f κ=>aa k (yI k f) (az κ)
def WQ {S:Type} (k:Nat):Fx S:=fp 18 [(266,GQ k),(297,Qh k)] [] k Tryz.f268 0
theorem act {S:Type} (o:Obj) (ho:ai o) (k:Nat):Tl o 268 (Qi k:Rw S):=ak (WQ k) ⟨Kv o ho k,acs o ho k,trivial⟩ Tryz.func268 (by kernel_rfl) fun f κ x h=>Eq.trans (by kernel_rfl) (al h)
def Qj {S:Type} (k:Nat):Rw S:=aj Aj xn fun f i a_r κ=>aa k (yJ k f i a_r) (az κ)
def sh {S:Type} (k:Nat):Fx S:=fp 92 [(120,ow k),(122,GI k),(214,Ba k),(219,vQ k),(265,P8 k),(266,GQ k),(267,Qb k),(268,Qi k),(269,Qc k)] [(5,aS [1,2,8,27,28,29] [],ap 6 23),(1000018,aS [1,2,8,11,13,27,28,29] [],ap 16 63895)] k Tryz.f222 0
def vn (i:Int) (a_r f:List Cl) (v29:Int) (v8:List Cl):St UU:=⟨[(1,(iI i)),(2,(sC a_r)),(8,(sC v8)),(27,(sC f)),(28,(.int .i64 (f.length:Int))),(29,(iI v29))],[],[],[]⟩
def Nu (i:Int) (a_r f:List Cl) (v29:Int) (v8:List Cl) (g11:List Cl) (v13:Int):St UU:=⟨[(1,(iI i)),(2,(sC a_r)),(8,(sC v8)),(11,(sC g11)),(13,(iI v13)),(27,(sC f)),(28,(.int .i64 (f.length:Int))),(29,(iI v29))],[],[],[]⟩
section
variable {S:Type} (k:Nat) (f:List Cl) (i:Int) (a_r:List Cl) (κ:Out UU→Option S)
theorem Zk (v29 v8 κ0): ∀n g11 v13,(sh k).jn κ 1000018 [κ0] n (Nu i a_r f v29 v8 g11 v13)=p7 k (az κ) (fun v29 v8=>κ0 (vn i a_r f v29 v8)) i a_r f v29 v8 n g11 v13:=Lb (wU k (az κ) i a_r f v29 v8 (fun v29 v8=>κ0 (vn i a_r f v29 v8))) rfl (fun _=>rfl) (fun g11 v13=>by kernel_rfl)
theorem Zj: ∀n v29 v8,(sh k).lp κ 5 [] n (vn i a_r f v29 v8)=lY k (az κ) i a_r f n v29 v8:=aL (fun own=>sr k (az κ) i a_r f (fun v29 v8 g11 v13=>p7 k (az κ) own i a_r f v29 v8 k g11 v13) own) rfl (fun _=>rfl) fun r v29 v8=>Eq.trans (b:=sr k (az κ) i a_r f (fun v29 v8 g11 v13=>(sh k).jn κ 1000018 [r] k (Nu i a_r f v29 v8 g11 v13)) (fun v29 v8=>r (vn i a_r f v29 v8)) v29 v8) (by kernel_rfl) (by simp only [Zk])
end
theorem acu {S:Type} (o:Obj) (ho:ai o) (k:Nat):Tl o 222 (Qj k:Rw S):=ak (sh k) ⟨pL o ho k,Km o ho k,Ef o ho k,zP o ho k,aci o ho k,Kv o ho k,acm o ho k,act o ho k,acn o ho k,trivial⟩ Tryz.func222 (by kernel_rfl) fun f i a_r κ x h=>Eq.trans (b:=HH k (az κ) (fun v29 v8=>(sh k).lp κ 5 [] k (vn i a_r f v29 v8)) f i a_r) (by kernel_rfl) (Eq.trans (by simp only [Zj];rfl) (al h))
def GU {S:Type} (k:Nat):Rw S:=aj E2 alu fun f depth c0 c1 κ=>aa k (tF k f depth c0 c1) (ah9 c0 c1 κ)
def WR {S:Type} (k:Nat):Fx S:=fp 38 [(75,oz k),(158,Bb k),(219,vQ k),(220,GO k),(222,Qj k)] [] k Tryz.f218 3
theorem Kz {S:Type} (o:Obj) (ho:ai o) (k:Nat):Tl o 218 (GU k:Rw S):=ak (WR k) ⟨pN o ho k,Eg o ho k,zP o ho k,Kt o ho k,acu o ho k,trivial⟩ Tryz.func218 (by kernel_rfl) fun f depth c0 c1 κ x h=>Eq.trans (by kernel_rfl) (al h)
def Qk {S:Type} (k:Nat):Rw S:=aj fU xn fun i κ=>aa k (yP k i) (az κ)
def WS {S:Type} (k:Nat):Fx S:=fp 12 [(258,Bg k),(259,vP k)] [] k Tryz.f260 0
theorem acv {S:Type} (o:Obj) (ho:ai o) (k:Nat):Tl o 260 (Qk k:Rw S):=ak (WS k) ⟨Em o ho k,zO o ho k,trivial⟩ Tryz.func260 (by kernel_rfl) fun i κ x h=>Eq.trans (by kernel_rfl) (al h)
def Ql {S:Type} (k:Nat):Rw S:=aj jk xn fun f g κ=>aa k (na k f g) (az κ)
def WT {S:Type} (k:Nat):Fx S:=fp 14 [(129,jz k)] [] k Tryz.f264 0
theorem acw {S:Type} (o:Obj) (ho:ai o) (k:Nat):Tl o 264 (Ql k:Rw S):=ak (WT k) ⟨j_ o ho k,trivial⟩ Tryz.func264 (by kernel_rfl) fun f g κ x h=>Eq.trans (by kernel_rfl) (al h)
def Qm {S:Type} (k:Nat):Rw S:=aj adS wD fun a_have c c0 c1 κ=>aa k (yS k a_have c c0 c1) (vB c0 c1 κ)
def WU {S:Type} (k:Nat):Fx S:=fp 63 [(214,Ba k),(219,vQ k),(262,GS k),(263,GT k),(264,Ql k)] [] k Tryz.f261 2
theorem acx {S:Type} (o:Obj) (ho:ai o) (k:Nat):Tl o 261 (Qm k:Rw S):=ak (WU k) ⟨Ef o ho k,zP o ho k,Kx o ho k,Ky o ho k,acw o ho k,trivial⟩ Tryz.func261 (by kernel_rfl) fun a_have c c0 c1 κ x h=>Eq.trans (by kernel_rfl) (al h)
def Qn {S:Type} (k:Nat):Rw S:=aj adT wD fun l a_from c0 c1 κ=>aa k (DO k l a_from c0 c1) (vB c0 c1 κ)
def C8 {S:Type} (k:Nat):Fx S:=fp 33 [(261,Qm k)] [(2,aS [1,2,13,14,15] [(1000000,1),(1000001,1)],ap 4 5)] k Tryz.f125 2
def Nv (c0:Int) (c1 l:List Cl) (v1:List Cl) (v15:Int):St UU:=⟨[(1,(sC v1)),(2,(.func 261 [] [(pt 1000000),(pt 1000001)])),(13,(sC l)),(14,(.int .i64 (l.length:Int))),(15,(iI v15))],[(1000000,bI c0),(1000001,.cells [(sC c1)])],[],[]⟩
section
variable {S:Type} (k:Nat) (l a_from:List Cl) (c0:Int) (c1:List Cl) (κ:Out UU→Option S)
theorem Zl: ∀n v1 v15,(C8 k).lp κ 2 [] n (Nv c0 c1 l v1 v15)=qc k (vB c0 c1 κ) c0 c1 l n v1 v15:=aL (wZ k (vB c0 c1 κ) c0 c1 l) rfl (fun _=>rfl) fun r v1 v15=>by kernel_rfl
end
theorem acy {S:Type} (o:Obj) (ho:ai o) (k:Nat):Tl o 125 (Qn k:Rw S):=ak (C8 k) ⟨acx o ho k,trivial⟩ Tryz.func125 (by kernel_rfl) fun l a_from c0 c1 κ x h=>Eq.trans (b:=HO k (vB c0 c1 κ) (fun v1 v15=>(C8 k).lp κ 2 [] k (Nv c0 c1 l v1 v15)) l a_from c0 c1) (by kernel_rfl) (Eq.trans (by simp only [Zl];rfl) (al h))
def Qo {S:Type} (k:Nat):Rw S:=aj Aj xn fun f i a_r κ=>aa k (yR k f i a_r) (az κ)
def WV {S:Type} (k:Nat):Fx S:=fp 32 [(124,Bd k),(125,Qn k),(126,GL k),(260,Qk k)] [] k Tryz.f221 0
theorem acz {S:Type} (o:Obj) (ho:ai o) (k:Nat):Tl o 221 (Qo k:Rw S):=ak (WV k) ⟨Ei o ho k,acy o ho k,Kq o ho k,acv o ho k,trivial⟩ Tryz.func221 (by kernel_rfl) fun f i a_r κ x h=>Eq.trans (by kernel_rfl) (al h)
def Qp {S:Type} (k:Nat):Rw S:=aj E2 Uv fun f depth c0 c1 κ=>aa k (yF k f depth c0 c1) (ah_ c0 c1 κ)
def WW {S:Type} (k:Nat):Fx S:=fp 38 [(75,oz k),(158,Bb k),(219,vQ k),(220,GO k),(221,Qo k)] [] k Tryz.f218 3
theorem acA {S:Type} (o:Obj) (ho:ai o) (k:Nat):Tl o 218 (Qp k:Rw S):=ak (WW k) ⟨pN o ho k,Eg o ho k,zP o ho k,Kt o ho k,acz o ho k,trivial⟩ Tryz.func218 (by kernel_rfl) fun f depth c0 c1 κ x h=>Eq.trans (by kernel_rfl) (al h)
def Of {S:Type} (k:Nat):Rw S:=aj E3 Je fun t depth c0 c1 κ=>aa k (yG k t depth c0 c1) (aia c0 c1 κ)
def UC {S:Type} (k:Nat):Fx S:=fp 27 [(218,ol (uy E2 Uv) (Qp k) (GU k))] [] k Tryz.f223 4
theorem aau {S:Type} (o:Obj) (ho:ai o) (k:Nat):Tl o 223 (Of k:Rw S):=ak (UC k) ⟨vw (acA o ho k) (Kz o ho k),trivial⟩ Tryz.func223 (by kernel_rfl) fun t depth c0 c1 κ x h=>Eq.trans (by kernel_rfl) (al h)
def Ga {S:Type} (k:Nat):Rw S:=aj Lm alv fun i c0 κ=>aa k (tG k i c0) (aib c0 κ)
def UD {S:Type} (k:Nat):Fx S:=fp 14 [(36,jA k)] [] k Tryz.f225 1
theorem JS {S:Type} (o:Obj) (ho:ai o) (k:Nat):Tl o 225 (Ga k:Rw S):=ak (UD k) ⟨kc o ho k,trivial⟩ Tryz.func225 (by kernel_rfl) fun i c0 κ x h=>Eq.trans (by kernel_rfl) (al h)
def Gb {S:Type} (k:Nat):Rw S:=aj Lm cu fun p c0 κ=>aa k (tH k p c0) (aic c0 κ)
def UE {S:Type} (k:Nat):Fx S:=fp 5 [] [] k Tryz.f226 1
theorem JT {S:Type} (o:Obj) (ho:ai o) (k:Nat):Tl o 226 (Gb k:Rw S):=ak (UE k) trivial Tryz.func226 (by kernel_rfl) fun p c0 κ x h=>Eq.trans (by kernel_rfl) (al h)
def rn {S:Type} (hd:c8 S):Rw S:=aj E3 Je fun t depth c0 c1 κ=>hd t depth c0 c1 (AT c0 c1 κ)
def Og {S:Type} (hd:c8 S) (k:Nat):Rw S:=aj Ln Uw fun l depth c0 c1 c4 κ=>aa k (DK hd k l depth c0 c1 c4) (AU c0 c1 c4 κ)
def Cf {S:Type} (hd:c8 S) (k:Nat):Fx S:=fp 42 [(163,rn hd),(226,Gb k)] [(3,⟨[(2,.none),(3,.none),(4,.none),(10,some (100010,true)),(15,.none),(16,.none),(17,.none)],[(4,[.none,.none]),(1000000,[.none]),(1000001,[.none]),(1000002,[.none]),(1000003,[.none]),(1000004,[.none])]⟩,ap 5 11)] k Tryz.f224 5
def LS (c0:Int) (c1:List Cl) (c4:Int) (l:List Tm) (depth:Int) (out10:List Tm) (v17:Int):St UU:=⟨[(2,(iI depth)),(3,(.func 226 [] [(pt 1000004)])),(4,(pt 4)),(10,(.own 100010 0)),(15,(sT l)),(16,(.int .i64 (l.length:Int))),(17,(iI v17))],[(4,.cells [(.func 218 [] [(pt 1000000),(pt 1000001),(pt 1000002)]),(.func 218 [] [(pt 1000000),(pt 1000001),(pt 1000003)])]),(1000000,bI c0),(1000001,.cells [(sC c1)]),(1000002,.cells [(.func 221 [] [])]),(1000003,.cells [(.func 222 [] [])]),(1000004,bI c4)],[(100010,⟨0,ET.T,out10⟩)],[(100010,.wr)]⟩
section
variable {S:Type} (hd:c8 S) (k:Nat) (l:List Tm) (depth c0:Int) (c1:List Cl) (c4:Int) (κ:Out UU→Option S)
theorem W6: ∀n out10 v17,(Cf hd k).lp κ 3 [] n (LS c0 c1 c4 l depth out10 v17)=lW hd k (AU c0 c1 c4 κ) c0 c1 c4 l depth n out10 v17:=aL (wQ hd k (AU c0 c1 c4 κ) c0 c1 c4 l depth) rfl (fun _=>rfl) fun r out10 v17=>by kernel_rfl
end
theorem aav {S:Type} (o:Obj) (ho:ai o) (hd:c8 S) (Hd:Tl o 163 (rn hd)) (k:Nat):Tl o 224 (Og hd k:Rw S):=ak (Cf hd k) ⟨Hd,JT o ho k,trivial⟩ Tryz.func224 (by kernel_rfl) fun l depth c0 c1 c4 κ x h=>Eq.trans (b:=HB hd k (AU c0 c1 c4 κ) (fun out10 v17=>(Cf hd k).lp κ 3 [] k (LS c0 c1 c4 l depth out10 v17)) l depth c0 c1 c4) (by kernel_rfl) (Eq.trans (by simp only [W6];rfl) (al h))
def Oh {S:Type} (hd:c8 S) (k:Nat):Rw S:=aj adV alw fun l depth c0 c1 c4 κ=>aa k (DL hd k l depth c0 c1 c4) (AV c0 c1 c4 κ)
def Cg {S:Type} (hd:c8 S) (k:Nat):Fx S:=fp 42 [(163,rn hd),(225,Ga k)] [(3,⟨[(2,.none),(3,.none),(4,.none),(10,some (100010,true)),(15,.none),(16,.none),(17,.none)],[(4,[.none,.none]),(1000000,[.none]),(1000001,[.none]),(1000002,[.none]),(1000003,[.none]),(1000004,[.none,.none,.none,.none,.none,.none])]⟩,ap 5 11)] k Tryz.f224 5
def LU (c0:Int) (c1:List Cl) (c4:Tm) (l:List Tm) (depth:Int) (out10:List Tm) (v17:Int):St UU:=⟨[(2,(iI depth)),(3,(.func 225 [] [(pt 1000004)])),(4,(pt 4)),(10,(.own 100010 0)),(15,(sT l)),(16,(.int .i64 (l.length:Int))),(17,(iI v17))],[(4,.cells [(.func 218 [] [(pt 1000000),(pt 1000001),(pt 1000002)]),(.func 218 [] [(pt 1000000),(pt 1000001),(pt 1000003)])]),(1000000,bI c0),(1000001,.cells [(sC c1)]),(1000002,.cells [(.func 221 [] [])]),(1000003,.cells [(.func 222 [] [])]),(1000004,bT c4)],[(100010,⟨0,ET.T,out10⟩)],[(100010,.wr)]⟩
section
variable {S:Type} (hd:c8 S) (k:Nat) (l:List Tm) (depth c0:Int) (c1:List Cl) (c4:Tm) (κ:Out UU→Option S)
theorem W7: ∀n out10 v17,(Cg hd k).lp κ 3 [] n (LU c0 c1 c4 l depth out10 v17)=lX hd k (AV c0 c1 c4 κ) c0 c1 c4 l depth n out10 v17:=aL (wR hd k (AV c0 c1 c4 κ) c0 c1 c4 l depth) rfl (fun _=>rfl) fun r out10 v17=>by kernel_rfl
end
theorem aaw {S:Type} (o:Obj) (ho:ai o) (hd:c8 S) (Hd:Tl o 163 (rn hd)) (k:Nat):Tl o 224 (Oh hd k:Rw S):=ak (Cg hd k) ⟨Hd,JS o ho k,trivial⟩ Tryz.func224 (by kernel_rfl) fun l depth c0 c1 c4 κ x h=>Eq.trans (b:=HC hd k (AV c0 c1 c4 κ) (fun out10 v17=>(Cg hd k).lp κ 3 [] k (LU c0 c1 c4 l depth out10 v17)) l depth c0 c1 c4) (by kernel_rfl) (Eq.trans (by simp only [W7];rfl) (al h))
def Ce {S:Type} (hd:c8 S) (k:Nat):Fx S:=fp 98 [(218,GU k),(223,Of k),(224,ol (uy Ln Uw) (Og hd k) (Oh hd k))] [(13,⟨[(2,.none),(3,.none),(6,.none),(8,.none),(10,.none),(53,.none),(54,.none),(55,.none)],[(3,[.none,.none]),(6,[.none,.none,.none,some (200387,true),some (200388,true),some (200389,true)]),(8,[.none,.none,.none,.none,.none,some (200517,true)]),(10,[.none]),(1000000,[.none]),(1000001,[.none]),(1000002,[.none]),(1000003,[.none])]⟩,ap 11 767)] k Tryz.f163 4
def LR (c0:Int) (c1:List Cl) (t:Tm) (r1:List Cl×Int) (r2:List Tm×Int) (depth:Int) (b10_0:Int) (b8_5:List (Br Tm)) (v55:Int):St UU:=⟨[(2,(iI depth)),(3,(pt 3)),(6,(pt 6)),(8,(pt 8)),(10,(pt 10)),(53,(sB t.sys)),(54,(.int .i64 (t.sys.length:Int))),(55,(iI v55))],[(3,.cells [(.func 218 [] [(pt 1000000),(pt 1000001),(pt 1000002)]),(.func 218 [] [(pt 1000000),(pt 1000001),(pt 1000003)])]),(6,.cells [(iI 0),(iI 0),(.str ByteArray.empty),(.own 200387 0),(.own 200388 0),(.own 200389 0)]),(8,.cells [(iI t.kind),(iI t.n),(.str t.name),(sC r1.1),(sT r2.1),(.own 200517 0)]),(10,bI b10_0),(1000000,bI c0),(1000001,.cells [(sC c1)]),(1000002,.cells [(.func 221 [] [])]),(1000003,.cells [(.func 222 [] [])])],[(200517,⟨0,ET.B,b8_5⟩),(200389,⟨0,ET.B,([]:List (Br Tm))⟩),(200388,⟨0,ET.T,([]:List Tm)⟩),(200387,⟨0,ET.C,([]:List Cl)⟩)],[(200517,.wr),(200389,.wr),(200388,.wr),(200387,.wr)]⟩
section
variable {S:Type} (hd:c8 S) (k:Nat) (t:Tm) (depth c0:Int) (c1:List Cl) (κ:Out UU→Option S)
theorem W5 (r1 r2): ∀n b10_0 b8_5 v55,(Ce hd k).lp κ 13 [] n (LR c0 c1 t r1 r2 depth b10_0 b8_5 v55)=fV hd k (AT c0 c1 κ) c0 c1 t r1 r2 depth n b10_0 b8_5 v55:=eW (wS hd k (AT c0 c1 κ) c0 c1 t r1 r2 depth) rfl (fun _=>rfl) fun r b10_0 b8_5 v55=>by kernel_rfl
end
theorem EF {S:Type} (o:Obj) (ho:ai o): ∀k:Nat,Tl o 163 (rn (d7 k:c8 S))
 |0=>dz fun t depth c0 c1 κ x h=>by cases h
 |k+1=>ak (Ce (d7 k) k) ⟨Kz o ho k,aau o ho k,vw (aav o ho (d7 k) (EF o ho k) k) (aaw o ho (d7 k) (EF o ho k) k),trivial⟩ Tryz.func163 (by kernel_rfl) fun t depth c0 c1 κ x h=>Eq.trans (b:=HF (d7 k) k (AT c0 c1 κ) (fun r1 r2 b10_0 b8_5 v55=>(Ce (d7 k) k).lp κ 13 [] k (LR c0 c1 t r1 r2 depth b10_0 b8_5 v55)) t depth c0 c1) (by kernel_rfl) (Eq.trans (by simp only [W5];rfl) h)
def Oi {S:Type} (k:Nat):Rw S:=aj fU xn fun i κ=>aa k (DE k i) (aid κ)
def UF {S:Type} (k:Nat):Fx S:=fp 8 [] [] k Tryz.f164 0
theorem aax {S:Type} (o:Obj) (ho:ai o) (k:Nat):Tl o 164 (Oi k:Rw S):=ak (UF k) trivial Tryz.func164 (by kernel_rfl) fun i κ x h=>Eq.trans (by kernel_rfl) (al h)
def Oj {S:Type} (k:Nat):Rw S:=aj lS xn fun s i κ=>aa k (pk k s i) (b_ κ)
def UG {S:Type} (k:Nat):Fx S:=fp 24 [(230,GM k),(257,vL k)] [] k Tryz.f228 0
theorem aay {S:Type} (o:Obj) (ho:ai o) (k:Nat):Tl o 228 (Oj k:Rw S):=ak (UG k) ⟨Kr o ho k,zN o ho k,trivial⟩ Tryz.func228 (by kernel_rfl) fun s i κ x h=>Eq.trans (by kernel_rfl) (al h)
def Gc {S:Type} (k:Nat):Rw S:=aj adW cu fun f depth c0 κ=>aa k (pc k f depth c0) (vC c0 κ)
def Ch {S:Type} (k:Nat):Fx S:=fp 37 [(129,jz k),(228,Oj k)] [(3,⟨[(1,.none),(2,.none),(7,some (100007,true)),(10,.none),(11,.none),(12,.none)],[(1000000,[.none])]⟩,ap 5 11)] k Tryz.f227 1
def LV (c0 depth:Int) (f:List Cl) (v12:Int) (out7:List Cl):St UU:=⟨[(1,(iI depth)),(2,(pt 1000000)),(7,(.own 100007 0)),(10,(sC f)),(11,(.int .i64 (f.length:Int))),(12,(iI v12))],[(1000000,bI c0)],[(100007,⟨0,ET.C,out7⟩)],[(100007,.wr)]⟩
section
variable {S:Type} (k:Nat) (f:List Cl) (depth c0:Int) (κ:Out UU→Option S)
theorem W8: ∀n v12 out7,(Ch k).lp κ 3 [] n (LV c0 depth f v12 out7)=p6 k (vC c0 κ) c0 depth f n v12 out7:=aL (wN k (vC c0 κ) c0 depth f) rfl (fun _=>rfl) fun r v12 out7=>by kernel_rfl
end
theorem JU {S:Type} (o:Obj) (ho:ai o) (k:Nat):Tl o 227 (Gc k:Rw S):=ak (Ch k) ⟨j_ o ho k,aay o ho k,trivial⟩ Tryz.func227 (by kernel_rfl) fun f depth c0 κ x h=>Eq.trans (b:=Hx k (vC c0 κ) (fun v12 out7=>(Ch k).lp κ 3 [] k (LV c0 depth f v12 out7)) f depth c0) (by kernel_rfl) (Eq.trans (by simp only [W8];rfl) (al h))
def Ok {S:Type} (k:Nat):Rw S:=aj Lo cu fun t depth c0 κ=>aa k (yH k t depth c0) (vC c0 κ)
def UH {S:Type} (k:Nat):Fx S:=fp 27 [(227,Gc k)] [] k Tryz.f223 1
theorem aaz {S:Type} (o:Obj) (ho:ai o) (k:Nat):Tl o 223 (Ok k:Rw S):=ak (UH k) ⟨JU o ho k,trivial⟩ Tryz.func223 (by kernel_rfl) fun t depth c0 κ x h=>Eq.trans (by kernel_rfl) (al h)
def rp {S:Type} (hd:c_ S):Rw S:=aj Lo cu fun t depth c0 κ=>hd t depth c0 (AW c0 κ)
def Om {S:Type} (hd:c_ S) (k:Nat):Rw S:=aj Lp B9 fun l depth c0 c1 κ=>aa k (DI hd k l depth c0 c1) (AX c0 c1 κ)
def Cj {S:Type} (hd:c_ S) (k:Nat):Fx S:=fp 42 [(163,rp hd),(226,Gb k)] [(3,⟨[(2,.none),(3,.none),(4,.none),(10,some (100010,true)),(15,.none),(16,.none),(17,.none)],[(4,[.none,.none]),(1000000,[.none]),(1000001,[.none])]⟩,ap 5 11)] k Tryz.f224 2
def LX (c0 c1:Int) (l:List Tm) (depth:Int) (out10:List Tm) (v17:Int):St UU:=⟨[(2,(iI depth)),(3,(.func 226 [] [(pt 1000001)])),(4,(pt 4)),(10,(.own 100010 0)),(15,(sT l)),(16,(.int .i64 (l.length:Int))),(17,(iI v17))],[(4,.cells [(.func 227 [] [(pt 1000000)]),(.func 227 [] [(pt 1000000)])]),(1000000,bI c0),(1000001,bI c1)],[(100010,⟨0,ET.T,out10⟩)],[(100010,.wr)]⟩
section
variable {S:Type} (hd:c_ S) (k:Nat) (l:List Tm) (depth c0 c1:Int) (κ:Out UU→Option S)
theorem W_: ∀n out10 v17,(Cj hd k).lp κ 3 [] n (LX c0 c1 l depth out10 v17)=lU hd k (AX c0 c1 κ) c0 c1 l depth n out10 v17:=aL (wO hd k (AX c0 c1 κ) c0 c1 l depth) rfl (fun _=>rfl) fun r out10 v17=>by kernel_rfl
end
theorem aaB {S:Type} (o:Obj) (ho:ai o) (hd:c_ S) (Hd:Tl o 163 (rp hd)) (k:Nat):Tl o 224 (Om hd k:Rw S):=ak (Cj hd k) ⟨Hd,JT o ho k,trivial⟩ Tryz.func224 (by kernel_rfl) fun l depth c0 c1 κ x h=>Eq.trans (b:=Hz hd k (AX c0 c1 κ) (fun out10 v17=>(Cj hd k).lp κ 3 [] k (LX c0 c1 l depth out10 v17)) l depth c0 c1) (by kernel_rfl) (Eq.trans (by simp only [W_];rfl) (al h))
def On {S:Type} (hd:c_ S) (k:Nat):Rw S:=aj adX alx fun l depth c0 c1 κ=>aa k (DJ hd k l depth c0 c1) (AY c0 c1 κ)
def Ck {S:Type} (hd:c_ S) (k:Nat):Fx S:=fp 42 [(163,rp hd),(225,Ga k)] [(3,⟨[(2,.none),(3,.none),(4,.none),(10,some (100010,true)),(15,.none),(16,.none),(17,.none)],[(4,[.none,.none]),(1000000,[.none]),(1000001,[.none,.none,.none,.none,.none,.none])]⟩,ap 5 11)] k Tryz.f224 2
def LY (c0:Int) (c1:Tm) (l:List Tm) (depth:Int) (out10:List Tm) (v17:Int):St UU:=⟨[(2,(iI depth)),(3,(.func 225 [] [(pt 1000001)])),(4,(pt 4)),(10,(.own 100010 0)),(15,(sT l)),(16,(.int .i64 (l.length:Int))),(17,(iI v17))],[(4,.cells [(.func 227 [] [(pt 1000000)]),(.func 227 [] [(pt 1000000)])]),(1000000,bI c0),(1000001,bT c1)],[(100010,⟨0,ET.T,out10⟩)],[(100010,.wr)]⟩
section
variable {S:Type} (hd:c_ S) (k:Nat) (l:List Tm) (depth c0:Int) (c1:Tm) (κ:Out UU→Option S)
theorem Xa: ∀n out10 v17,(Ck hd k).lp κ 3 [] n (LY c0 c1 l depth out10 v17)=lV hd k (AY c0 c1 κ) c0 c1 l depth n out10 v17:=aL (wP hd k (AY c0 c1 κ) c0 c1 l depth) rfl (fun _=>rfl) fun r out10 v17=>by kernel_rfl
end
theorem aaC {S:Type} (o:Obj) (ho:ai o) (hd:c_ S) (Hd:Tl o 163 (rp hd)) (k:Nat):Tl o 224 (On hd k:Rw S):=ak (Ck hd k) ⟨Hd,JS o ho k,trivial⟩ Tryz.func224 (by kernel_rfl) fun l depth c0 c1 κ x h=>Eq.trans (b:=HA hd k (AY c0 c1 κ) (fun out10 v17=>(Ck hd k).lp κ 3 [] k (LY c0 c1 l depth out10 v17)) l depth c0 c1) (by kernel_rfl) (Eq.trans (by simp only [Xa];rfl) (al h))
def Ci {S:Type} (hd:c_ S) (k:Nat):Fx S:=fp 98 [(223,Ok k),(224,ol (uy Lp B9) (Om hd k) (On hd k)),(227,Gc k)] [(13,⟨[(2,.none),(3,.none),(6,.none),(8,.none),(10,.none),(53,.none),(54,.none),(55,.none)],[(3,[.none,.none]),(6,[.none,.none,.none,some (200387,true),some (200388,true),some (200389,true)]),(8,[.none,.none,.none,.none,.none,some (200517,true)]),(10,[.none]),(1000000,[.none])]⟩,ap 11 767)] k Tryz.f163 1
def LW (c0:Int) (t:Tm) (r1:List Cl×Int) (r2:List Tm×Int) (depth:Int) (b10_0:Int) (b8_5:List (Br Tm)) (v55:Int):St UU:=⟨[(2,(iI depth)),(3,(pt 3)),(6,(pt 6)),(8,(pt 8)),(10,(pt 10)),(53,(sB t.sys)),(54,(.int .i64 (t.sys.length:Int))),(55,(iI v55))],[(3,.cells [(.func 227 [] [(pt 1000000)]),(.func 227 [] [(pt 1000000)])]),(6,.cells [(iI 0),(iI 0),(.str ByteArray.empty),(.own 200387 0),(.own 200388 0),(.own 200389 0)]),(8,.cells [(iI t.kind),(iI t.n),(.str t.name),(sC r1.1),(sT r2.1),(.own 200517 0)]),(10,bI b10_0),(1000000,bI c0)],[(200517,⟨0,ET.B,b8_5⟩),(200389,⟨0,ET.B,([]:List (Br Tm))⟩),(200388,⟨0,ET.T,([]:List Tm)⟩),(200387,⟨0,ET.C,([]:List Cl)⟩)],[(200517,.wr),(200389,.wr),(200388,.wr),(200387,.wr)]⟩
section
variable {S:Type} (hd:c_ S) (k:Nat) (t:Tm) (depth c0:Int) (κ:Out UU→Option S)
theorem W9 (r1 r2): ∀n b10_0 b8_5 v55,(Ci hd k).lp κ 13 [] n (LW c0 t r1 r2 depth b10_0 b8_5 v55)=fW hd k (AW c0 κ) c0 t r1 r2 depth n b10_0 b8_5 v55:=eW (wT hd k (AW c0 κ) c0 t r1 r2 depth) rfl (fun _=>rfl) fun r b10_0 b8_5 v55=>by kernel_rfl
end
theorem EG {S:Type} (o:Obj) (ho:ai o): ∀k:Nat,Tl o 163 (rp (dT k:c_ S))
 |0=>dz fun t depth c0 κ x h=>by cases h
 |k+1=>ak (Ci (dT k) k) ⟨aaz o ho k,vw (aaB o ho (dT k) (EG o ho k) k) (aaC o ho (dT k) (EG o ho k) k),JU o ho k,trivial⟩ Tryz.func163 (by kernel_rfl) fun t depth c0 κ x h=>Eq.trans (b:=HG (dT k) k (AW c0 κ) (fun r1 r2 b10_0 b8_5 v55=>(Ci (dT k) k).lp κ 13 [] k (LW c0 t r1 r2 depth b10_0 b8_5 v55)) t depth c0) (by kernel_rfl) (Eq.trans (by simp only [W9];rfl) h)
def A2 {S:Type} (k:Nat):Rw S:=aj E1 xn fun t i a_r κ=>aa k (m_ k t i a_r) (cM κ)
def UJ {S:Type} (k:Nat):Fx S:=fp 48 [(75,oz k),(161,P4 k),(162,P7 k),(163,ol (uy E3 Je) (rn (d7 k)) (rp (dT k))),(164,Oi k)] [] k Tryz.f123 0
theorem D9 {S:Type} (o:Obj) (ho:ai o) (k:Nat):Tl o 123 (A2 k:Rw S):=ak (UJ k) ⟨pN o ho k,ace o ho k,ach o ho k,vw (EF o ho k) (EG o ho k),aax o ho k,trivial⟩ Tryz.func123 (by kernel_rfl) fun t i a_r κ x h=>Eq.trans (by kernel_rfl) (al h)
def Ge {S:Type} (k:Nat):Rw S:=aj Lq cu fun line a_r c0 κ=>aa k (lr k line a_r c0) (gR κ)
def UK {S:Type} (k:Nat):Fx S:=fp 44 [(54,Bf k),(84,my k),(123,A2 k),(140,oy k)] [] k Tryz.f86 1
theorem JV {S:Type} (o:Obj) (ho:ai o) (k:Nat):Tl o 86 (Ge k:Rw S):=ak (UK k) ⟨Ek o ho k,nq o ho k,D9 o ho k,pM o ho k,trivial⟩ Tryz.func86 (by kernel_rfl) fun line a_r c0 κ x h=>Eq.trans (by kernel_rfl) (al h)
def Oo {S:Type} (k:Nat):Rw S:=aj pX xn fun t a sys κ=>aa k (yy k t a sys) (cM κ)
def Cm {S:Type} (k:Nat):Fx S:=fp 76 [(80,GK k),(81,GJ k),(82,Bc k),(83,PY k),(84,my k),(85,PZ k),(86,Ge k),(87,GN k)] [(4,⟨[(4,.none),(6,.none),(8,.none),(9,.none),(27,.none),(28,.none),(29,.none)],[(4,[.none,.none,.none,.none,.none,.none]),(6,[.none,.none,.none,some (200387,true),some (200388,true),some (200389,true)]),(9,[.none,.none,.none,some (200579,true),.none,some (200581,true)]),(19000,[.none])]⟩,ap 6 23)] k Tryz.f52 0
def LZ (a:Tm) (r5:Int×Int×ByteArray×List Tm) (sys:List (Br Tm)) (b19000_0:Int) (b9_5:List (Br Tm)) (v29:Int):St UU:=⟨[(4,(pt 4)),(6,(pt 6)),(8,(pt 19000)),(9,(pt 9)),(27,(sB sys)),(28,(.int .i64 (sys.length:Int))),(29,(iI v29))],[(4,bT a),(6,.cells [(iI 0),(iI 0),(.str ByteArray.empty),(.own 200387 0),(.own 200388 0),(.own 200389 0)]),(9,.cells [(iI r5.1),(iI r5.2.1),(.str r5.2.2.1),(.own 200579 0),(sT r5.2.2.2),(.own 200581 0)]),(19000,bI b19000_0)],[(200581,⟨0,ET.B,b9_5⟩),(200579,⟨0,ET.C,([]:List Cl)⟩),(200389,⟨0,ET.B,([]:List (Br Tm))⟩),(200388,⟨0,ET.T,([]:List Tm)⟩),(200387,⟨0,ET.C,([]:List Cl)⟩)],[(200581,.wr),(200579,.wr),(200389,.wr),(200388,.wr),(200387,.wr)]⟩
section
variable {S:Type} (k:Nat) (t a:Tm) (sys:List (Br Tm)) (κ:Out UU→Option S)
theorem Xb (r5): ∀n b19000_0 b9_5 v29,(Cm k).lp κ 4 [] n (LZ a r5 sys b19000_0 b9_5 v29)=gM k (cM κ) a r5 sys n b19000_0 b9_5 v29:=eW (oQ k (cM κ) a r5 sys) rfl (fun _=>rfl) fun r b19000_0 b9_5 v29=>by kernel_rfl
end
theorem aaD {S:Type} (o:Obj) (ho:ai o) (k:Nat):Tl o 52 (Oo k:Rw S):=ak (Cm k) ⟨Kp o ho k,Ko o ho k,Eh o ho k,ab8 o ho k,nq o ho k,ab9 o ho k,JV o ho k,Ks o ho k,trivial⟩ Tryz.func52 (by kernel_rfl) fun t a sys κ x h=>Eq.trans (b:=Hr k (cM κ) (fun r5 b19000_0 b9_5 v29=>(Cm k).lp κ 4 [] k (LZ a r5 sys b19000_0 b9_5 v29)) t a sys) (by kernel_rfl) (Eq.trans (by simp only [Xb];rfl) (al h))
def jx {S:Type} (k:Nat):Rw S:=aj Lr cu fun t a_e c0 κ=>aa k (fP k t a_e c0) (gR κ)
def UL {S:Type} (k:Nat):Fx S:=fp 23 [] [] k Tryz.f51 1
theorem j8 {S:Type} (o:Obj) (ho:ai o) (k:Nat):Tl o 51 (jx k:Rw S):=ak (UL k) trivial Tryz.func51 (by kernel_rfl) fun t a_e c0 κ x h=>Eq.trans (by kernel_rfl) (al h)
def Oq {S:Type} (k:Nat):Rw S:=aj Ls cu fun t a sys c0 κ=>aa k (y_ k t a sys c0) (gR κ)
def UM {S:Type} (k:Nat):Fx S:=fp 21 [(50,jB k),(51,jx k),(52,Oo k)] [] k Tryz.f23 1
theorem aaE {S:Type} (o:Obj) (ho:ai o) (k:Nat):Tl o 23 (Oq k:Rw S):=ak (UM k) ⟨ke o ho k,j8 o ho k,aaD o ho k,trivial⟩ Tryz.func23 (by kernel_rfl) fun t a sys c0 κ x h=>Eq.trans (by kernel_rfl) (al h)
def Ot {S:Type} (k:Nat):Rw S:=aj EZ B_ fun c0 c1 c2 κ=>aa k (yY k c0 c1 c2) (N_ c0 c1 c2 κ)
def UN {S:Type} (k:Nat):Fx S:=fp 10 [(90,vO (dk k))] [] k Tryz.f89 3
theorem aaF {S:Type} (o:Obj) (ho:ai o) (k:Nat):Tl o 89 (Ot k:Rw S):=ak (UN k) ⟨Ab o ho k,trivial⟩ Tryz.func89 (by kernel_rfl) fun c0 c1 c2 κ x h=>Eq.trans (by kernel_rfl) (al h)
def Ou {S:Type} (k:Nat):Rw S:=aj adY B_ fun t numbers c0 c1 c2 κ=>aa k (y6 k t numbers c0 c1 c2) (mt c0 c1 c2 κ)
def Cn {S:Type} (k:Nat):Fx S:=⟨⟨30,(fun _=>[]),(fun _=>false),.none,fun|6=>true|7=>true|_=>false⟩,[(21,iJ k),(89,Ot k)],[(5,⟨[(2,.none),(6,.none),(7,.none),(17,.none),(18,.none),(19,.none)],[(1000000,[.none]),(1000001,[.none,.none,.none,.none,.none,.none]),(1000002,[.none]),(5000006,[.none,.none,.none,some (320200387,true),some (320200388,true),some (320200389,true)]),(5000007,[.none])]⟩,ap 5 11)],k,Tryz.f88,false,[],3,some (o9 16 141 Tryz.f141 k)⟩
def L0 (c0:Int) (c1:Tm) (c2:Int) (numbers:List Int) (v19:Int):St UU:=⟨[(2,(.func 89 [] [(pt 1000000),(pt 1000001),(pt 1000002)])),(6,(pt 5000006)),(7,(pt 5000007)),(17,(la numbers .none)),(18,(.int .i64 (numbers.length:Int))),(19,(iI v19))],[(1000000,bI c0),(1000001,bT c1),(1000002,bI c2),(5000006,.cells [(iI 0),(iI 0),(.str ByteArray.empty),(.own 320200387 0),(.own 320200388 0),(.own 320200389 0)]),(5000007,bI 0)],[(320200389,⟨0,ET.B,([]:List (Br Tm))⟩),(320200388,⟨0,ET.T,([]:List Tm)⟩),(320200387,⟨0,ET.C,([]:List Cl)⟩)],[(320200389,.wr),(320200388,.wr),(320200387,.wr)]⟩
section
variable {S:Type} (k:Nat) (t:Tm) (numbers:List Int) (c0:Int) (c1:Tm) (c2:Int) (κ:Out UU→Option S)
theorem Xc: ∀n v19,(Cn k).lp κ 5 [] n (L0 c0 c1 c2 numbers v19)=nD k (mt c0 c1 c2 κ) c0 c1 c2 numbers n v19:=cF (xb k (mt c0 c1 c2 κ) c0 c1 c2 numbers) rfl (fun _=>rfl) fun r v19=>by kernel_rfl
end
theorem aaG {S:Type} (o:Obj) (ho:ai o) (k:Nat):Tl o 88 (Ou k:Rw S):=BZ (Cn k) rfl (yn o Tryz.func141 (by kernel_rfl)) ⟨jh o ho k,aaF o ho k,trivial⟩ Tryz.func88 (by kernel_rfl) fun t numbers c0 c1 c2 κ x h=>Eq.trans (b:=BR k (mt c0 c1 c2 κ) (fun v19=>(Cn k).lp κ 5 [] k (L0 c0 c1 c2 numbers v19)) t numbers c0 c1 c2) (by kernel_rfl) (Eq.trans (by simp only [Xc];rfl) (al h))
def Ow {S:Type} (k:Nat):Rw S:=aj amR xn fun t a_from a_by κ=>aa k (pj k t a_from a_by) (cM κ)
def UP {S:Type} (k:Nat):Fx S:=fp 18 [(88,Ou k)] [] k Tryz.f53 0
theorem aaI {S:Type} (o:Obj) (ho:ai o) (k:Nat):Tl o 53 (Ow k:Rw S):=ak (UP k) ⟨aaG o ho k,trivial⟩ Tryz.func53 (by kernel_rfl) fun t a_from a_by κ x h=>Eq.trans (by kernel_rfl) (al h)
def Ox {S:Type} (k:Nat):Rw S:=aj E0 cu fun t vars dims c0 κ=>aa k (y8 k t vars dims c0) (gR κ)
def UQ {S:Type} (k:Nat):Fx S:=fp 32 [(50,jB k),(51,jx k),(53,Ow k),(54,Bf k)] [] k Tryz.f24 1
theorem aaJ {S:Type} (o:Obj) (ho:ai o) (k:Nat):Tl o 24 (Ox k:Rw S):=ak (UQ k) ⟨ke o ho k,j8 o ho k,aaI o ho k,Ek o ho k,trivial⟩ Tryz.func24 (by kernel_rfl) fun t vars dims c0 κ x h=>Eq.trans (by kernel_rfl) (al h)
def vD {S:Type} (hd:dq S):Rw S:=aj dV xn fun t κ=>hd t (aE κ)
def Oy {S:Type} (hd:dq S) (k:Nat):Rw S:=aj Ah cu fun a_k p p' c0 κ=>aa k (ug hd k a_k p p' c0) (cO κ)
def US {S:Type} (hd:dq S) (k:Nat):Fx S:=fp 12 [(92,vD hd)] [] k Tryz.f143 1
theorem aaK {S:Type} (o:Obj) (ho:ai o) (hd:dq S) (Hd:Tl o 92 (vD hd)) (k:Nat):Tl o 143 (Oy hd k:Rw S):=ak (US hd k) ⟨Hd,trivial⟩ Tryz.func143 (by kernel_rfl) fun a_k p p' c0 κ x h=>Eq.trans (by kernel_rfl) (al h)
def Oz {S:Type} (hd:dq S) (k:Nat):Rw S:=aj adZ cu fun t c0 κ=>aa k (DY hd k t c0) (cO κ)
def mI {S:Type} (hd:dq S) (k:Nat):Fx S:=fp 60 [(36,jA k),(143,Oy hd k)] [(2,aS [1,2,15,16,17] [(2,6),(1000000,1)],ap 4 5),(12,aS [1,9,40,41,42] [(1000000,1)],ap 7 47),(15,aS [1,9,40,41,42,47,48,49] [(1000000,1)],ap 15 13103)] k Tryz.f71 1
def Fr (t:Tm) (e0_0 v17:Int):St UU:=⟨[(1,(.func 143 [] [(pt 1000000)])),(2,(pt 2)),(15,(sT t.kids)),(16,(.int .i64 (t.kids.length:Int))),(17,(iI v17))],[(2,bT t),(1000000,bI e0_0)],[],[]⟩
def uU (t:Tm) (e0_0' v42 more9:Int):St UU:=⟨[(1,(.func 143 [] [(pt 1000000)])),(9,(iI more9)),(40,(sB t.sys)),(41,(.int .i64 (t.sys.length:Int))),(42,(iI v42))],[(1000000,bI e0_0')],[],[]⟩
def L3 (t:Tm) (v42:Int) (x4:(Br Tm)) (more9:Int) (e0_0'' v49:Int):St UU:=⟨[(1,(.func 143 [] [(pt 1000000)])),(9,(iI more9)),(40,(sB t.sys)),(41,(.int .i64 (t.sys.length:Int))),(42,(iI v42)),(47,(sT x4.kids)),(48,(.int .i64 (x4.kids.length:Int))),(49,(iI v49))],[(1000000,bI e0_0'')],[],[]⟩
section
variable {S:Type} (hd:dq S) (k:Nat) (t:Tm) (c0:Int) (κ:Out UU→Option S)
theorem Xf (v42 x4 more9 κ1): ∀n e0_0'' v49,(mI hd k).lp κ 15 [κ1] n (L3 t v42 x4 more9 e0_0'' v49)=n4 hd k (cO κ) (fun e0_0' v42 more9=>κ1 (uU t e0_0' v42 more9)) t v42 x4 more9 n e0_0'' v49:=aL (yj hd k (cO κ) t v42 x4 more9 (fun e0_0' v42 more9=>κ1 (uU t e0_0' v42 more9))) rfl (fun _=>rfl) fun r e0_0'' v49=>by kernel_rfl
theorem Xe: ∀n e0_0' v42 more9,(mI hd k).lp κ 12 [] n (uU t e0_0' v42 more9)=kM hd k (cO κ) t n e0_0' v42 more9:=eW (fun own=>tr hd k (cO κ) t (fun v42 x4 more9 e0_0'' v49=>n4 hd k (cO κ) own t v42 x4 more9 k e0_0'' v49) own) rfl (fun _=>rfl) fun r e0_0' v42 more9=>Eq.trans (b:=tr hd k (cO κ) t (fun v42 x4 more9 e0_0'' v49=>(mI hd k).lp κ 15 [r] k (L3 t v42 x4 more9 e0_0'' v49)) (fun e0_0' v42 more9=>r (uU t e0_0' v42 more9)) e0_0' v42 more9) (by kernel_rfl) (by simp only [Xf])
theorem Xd: ∀n e0_0 v17,(mI hd k).lp κ 2 [] n (Fr t e0_0 v17)=qT hd k (cO κ) t n e0_0 v17:=aL (fun own=>tq hd k (cO κ) t (fun e0_0' v42 more9=>kM hd k (cO κ) t k e0_0' v42 more9) own) rfl (fun _=>rfl) fun r e0_0 v17=>Eq.trans (b:=tq hd k (cO κ) t (fun e0_0' v42 more9=>(mI hd k).lp κ 12 [] k (uU t e0_0' v42 more9)) (fun e0_0 v17=>r (Fr t e0_0 v17)) e0_0 v17) (by kernel_rfl) (by simp only [Xe])
end
theorem aaL {S:Type} (o:Obj) (ho:ai o) (hd:dq S) (Hd:Tl o 92 (vD hd)) (k:Nat):Tl o 71 (Oz hd k:Rw S):=ak (mI hd k) ⟨kc o ho k,aaK o ho hd Hd k,trivial⟩ Tryz.func71 (by kernel_rfl) fun t c0 κ x h=>Eq.trans (b:=IW hd k (cO κ) (fun e0_0 v17=>(mI hd k).lp κ 2 [] k (Fr t e0_0 v17)) t c0) (by kernel_rfl) (Eq.trans (by simp only [Xd];rfl) (al h))
def UR {S:Type} (hd:dq S) (k:Nat):Fx S:=fp 8 [(71,Oz hd k)] [] k Tryz.f92 0
theorem KU {S:Type} (o:Obj) (ho:ai o): ∀k:Nat,Tl o 92 (vD (j6 k:dq S))
 |0=>dz fun t κ x h=>by cases h
 |k+1=>ak (UR (j6 k) k) ⟨aaL o ho (j6 k) (KU o ho k) k,trivial⟩ Tryz.func92 (by kernel_rfl) fun t κ x h=>Eq.trans (by kernel_rfl) h
end
end Go.Proofs.YtfkkpkhfjpaafaaGreatDoor
namespace Go.Proofs.YtfkkpkhfjpaafaaGreatDoor
open Go PI
set_option linter.unusedVariables false
set_option maxRecDepth 100000
noncomputable section
def Gf {S:Type} (hd:fK S):Rw S:=aj pW xn fun t a_n κ=>hd t a_n (aE κ)
def jN {S:Type} (hd:fK S) (k:Nat):Fx S:=fp 68 [(36,jA k),(93,Gf hd)] [(1000003,aS [1,2] [(2,6)],ap 2 3),(5,aS [1,2,5,24,25,26] [(2,6)],ap 6 23),(11,aS [1,5,47,48,49] [],ap 7 47),(14,aS [1,5,47,48,49,54,55,56] [],ap 15 13103)] k Tryz.f93 0
def L4 (t:Tm) (a_n:Int):St UU:=⟨[(1,(iI a_n)),(2,(pt 2))],[(2,bT t)],[],[]⟩
def Fs (t:Tm) (a_n:Int) (v26 sum5:Int):St UU:=⟨[(1,(iI a_n)),(2,(pt 2)),(5,(iI sum5)),(24,(sT t.kids)),(25,(.int .i64 (t.kids.length:Int))),(26,(iI v26))],[(2,bT t)],[],[]⟩
def uV (a_n:Int) (t:Tm) (v49 sum5':Int):St UU:=⟨[(1,(iI a_n)),(5,(iI sum5')),(47,(sB t.sys)),(48,(.int .i64 (t.sys.length:Int))),(49,(iI v49))],[],[],[]⟩
def L5 (a_n:Int) (t:Tm) (v49:Int) (x4:(Br Tm)) (sum5'' v56:Int):St UU:=⟨[(1,(iI a_n)),(5,(iI sum5'')),(47,(sB t.sys)),(48,(.int .i64 (t.sys.length:Int))),(49,(iI v49)),(54,(sT x4.kids)),(55,(.int .i64 (x4.kids.length:Int))),(56,(iI v56))],[],[],[]⟩
section
variable {S:Type} (hd:fK S) (k:Nat) (t:Tm) (a_n:Int) (κ:Out UU→Option S)
theorem Xj (v49 x4 κ2): ∀n sum5'' v56,(jN hd k).lp κ 14 [κ2] n (L5 a_n t v49 x4 sum5'' v56)=nG hd k (aE κ) (fun v49 sum5'=>κ2 (uV a_n t v49 sum5')) a_n t v49 x4 n sum5'' v56:=aL (xh hd k (aE κ) a_n t v49 x4 (fun v49 sum5'=>κ2 (uV a_n t v49 sum5'))) rfl (fun _=>rfl) fun r sum5'' v56=>by kernel_rfl
theorem Xi: ∀n v49 sum5',(jN hd k).lp κ 11 [] n (uV a_n t v49 sum5')=ku hd k (aE κ) a_n t n v49 sum5':=aL (fun own=>sE hd k (aE κ) a_n t (fun v49 x4 sum5'' v56=>nG hd k (aE κ) own a_n t v49 x4 k sum5'' v56) own) rfl (fun _=>rfl) fun r v49 sum5'=>Eq.trans (b:=sE hd k (aE κ) a_n t (fun v49 x4 sum5'' v56=>(jN hd k).lp κ 14 [r] k (L5 a_n t v49 x4 sum5'' v56)) (fun v49 sum5'=>r (uV a_n t v49 sum5')) v49 sum5') (by kernel_rfl) (by simp only [Xj])
theorem Xh: ∀n v26 sum5,(jN hd k).lp κ 5 [] n (Fs t a_n v26 sum5)=nF hd k (aE κ) t a_n n v26 sum5:=aL (fun own=>sD hd k (aE κ) t a_n (fun v49 sum5'=>ku hd k (aE κ) a_n t k v49 sum5') own) rfl (fun _=>rfl) fun r v26 sum5=>Eq.trans (b:=sD hd k (aE κ) t a_n (fun v49 sum5'=>(jN hd k).lp κ 11 [] k (uV a_n t v49 sum5')) (fun v26 sum5=>r (Fs t a_n v26 sum5)) v26 sum5) (by kernel_rfl) (by simp only [Xi])
theorem Xg: ∀n,(jN hd k).jn κ 1000003 [] n (L4 t a_n)=Ak hd k (aE κ) t a_n n:=gL (xg hd k (aE κ) t a_n (fun v26 sum5=>nF hd k (aE κ) t a_n k v26 sum5)) rfl (fun _=>rfl) (Eq.trans (b:=xg hd k (aE κ) t a_n (fun v26 sum5=>(jN hd k).lp κ 5 [] k (Fs t a_n v26 sum5))) (by kernel_rfl) (by simp only [Xh]))
end
theorem KV {S:Type} (o:Obj) (ho:ai o): ∀k:Nat,Tl o 93 (Gf (gz k:fK S))
 |0=>dz fun t a_n κ x h=>by cases h
 |k+1=>ak (jN (gz k) k) ⟨kc o ho k,KV o ho k,trivial⟩ Tryz.func93 (by kernel_rfl) fun t a_n κ x h=>Eq.trans (b:=BU (gz k) k (aE κ) ((jN (gz k) k).jn κ 1000003 [] k (L4 t a_n)) t a_n) (by kernel_rfl) (Eq.trans (by simp only [Xg];rfl) h)
def OA {S:Type} (k:Nat):Rw S:=aj dV xn fun t κ=>aa k (ze k t) (aE κ)
def UT {S:Type} (k:Nat):Fx S:=fp 6 [] [] k Tryz.f144 0
theorem aaM {S:Type} (o:Obj) (ho:ai o) (k:Nat):Tl o 144 (OA k:Rw S):=ak (UT k) trivial Tryz.func144 (by kernel_rfl) fun t κ x h=>Eq.trans (by kernel_rfl) (al h)
def Gg {S:Type} (hd:gX S):Rw S:=aj Lt xn fun t a_n u vars dims κ=>hd t a_n u vars dims (ah κ)
def mJ {S:Type} (hd:gX S) (k:Nat):Fx S:=fp 137 [(36,jA k),(56,Be k),(95,Gg hd),(144,OA k)] [(12,⟨[(1,.none),(3,.none),(4,.none),(5,.none),(7,.none),(10,.none),(13,.none),(66,.none),(67,.none),(68,.none)],[(5,[.none,.none,.none,.none,.none,.none]),(7,[.none,.none,.none,.none,.none,.none]),(10,[.none,.none,.none,some (200643,true),some (200644,true),some (200645,true)]),(13,[.none,.none,.none,some (200835,true),some (200836,true),some (200837,true)])]⟩,ap 6 23),(18,⟨[(1,.none),(3,.none),(4,.none),(5,.none),(7,.none),(10,.none),(13,.none),(97,.none),(98,.none),(99,.none)],[(5,[.none,.none,.none,.none,.none,.none]),(7,[.none,.none,.none,.none,.none,.none]),(10,[.none,.none,.none,some (200643,true),some (200644,true),some (200645,true)]),(13,[.none,.none,.none,some (200835,true),some (200836,true),some (200837,true)])]⟩,ap 7 47),(22,⟨[(1,.none),(3,.none),(4,.none),(5,.none),(7,.none),(10,.none),(13,.none),(20,.none),(97,.none),(98,.none),(99,.none),(108,.none),(109,.none),(110,.none)],[(5,[.none,.none,.none,.none,.none,.none]),(7,[.none,.none,.none,.none,.none,.none]),(10,[.none,.none,.none,some (200643,true),some (200644,true),some (200645,true)]),(13,[.none,.none,.none,some (200835,true),some (200836,true),some (200837,true)]),(20,[some (201280,true),some (201281,true)])]⟩,ap 17 45871)] k Tryz.f95 0
def Ft (t u:Tm) (a_n vars dims:Int) (b13_4:List Tm) (v68:Int):St UU:=⟨[(1,(iI a_n)),(3,(iI vars)),(4,(iI dims)),(5,(pt 5)),(7,(pt 7)),(10,(pt 10)),(13,(pt 13)),(66,(sT t.kids)),(67,(.int .i64 (t.kids.length:Int))),(68,(iI v68))],[(5,bT t),(7,bT u),(10,.cells [(iI 0),(iI 0),(.str ByteArray.empty),(.own 200643 0),(.own 200644 0),(.own 200645 0)]),(13,.cells [(iI t.kind),(iI 0),(.str t.name),(.own 200835 0),(.own 200836 0),(.own 200837 0)])],[(200837,⟨0,ET.B,([]:List (Br Tm))⟩),(200836,⟨0,ET.T,b13_4⟩),(200835,⟨0,ET.C,t.r⟩),(200645,⟨0,ET.B,([]:List (Br Tm))⟩),(200644,⟨0,ET.T,([]:List Tm)⟩),(200643,⟨0,ET.C,([]:List Cl)⟩)],[(200837,.wr),(200836,.wr),(200835,.wr),(200645,.wr),(200644,.wr),(200643,.wr)]⟩
def uW (t:Tm) (b13_4:List Tm) (u:Tm) (a_n vars dims:Int) (b13_5:List (Br Tm)) (v99:Int):St UU:=⟨[(1,(iI a_n)),(3,(iI vars)),(4,(iI dims)),(5,(pt 5)),(7,(pt 7)),(10,(pt 10)),(13,(pt 13)),(97,(sB t.sys)),(98,(.int .i64 (t.sys.length:Int))),(99,(iI v99))],[(5,bT t),(7,bT u),(10,.cells [(iI 0),(iI 0),(.str ByteArray.empty),(.own 200643 0),(.own 200644 0),(.own 200645 0)]),(13,.cells [(iI t.kind),(iI 0),(.str t.name),(.own 200835 0),(.own 200836 0),(.own 200837 0)])],[(200837,⟨0,ET.B,b13_5⟩),(200836,⟨0,ET.T,b13_4⟩),(200835,⟨0,ET.C,t.r⟩),(200645,⟨0,ET.B,([]:List (Br Tm))⟩),(200644,⟨0,ET.T,([]:List Tm)⟩),(200643,⟨0,ET.C,([]:List Cl)⟩)],[(200837,.wr),(200836,.wr),(200835,.wr),(200645,.wr),(200644,.wr),(200643,.wr)]⟩
def L6 (t:Tm) (b13_4:List Tm) (b13_5:List (Br Tm)) (x9:(Br Tm)) (u:Tm) (a_n vars dims v99:Int) (b20_1:List Tm) (v110:Int):St UU:=⟨[(1,(iI a_n)),(3,(iI vars)),(4,(iI dims)),(5,(pt 5)),(7,(pt 7)),(10,(pt 10)),(13,(pt 13)),(20,(pt 20)),(97,(sB t.sys)),(98,(.int .i64 (t.sys.length:Int))),(99,(iI v99)),(108,(sT x9.kids)),(109,(.int .i64 (x9.kids.length:Int))),(110,(iI v110))],[(5,bT t),(7,bT u),(10,.cells [(iI 0),(iI 0),(.str ByteArray.empty),(.own 200643 0),(.own 200644 0),(.own 200645 0)]),(13,.cells [(iI t.kind),(iI 0),(.str t.name),(.own 200835 0),(.own 200836 0),(.own 200837 0)]),(20,.cells [(.own 201280 0),(.own 201281 0)])],[(201281,⟨0,ET.T,b20_1⟩),(201280,⟨0,ET.C,x9.face⟩),(200837,⟨0,ET.B,b13_5⟩),(200836,⟨0,ET.T,b13_4⟩),(200835,⟨0,ET.C,t.r⟩),(200645,⟨0,ET.B,([]:List (Br Tm))⟩),(200644,⟨0,ET.T,([]:List Tm)⟩),(200643,⟨0,ET.C,([]:List Cl)⟩)],[(201281,.wr),(201280,.wr),(200837,.wr),(200836,.wr),(200835,.wr),(200645,.wr),(200644,.wr),(200643,.wr)]⟩
section
variable {S:Type} (hd:gX S) (k:Nat) (t:Tm) (a_n:Int) (u:Tm) (vars dims:Int) (κ:Out UU→Option S)
theorem Xm (b13_4 b13_5 x9 v99 κ1): ∀n b20_1 v110,(mJ hd k).lp κ 22 [κ1] n (L6 t b13_4 b13_5 x9 u a_n vars dims v99 b20_1 v110)=nH hd k (ah κ) (fun b13_5 v99=>κ1 (uW t b13_4 u a_n vars dims b13_5 v99)) t b13_4 b13_5 x9 u a_n vars dims v99 n b20_1 v110:=aL (xj hd k (ah κ) t b13_4 b13_5 x9 u a_n vars dims v99 (fun b13_5 v99=>κ1 (uW t b13_4 u a_n vars dims b13_5 v99))) rfl (fun _=>rfl) fun r b20_1 v110=>by kernel_rfl
theorem Xl (b13_4): ∀n b13_5 v99,(mJ hd k).lp κ 18 [] n (uW t b13_4 u a_n vars dims b13_5 v99)=kw hd k (ah κ) t b13_4 u a_n vars dims n b13_5 v99:=aL (fun own=>sG hd k (ah κ) t b13_4 u a_n vars dims (fun b13_5 x9 v99 b20_1 v110=>nH hd k (ah κ) own t b13_4 b13_5 x9 u a_n vars dims v99 k b20_1 v110) own) rfl (fun _=>rfl) fun r b13_5 v99=>Eq.trans (b:=sG hd k (ah κ) t b13_4 u a_n vars dims (fun b13_5 x9 v99 b20_1 v110=>(mJ hd k).lp κ 22 [r] k (L6 t b13_4 b13_5 x9 u a_n vars dims v99 b20_1 v110)) (fun b13_5 v99=>r (uW t b13_4 u a_n vars dims b13_5 v99)) b13_5 v99) (by kernel_rfl) (by simp only [Xm])
theorem Xk: ∀n b13_4 v68,(mJ hd k).lp κ 12 [] n (Ft t u a_n vars dims b13_4 v68)=qj hd k (ah κ) t u a_n vars dims n b13_4 v68:=aL (fun own=>sF hd k (ah κ) t u a_n vars dims (fun b13_4 b13_5 v99=>kw hd k (ah κ) t b13_4 u a_n vars dims k b13_5 v99) own) rfl (fun _=>rfl) fun r b13_4 v68=>Eq.trans (b:=sF hd k (ah κ) t u a_n vars dims (fun b13_4 b13_5 v99=>(mJ hd k).lp κ 18 [] k (uW t b13_4 u a_n vars dims b13_5 v99)) (fun b13_4 v68=>r (Ft t u a_n vars dims b13_4 v68)) b13_4 v68) (by kernel_rfl) (by simp only [Xl])
end
theorem KW {S:Type} (o:Obj) (ho:ai o): ∀k:Nat,Tl o 95 (Gg (gA k:gX S))
 |0=>dz fun t a_n u vars dims κ x h=>by cases h
 |k+1=>ak (mJ (gA k) k) ⟨kc o ho k,Ej o ho k,KW o ho k,aaM o ho k,trivial⟩ Tryz.func95 (by kernel_rfl) fun t a_n u vars dims κ x h=>Eq.trans (b:=H2 (gA k) k (ah κ) (fun b13_4 v68=>(mJ (gA k) k).lp κ 12 [] k (Ft t u a_n vars dims b13_4 v68)) t a_n u vars dims) (by kernel_rfl) (Eq.trans (by simp only [Xk];rfl) h)
def vE {S:Type} (hd:dp S):Rw S:=aj dV xn fun t κ=>hd t (aE κ)
def OB {S:Type} (hd:dp S) (k:Nat):Rw S:=aj Ah cu fun a_k p p' c0 κ=>aa k (uf hd k a_k p p' c0) (cO κ)
def UW {S:Type} (hd:dp S) (k:Nat):Fx S:=fp 12 [(96,vE hd)] [] k Tryz.f145 1
theorem aaN {S:Type} (o:Obj) (ho:ai o) (hd:dp S) (Hd:Tl o 96 (vE hd)) (k:Nat):Tl o 145 (OB hd k:Rw S):=ak (UW hd k) ⟨Hd,trivial⟩ Tryz.func145 (by kernel_rfl) fun a_k p p' c0 κ x h=>Eq.trans (by kernel_rfl) (al h)
def OD {S:Type} (hd:dp S) (k:Nat):Rw S:=aj ad0 cu fun t c0 κ=>aa k (DZ hd k t c0) (cO κ)
def mK {S:Type} (hd:dp S) (k:Nat):Fx S:=fp 60 [(36,jA k),(145,OB hd k)] [(2,aS [1,2,15,16,17] [(2,6),(1000000,1)],ap 4 5),(12,aS [1,9,40,41,42] [(1000000,1)],ap 7 47),(15,aS [1,9,40,41,42,47,48,49] [(1000000,1)],ap 15 13103)] k Tryz.f71 1
def Fv (t:Tm) (e0_0 v17:Int):St UU:=⟨[(1,(.func 145 [] [(pt 1000000)])),(2,(pt 2)),(15,(sT t.kids)),(16,(.int .i64 (t.kids.length:Int))),(17,(iI v17))],[(2,bT t),(1000000,bI e0_0)],[],[]⟩
def uX (t:Tm) (e0_0' v42 more9:Int):St UU:=⟨[(1,(.func 145 [] [(pt 1000000)])),(9,(iI more9)),(40,(sB t.sys)),(41,(.int .i64 (t.sys.length:Int))),(42,(iI v42))],[(1000000,bI e0_0')],[],[]⟩
def L7 (t:Tm) (v42:Int) (x4:(Br Tm)) (more9:Int) (e0_0'' v49:Int):St UU:=⟨[(1,(.func 145 [] [(pt 1000000)])),(9,(iI more9)),(40,(sB t.sys)),(41,(.int .i64 (t.sys.length:Int))),(42,(iI v42)),(47,(sT x4.kids)),(48,(.int .i64 (x4.kids.length:Int))),(49,(iI v49))],[(1000000,bI e0_0'')],[],[]⟩
section
variable {S:Type} (hd:dp S) (k:Nat) (t:Tm) (c0:Int) (κ:Out UU→Option S)
theorem Xp (v42 x4 more9 κ1): ∀n e0_0'' v49,(mK hd k).lp κ 15 [κ1] n (L7 t v42 x4 more9 e0_0'' v49)=n5 hd k (cO κ) (fun e0_0' v42 more9=>κ1 (uX t e0_0' v42 more9)) t v42 x4 more9 n e0_0'' v49:=aL (yk hd k (cO κ) t v42 x4 more9 (fun e0_0' v42 more9=>κ1 (uX t e0_0' v42 more9))) rfl (fun _=>rfl) fun r e0_0'' v49=>by kernel_rfl
theorem Xo: ∀n e0_0' v42 more9,(mK hd k).lp κ 12 [] n (uX t e0_0' v42 more9)=kN hd k (cO κ) t n e0_0' v42 more9:=eW (fun own=>tu hd k (cO κ) t (fun v42 x4 more9 e0_0'' v49=>n5 hd k (cO κ) own t v42 x4 more9 k e0_0'' v49) own) rfl (fun _=>rfl) fun r e0_0' v42 more9=>Eq.trans (b:=tu hd k (cO κ) t (fun v42 x4 more9 e0_0'' v49=>(mK hd k).lp κ 15 [r] k (L7 t v42 x4 more9 e0_0'' v49)) (fun e0_0' v42 more9=>r (uX t e0_0' v42 more9)) e0_0' v42 more9) (by kernel_rfl) (by simp only [Xp])
theorem Xn: ∀n e0_0 v17,(mK hd k).lp κ 2 [] n (Fv t e0_0 v17)=qU hd k (cO κ) t n e0_0 v17:=aL (fun own=>tt hd k (cO κ) t (fun e0_0' v42 more9=>kN hd k (cO κ) t k e0_0' v42 more9) own) rfl (fun _=>rfl) fun r e0_0 v17=>Eq.trans (b:=tt hd k (cO κ) t (fun e0_0' v42 more9=>(mK hd k).lp κ 12 [] k (uX t e0_0' v42 more9)) (fun e0_0 v17=>r (Fv t e0_0 v17)) e0_0 v17) (by kernel_rfl) (by simp only [Xo])
end
theorem aaP {S:Type} (o:Obj) (ho:ai o) (hd:dp S) (Hd:Tl o 96 (vE hd)) (k:Nat):Tl o 71 (OD hd k:Rw S):=ak (mK hd k) ⟨kc o ho k,aaN o ho hd Hd k,trivial⟩ Tryz.func71 (by kernel_rfl) fun t c0 κ x h=>Eq.trans (b:=IX hd k (cO κ) (fun e0_0 v17=>(mK hd k).lp κ 2 [] k (Fv t e0_0 v17)) t c0) (by kernel_rfl) (Eq.trans (by simp only [Xn];rfl) (al h))
def UV {S:Type} (hd:dp S) (k:Nat):Fx S:=fp 9 [(71,OD hd k)] [] k Tryz.f96 0
theorem KX {S:Type} (o:Obj) (ho:ai o): ∀k:Nat,Tl o 96 (vE (j5 k:dp S))
 |0=>dz fun t κ x h=>by cases h
 |k+1=>ak (UV (j5 k) k) ⟨aaP o ho (j5 k) (KX o ho k) k,trivial⟩ Tryz.func96 (by kernel_rfl) fun t κ x h=>Eq.trans (by kernel_rfl) h
def OE {S:Type} (k:Nat):Rw S:=aj Lu xn fun t a_n u κ=>aa k (zd k t a_n u) (cM κ)
def UY {S:Type} (k:Nat):Fx S:=⟨⟨49,(fun _=>[]),(fun _=>false),.none,fun|6=>true|7=>true|_=>false⟩,[(21,iJ k),(92,vD (j6 k)),(93,Gf (gz k)),(95,Gg (gA k)),(96,vE (j5 k))],[],k,Tryz.f55,false,[],0,some (o9 16 94 Tryz.f94 k)⟩
theorem aaQ {S:Type} (o:Obj) (ho:ai o) (k:Nat):Tl o 55 (OE k:Rw S):=BZ (UY k) rfl (yn o Tryz.func94 (by kernel_rfl)) ⟨jh o ho k,KU o ho k,KV o ho k,KW o ho k,KX o ho k,trivial⟩ Tryz.func55 (by kernel_rfl) fun t a_n u κ x h=>Eq.trans (by kernel_rfl) (al h)
def OF {S:Type} (k:Nat):Rw S:=aj ad1 cu fun t u c0 κ=>aa k (za k t u c0) (gR κ)
def UZ {S:Type} (k:Nat):Fx S:=fp 18 [(50,jB k),(51,jx k),(55,OE k)] [] k Tryz.f25 1
theorem aaR {S:Type} (o:Obj) (ho:ai o) (k:Nat):Tl o 25 (OF k:Rw S):=ak (UZ k) ⟨ke o ho k,j8 o ho k,aaQ o ho k,trivial⟩ Tryz.func25 (by kernel_rfl) fun t u c0 κ x h=>Eq.trans (by kernel_rfl) (al h)
def OG {S:Type} (k:Nat):Rw S:=aj E0 cu fun t vars dims c0 κ=>aa k (zb k t vars dims c0) (gR κ)
def U0 {S:Type} (k:Nat):Fx S:=fp 21 [(50,jB k),(51,jx k),(56,Be k)] [] k Tryz.f27 1
theorem aaS {S:Type} (o:Obj) (ho:ai o) (k:Nat):Tl o 27 (OG k:Rw S):=ak (U0 k) ⟨ke o ho k,j8 o ho k,Ej o ho k,trivial⟩ Tryz.func27 (by kernel_rfl) fun t vars dims c0 κ x h=>Eq.trans (by kernel_rfl) (al h)
def OH {S:Type} (k:Nat):Rw S:=aj Ag xn fun kind kids κ=>aa k (zc k kind kids) (F9 κ)
def U1 {S:Type} (k:Nat):Fx S:=fx 8 (fun _=>[]) (fun _=>false) [] [] k Tryz.f28 true [] 0
theorem aaT {S:Type} (o:Obj) (ho:ai o) (k:Nat):Tl o 28 (OH k:Rw S):=ak (U1 k) trivial Tryz.func28 (by kernel_rfl) fun kind kids κ x h=>Eq.trans (by kernel_rfl) (al h)
def OI {S:Type} (k:Nat):Rw S:=aj ad2 aly fun p a_by a_x c0 c1 c3 κ=>aa k (nc k p a_by a_x c0 c1 c3) (AZ c0 c1 κ)
def Co {S:Type} (k:Nat):Fx S:=fx 42 (fun _=>[]) (fun _=>false) [(27,OG k),(28,OH k)] [(3,⟨[(1,.none),(3,.none),(5,.none),(8,.none),(9,.none),(10,some (100010,false)),(18,.none),(19,.none),(20,.none)],[(8,[.none,.none,.none,.none,.none,.none]),(9,[.none,.none,.none,some (200579,true),some (200580,true),some (200581,true)]),(1000000,[.none,.none,.none,.none,.none,.none]),(1000001,[.none]),(1000002,[.none]),(1000003,[.none])]⟩,ap 5 11)] k Tryz.f26 true [] 4
def L8 (c0:Tm) (c1:Int) (a_x:Tm) (a_by:Int) (e3_0:Int) (kids10:List Tm) (v20:Int):St UU:=⟨[(1,(iI a_by)),(3,(pt 1000000)),(5,(pt 1000002)),(8,(pt 8)),(9,(pt 9)),(10,(.own 100010 0)),(18,(dO (List.drop (Int.toNat 1) (List.take (Int.toNat c1) c0.kids)) .none)),(19,(.int .i64 ((List.drop (Int.toNat 1) (List.take (Int.toNat c1) c0.kids)).length:Int))),(20,(iI v20))],[(8,bT a_x),(9,.cells [(iI 0),(iI 0),(.str ByteArray.empty),(.own 200579 0),(.own 200580 0),(.own 200581 0)]),(1000000,bT c0),(1000001,bI c1),(1000002,.cells [(pt 1000003)]),(1000003,bI e3_0)],[(200581,⟨0,ET.B,([]:List (Br Tm))⟩),(200580,⟨0,ET.T,([]:List Tm)⟩),(200579,⟨0,ET.C,([]:List Cl)⟩),(100010,⟨0,ET.T,kids10⟩)],[(200581,.wr),(200580,.wr),(200579,.wr),(100010,.app)]⟩
section
variable {S:Type} (k:Nat) (p:Tm) (a_by:Int) (a_x c0:Tm) (c1 c3:Int) (κ:Out UU→Option S)
theorem Xq: ∀n e3_0 kids10 v20,(Co k).lp κ 3 [] n (L8 c0 c1 a_x a_by e3_0 kids10 v20)=kq k (AZ c0 c1 κ) c0 c1 a_x a_by n e3_0 kids10 v20:=eW (oS k (AZ c0 c1 κ) c0 c1 a_x a_by) rfl (fun _=>rfl) fun r e3_0 kids10 v20=>by kernel_rfl
end
theorem aaU {S:Type} (o:Obj) (ho:ai o) (k:Nat):Tl o 26 (OI k:Rw S):=ak (Co k) ⟨aaS o ho k,aaT o ho k,trivial⟩ Tryz.func26 (by kernel_rfl) fun p a_by a_x c0 c1 c3 κ x h=>Eq.trans (b:=BP k (AZ c0 c1 κ) (fun e3_0 kids10 v20=>(Co k).lp κ 3 [] k (L8 c0 c1 a_x a_by e3_0 kids10 v20)) p a_by a_x c0 c1 c3) (by kernel_rfl) (Eq.trans (by simp only [Xq];rfl) (al h))
def Gi {S:Type} (k:Nat):Rw S:=aj ad4 xn fun f kids κ=>aa k (nf k f kids) (aie κ)
def U2 {S:Type} (k:Nat):Fx S:=fp 8 [] [] k Tryz.f29 0
theorem JW {S:Type} (o:Obj) (ho:ai o) (k:Nat):Tl o 29 (Gi k:Rw S):=ak (U2 k) trivial Tryz.func29 (by kernel_rfl) fun f kids κ x h=>Eq.trans (by kernel_rfl) (al h)
def OJ {S:Type} (k:Nat):Rw S:=aj Ai cu fun line c0 κ=>aa k (yz k line c0) (gR κ)
def U3 {S:Type} (k:Nat):Fx S:=fp 25 [(74,Bj k),(84,my k),(123,A2 k),(140,oy k)] [] k Tryz.f98 1
theorem aaV {S:Type} (o:Obj) (ho:ai o) (k:Nat):Tl o 98 (OJ k:Rw S):=ak (U3 k) ⟨Eo o ho k,nq o ho k,D9 o ho k,pM o ho k,trivial⟩ Tryz.func98 (by kernel_rfl) fun line c0 κ x h=>Eq.trans (by kernel_rfl) (al h)
def OK {S:Type} (k:Nat):Rw S:=aj pX xn fun line a sys κ=>aa k (yx k line a sys) (cM κ)
def Cp {S:Type} (k:Nat):Fx S:=fp 78 [(22,ox (dJ k)),(80,GK k),(81,GJ k),(82,Bc k),(84,my k),(86,Ge k),(87,GN k),(98,OJ k)] [(5,⟨[(3,.none),(6,.none),(8,.none),(9,.none),(36,.none),(37,.none),(38,.none)],[(3,[.none,.none,.none,.none,.none,.none]),(6,[.none,.none,.none,some (200387,true),some (200388,true),some (200389,true)]),(9,[.none,.none,.none,some (200579,true),.none,some (200581,true)]),(19000,[.none])]⟩,ap 7 47)] k Tryz.f57 0
def L9 (r3:Tm) (r9:Int×Int×ByteArray×List Tm) (r6:Tm) (b19000_0:Int) (b9_5:List (Br Tm)) (v38:Int):St UU:=⟨[(3,(pt 3)),(6,(pt 6)),(8,(pt 19000)),(9,(pt 9)),(36,(sB r6.sys)),(37,(.int .i64 (r6.sys.length:Int))),(38,(iI v38))],[(3,bT r3),(6,.cells [(iI 0),(iI 0),(.str ByteArray.empty),(.own 200387 0),(.own 200388 0),(.own 200389 0)]),(9,.cells [(iI r9.1),(iI r9.2.1),(.str r9.2.2.1),(.own 200579 0),(sT r9.2.2.2),(.own 200581 0)]),(19000,bI b19000_0)],[(200581,⟨0,ET.B,b9_5⟩),(200579,⟨0,ET.C,([]:List Cl)⟩),(200389,⟨0,ET.B,([]:List (Br Tm))⟩),(200388,⟨0,ET.T,([]:List Tm)⟩),(200387,⟨0,ET.C,([]:List Cl)⟩)],[(200581,.wr),(200579,.wr),(200389,.wr),(200388,.wr),(200387,.wr)]⟩
section
variable {S:Type} (k:Nat) (line a:Tm) (sys:List (Br Tm)) (κ:Out UU→Option S)
theorem Xr (r3 r9 r6): ∀n b19000_0 b9_5 v38,(Cp k).lp κ 5 [] n (L9 r3 r9 r6 b19000_0 b9_5 v38)=ko k (cM κ) r3 r9 r6 n b19000_0 b9_5 v38:=eW (oP k (cM κ) r3 r9 r6) rfl (fun _=>rfl) fun r b19000_0 b9_5 v38=>by kernel_rfl
end
theorem aaW {S:Type} (o:Obj) (ho:ai o) (k:Nat):Tl o 57 (OK k:Rw S):=ak (Cp k) ⟨uD o ho k,Kp o ho k,Ko o ho k,Eh o ho k,nq o ho k,JV o ho k,Ks o ho k,aaV o ho k,trivial⟩ Tryz.func57 (by kernel_rfl) fun line a sys κ x h=>Eq.trans (b:=Hq k (cM κ) (fun r3 r9 r6 b19000_0 b9_5 v38=>(Cp k).lp κ 5 [] k (L9 r3 r9 r6 b19000_0 b9_5 v38)) line a sys) (by kernel_rfl) (Eq.trans (by simp only [Xr];rfl) (al h))
def OL {S:Type} (k:Nat):Rw S:=aj Ls cu fun line a sys c0 κ=>aa k (y9 k line a sys c0) (gR κ)
def U4 {S:Type} (k:Nat):Fx S:=fp 21 [(50,jB k),(51,jx k),(57,OK k)] [] k Tryz.f31 1
theorem aaX {S:Type} (o:Obj) (ho:ai o) (k:Nat):Tl o 31 (OL k:Rw S):=ak (U4 k) ⟨ke o ho k,j8 o ho k,aaW o ho k,trivial⟩ Tryz.func31 (by kernel_rfl) fun line a sys c0 κ x h=>Eq.trans (by kernel_rfl) (al h)
def Gj {S:Type} (k:Nat):Rw S:=aj Ai cu fun t c0 κ=>aa k (ly k t c0) (aif κ)
def U5 {S:Type} (k:Nat):Fx S:=fp 20 [(21,iJ k),(22,ox (dJ k)),(50,jB k),(51,jx k)] [] k Tryz.f30 1
theorem JX {S:Type} (o:Obj) (ho:ai o) (k:Nat):Tl o 30 (Gj k:Rw S):=ak (U5 k) ⟨jh o ho k,uD o ho k,ke o ho k,j8 o ho k,trivial⟩ Tryz.func30 (by kernel_rfl) fun t c0 κ x h=>Eq.trans (by kernel_rfl) (al h)
def Gk {S:Type} (k:Nat):Rw S:=aj dV xn fun t κ=>aa k (tL k t) (fC κ)
def rV {S:Type} (k:Nat):Fx S:=fp 119 [(21,iJ k),(22,ox (dJ k)),(23,Oq k),(24,Ox k),(25,OF k),(26,OI k),(29,Gi k),(30,Gj k),(31,OL k)] [(1000007,⟨[(1,.none),(2,.none),(6,.none)],[(1,[.none,.none,.none,.none,.none,.none]),(2,[.none,.none,.none,some (200131,true),some (200132,true),some (200133,true)]),(6,[.none])]⟩,ap 4 15),(17,⟨[(2,.none),(8,.none),(10,.none),(11,.none),(12,.none),(13,.none),(14,some (100014,true)),(88,.none),(89,.none),(90,.none)],[(1,[.none,.none,.none,.none,.none,.none]),(2,[.none,.none,.none,some (200131,true),some (200132,true),some (200133,true)]),(6,[.none]),(8,[.none]),(10,[.none,.none,.none,.none,.none,.none]),(11,[.none,.none,.none,.none,.none,.none]),(13,[.none,.none,.none,some (200835,true),.none,some (200837,true)]),(53,[.none])]⟩,ap 16 24575)] k Tryz.f9 0
def L_ (t:Tm):St UU:=⟨[(1,(pt 1)),(2,(pt 2)),(6,(pt 6))],[(1,bT t),(2,.cells [(iI 0),(iI 0),(.str ByteArray.empty),(.own 200131 0),(.own 200132 0),(.own 200133 0)]),(6,.cells [(.int .i64 (IntKind.wrap .i64 ((t.kids.length:Int)-1)))])],[(200133,⟨0,ET.B,([]:List (Br Tm))⟩),(200132,⟨0,ET.T,([]:List Tm)⟩),(200131,⟨0,ET.C,([]:List Cl)⟩)],[(200133,.wr),(200132,.wr),(200131,.wr)]⟩
def Ma (r3:Tm) (r9 r10:Tm×Int) (r13:Int×Int×ByteArray×List Tm×Int) (t x4:Tm) (b53_0:Int) (sys14:List (Br Tm)) (v90:Int):St UU:=⟨[(2,(pt 2)),(8,(pt 8)),(10,(pt 10)),(11,(pt 11)),(12,(.func 26 [] [(pt 1),(pt 6),(pt 8)])),(13,(pt 13)),(14,(.own 100014 0)),(88,(sB x4.sys)),(89,(.int .i64 (x4.sys.length:Int))),(90,(iI v90))],[(1,bT r3),(2,.cells [(iI 0),(iI 0),(.str ByteArray.empty),(.own 200131 0),(.own 200132 0),(.own 200133 0)]),(6,.cells [(.int .i64 (IntKind.wrap .i64 ((t.kids.length:Int)-1)))]),(8,.cells [(pt 53)]),(10,bT r9.1),(11,bT r10.1),(13,.cells [(iI r13.1),(iI r13.2.1),(.str r13.2.2.1),(.own 200835 0),(sT r13.2.2.2.1),(.own 200837 0)]),(53,bI b53_0)],[(200837,⟨0,ET.B,([]:List (Br Tm))⟩),(200835,⟨0,ET.C,([]:List Cl)⟩),(200133,⟨0,ET.B,([]:List (Br Tm))⟩),(200132,⟨0,ET.T,([]:List Tm)⟩),(200131,⟨0,ET.C,([]:List Cl)⟩),(100014,⟨0,ET.B,sys14⟩)],[(200837,.wr),(200835,.wr),(200133,.wr),(200132,.wr),(200131,.wr),(100014,.wr)]⟩
section
variable {S:Type} (k:Nat) (t:Tm) (κ:Out UU→Option S)
theorem Xt (r3 r9 r10 r13 x4): ∀n b53_0 sys14 v90,(rV k).lp κ 17 [] n (Ma r3 r9 r10 r13 t x4 b53_0 sys14 v90)=fX k (fC κ) r3 r9 r10 r13 t x4 n b53_0 sys14 v90:=eW (oR k (fC κ) r3 r9 r10 r13 t x4) rfl (fun _=>rfl) fun r b53_0 sys14 v90=>by kernel_rfl
theorem Xs: ∀n,(rV k).jn κ 1000007 [] n (L_ t)=l6 k (fC κ) t n:=gL (w_ k (fC κ) t (fun r3 r9 r10 r13 x4 b53_0 sys14 v90=>fX k (fC κ) r3 r9 r10 r13 t x4 k b53_0 sys14 v90)) rfl (fun _=>rfl) (Eq.trans (b:=w_ k (fC κ) t (fun r3 r9 r10 r13 x4 b53_0 sys14 v90=>(rV k).lp κ 17 [] k (Ma r3 r9 r10 r13 t x4 b53_0 sys14 v90))) (by kernel_rfl) (by simp only [Xt]))
end
theorem JY {S:Type} (o:Obj) (ho:ai o) (k:Nat):Tl o 9 (Gk k:Rw S):=ak (rV k) ⟨jh o ho k,uD o ho k,aaE o ho k,aaJ o ho k,aaR o ho k,aaU o ho k,JW o ho k,JX o ho k,aaX o ho k,trivial⟩ Tryz.func9 (by kernel_rfl) fun t κ x h=>Eq.trans (b:=HU k (fC κ) ((rV k).jn κ 1000007 [] k (L_ t)) t) (by kernel_rfl) (Eq.trans (by simp only [Xs];rfl) (al h))
def ON {S:Type} (k:Nat):Rw S:=aj ad5 xn fun kind a_r kids κ=>aa k (tO k kind a_r kids) (aih κ)
def U6 {S:Type} (k:Nat):Fx S:=fx 11 (fun _=>[]) (fun _=>false) [] [] k Tryz.f39 true [] 0
theorem aaZ {S:Type} (o:Obj) (ho:ai o) (k:Nat):Tl o 39 (ON k:Rw S):=ak (U6 k) trivial Tryz.func39 (by kernel_rfl) fun kind a_r kids κ x h=>Eq.trans (by kernel_rfl) (al h)
def OO {S:Type} (k:Nat):Rw S:=aj Lq cu fun t a_r c0 κ=>aa k (JL k t a_r c0) (gR κ)
def U7 {S:Type} (k:Nat):Fx S:=fp 18 [(50,jB k),(51,jx k),(123,A2 k)] [] k Tryz.f73 1
theorem aa0 {S:Type} (o:Obj) (ho:ai o) (k:Nat):Tl o 73 (OO k:Rw S):=ak (U7 k) ⟨ke o ho k,j8 o ho k,D9 o ho k,trivial⟩ Tryz.func73 (by kernel_rfl) fun t a_r c0 κ x h=>Eq.trans (by kernel_rfl) (al h)
def OP {S:Type} (k:Nat):Rw S:=aj Ai cu fun t c0 κ=>aa k (JI k t c0) (gR κ)
def U8 {S:Type} (k:Nat):Fx S:=fp 9 [(73,OO k),(74,Bj k)] [] k Tryz.f40 1
theorem aa1 {S:Type} (o:Obj) (ho:ai o) (k:Nat):Tl o 40 (OP k:Rw S):=ak (U8 k) ⟨aa0 o ho k,Eo o ho k,trivial⟩ Tryz.func40 (by kernel_rfl) fun t c0 κ x h=>Eq.trans (by kernel_rfl) (al h)
def OQ {S:Type} (k:Nat):Rw S:=aj ad6 cu fun f a_by c0 κ=>aa k (JK k f a_by c0) (N9 κ)
def U9 {S:Type} (k:Nat):Fx S:=fp 23 [(50,jB k),(51,jx k),(75,oz k)] [] k Tryz.f41 1
theorem aa2 {S:Type} (o:Obj) (ho:ai o) (k:Nat):Tl o 41 (OQ k:Rw S):=ak (U9 k) ⟨ke o ho k,j8 o ho k,pN o ho k,trivial⟩ Tryz.func41 (by kernel_rfl) fun f a_by c0 κ x h=>Eq.trans (by kernel_rfl) (al h)
def OR {S:Type} (k:Nat):Rw S:=aj Lr cu fun t a_by c0 κ=>aa k (JJ k t a_by c0) (gR κ)
def U_ {S:Type} (k:Nat):Fx S:=fp 18 [(50,jB k),(51,jx k),(54,Bf k)] [] k Tryz.f42 1
theorem aa3 {S:Type} (o:Obj) (ho:ai o) (k:Nat):Tl o 42 (OR k:Rw S):=ak (U_ k) ⟨ke o ho k,j8 o ho k,Ek o ho k,trivial⟩ Tryz.func42 (by kernel_rfl) fun t a_by c0 κ x h=>Eq.trans (by kernel_rfl) (al h)
def OS {S:Type} (k:Nat):Rw S:=aj ad7 xn fun kind l kids κ=>aa k (JM k kind l kids) (N7 κ)
def Va {S:Type} (k:Nat):Fx S:=fx 11 (fun _=>[]) (fun _=>false) [] [] k Tryz.f43 true [] 0
theorem aa4 {S:Type} (o:Obj) (ho:ai o) (k:Nat):Tl o 43 (OS k:Rw S):=ak (Va k) trivial Tryz.func43 (by kernel_rfl) fun kind l kids κ x h=>Eq.trans (by kernel_rfl) (al h)
def OT {S:Type} (k:Nat):Rw S:=aj dV xn fun t κ=>aa k (JG k t) (fC κ)
def Cq {S:Type} (k:Nat):Fx S:=fp 133 [(21,iJ k),(22,ox (dJ k)),(29,Gi k),(30,Gj k),(39,ON k),(40,OP k),(41,OQ k),(42,OR k),(43,OS k)] [(20,⟨[(1,.none),(2,.none),(6,.none),(8,.none),(9,.none),(10,.none),(11,some (100011,true)),(94,.none),(95,.none),(96,.none)],[(1,[.none,.none,.none,.none,.none,.none]),(2,[.none,.none,.none,some (200131,true),some (200132,true),some (200133,true)]),(6,[.none,.none,.none,.none,.none,.none]),(9,[.none,.none,.none,.none,.none,.none]),(10,[.none,.none,.none,.none,.none,some (200645,true)]),(44,[.none])]⟩,ap 21 769727)] k Tryz.f14 0
def Mb (r3:Tm) (r15:Int×Int×ByteArray×List Cl×List Tm) (x4:Tm) (r13:Tm×Int) (x5:Tm) (b44_0:Int) (sys11:List (Br Tm)) (v96:Int):St UU:=⟨[(1,(pt 1)),(2,(pt 2)),(6,(pt 6)),(8,(pt 44)),(9,(pt 9)),(10,(pt 10)),(11,(.own 100011 0)),(94,(sB x5.sys)),(95,(.int .i64 (x5.sys.length:Int))),(96,(iI v96))],[(1,bT r3),(2,.cells [(iI 0),(iI 0),(.str ByteArray.empty),(.own 200131 0),(.own 200132 0),(.own 200133 0)]),(6,bT x4),(9,bT r13.1),(10,.cells [(iI r15.1),(iI r15.2.1),(.str r15.2.2.1),(sC r15.2.2.2.1),(sT r15.2.2.2.2),(.own 200645 0)]),(44,bI b44_0)],[(200645,⟨0,ET.B,([]:List (Br Tm))⟩),(200133,⟨0,ET.B,([]:List (Br Tm))⟩),(200132,⟨0,ET.T,([]:List Tm)⟩),(200131,⟨0,ET.C,([]:List Cl)⟩),(100011,⟨0,ET.B,sys11⟩)],[(200645,.wr),(200133,.wr),(200132,.wr),(200131,.wr),(100011,.wr)]⟩
section
variable {S:Type} (k:Nat) (t:Tm) (κ:Out UU→Option S)
theorem Xu (r3 r15 x4 r13 x5): ∀n b44_0 sys11 v96,(Cq k).lp κ 20 [] n (Mb r3 r15 x4 r13 x5 b44_0 sys11 v96)=E7 k (fC κ) r3 r15 x4 r13 x5 n b44_0 sys11 v96:=eW (Jp k (fC κ) r3 r15 x4 r13 x5) rfl (fun _=>rfl) fun r b44_0 sys11 v96=>by kernel_rfl
end
theorem aa5 {S:Type} (o:Obj) (ho:ai o) (k:Nat):Tl o 14 (OT k:Rw S):=ak (Cq k) ⟨jh o ho k,uD o ho k,JW o ho k,JX o ho k,aaZ o ho k,aa1 o ho k,aa2 o ho k,aa3 o ho k,aa4 o ho k,trivial⟩ Tryz.func14 (by kernel_rfl) fun t κ x h=>Eq.trans (b:=SP k (fC κ) (fun r3 r15 x4 r13 x5 b44_0 sys11 v96=>(Cq k).lp κ 20 [] k (Mb r3 r15 x4 r13 x5 b44_0 sys11 v96)) t) (by kernel_rfl) (Eq.trans (by simp only [Xu];rfl) (al h))
def A3 {S:Type} (k:Nat):Rw S:=aj jk xn fun a b κ=>aa k (jY k a b) (aA κ)
def Cr {S:Type} (k:Nat):Fx S:=fp 26 [] [(4,aS [0,1,5] [],ap 5 11)] k Tryz.f15 0
def Mc (a b:List Cl) (i5:Int):St UU:=⟨[(0,(sC a)),(1,(sC b)),(5,(iI i5))],[],[],[]⟩
section
variable {S:Type} (k:Nat) (a b:List Cl) (κ:Out UU→Option S)
theorem Xv: ∀n i5,(Cr k).lp κ 4 [] n (Mc a b i5)=ky k (aA κ) a b n i5:=cF (oT k (aA κ) a b) rfl (fun _=>rfl) fun r i5=>by kernel_rfl
end
theorem D_ {S:Type} (o:Obj) (ho:ai o) (k:Nat):Tl o 15 (A3 k:Rw S):=ak (Cr k) trivial Tryz.func15 (by kernel_rfl) fun a b κ x h=>Eq.trans (b:=BV k (aA κ) (fun i5=>(Cr k).lp κ 4 [] k (Mc a b i5)) a b) (by kernel_rfl) (Eq.trans (by simp only [Xv];rfl) (al h))
def vF {S:Type} (hd:eN S):Rw S:=aj Lv xn fun a b κ=>hd a b (aA κ)
def OV {S:Type} (hd:eN S) (k:Nat):Rw S:=aj ad8 xn fun a b κ=>aa k (tX hd k a b) (aA κ)
def Cu {S:Type} (hd:eN S) (k:Nat):Fx S:=fp 27 [(11,vF hd)] [(4,aS [0,1,5] [],ap 5 11)] k Tryz.f35 0
def Mf (a b:List Tm) (i5:Int):St UU:=⟨[(0,(sT a)),(1,(sT b)),(5,(iI i5))],[],[],[]⟩
section
variable {S:Type} (hd:eN S) (k:Nat) (a b:List Tm) (κ:Out UU→Option S)
theorem Xz: ∀n i5,(Cu hd k).lp κ 4 [] n (Mf a b i5)=qH hd k (aA κ) a b n i5:=cF (xQ hd k (aA κ) a b) rfl (fun _=>rfl) fun r i5=>by kernel_rfl
end
theorem aa7 {S:Type} (o:Obj) (ho:ai o) (hd:eN S) (Hd:Tl o 11 (vF hd)) (k:Nat):Tl o 35 (OV hd k:Rw S):=ak (Cu hd k) ⟨Hd,trivial⟩ Tryz.func35 (by kernel_rfl) fun a b κ x h=>Eq.trans (b:=It hd k (aA κ) (fun i5=>(Cu hd k).lp κ 4 [] k (Mf a b i5)) a b) (by kernel_rfl) (Eq.trans (by simp only [Xz];rfl) (al h))
def Ct {S:Type} (hd:eN S) (k:Nat):Fx S:=fp 87 [(15,A3 k),(35,OV hd k)] [(4,aS [2,3,5] [(2,6),(3,6)],ap 5 11)] k Tryz.f11 0
def Me (a b:Tm) (i5:Int):St UU:=⟨[(2,(pt 2)),(3,(pt 3)),(5,(iI i5))],[(2,bT a),(3,bT b)],[],[]⟩
section
variable {S:Type} (hd:eN S) (k:Nat) (a b:Tm) (κ:Out UU→Option S)
theorem Xy: ∀n i5,(Ct hd k).lp κ 4 [] n (Me a b i5)=qF hd k (aA κ) a b n i5:=cF (xO hd k (aA κ) a b) rfl (fun _=>rfl) fun r i5=>by kernel_rfl
end
theorem EH {S:Type} (o:Obj) (ho:ai o): ∀k:Nat,Tl o 11 (vF (d8 k:eN S))
 |0=>dz fun a b κ x h=>by cases h
 |k+1=>ak (Ct (d8 k) k) ⟨D_ o ho k,aa7 o ho (d8 k) (EH o ho k) k,trivial⟩ Tryz.func11 (by kernel_rfl) fun a b κ x h=>Eq.trans (b:=Ir (d8 k) k (aA κ) (fun i5=>(Ct (d8 k) k).lp κ 4 [] k (Me a b i5)) a b) (by kernel_rfl) (Eq.trans (by simp only [Xy];rfl) h)
def OW {S:Type} (k:Nat):Rw S:=aj cn xn fun κ=>aa k (tM k) (aA κ)
def Vc {S:Type} (k:Nat):Fx S:=fp 127 [(9,Gk k),(11,vF (d8 k)),(14,OT k),(15,A3 k),(20,Pe k)] [] k Tryz.f7 0
theorem aa8 {S:Type} (o:Obj) (ho:ai o) (k:Nat):Tl o 7 (OW k:Rw S):=ak (Vc k) ⟨JY o ho k,EH o ho k,aa5 o ho k,D_ o ho k,eX2 o ho k,trivial⟩ Tryz.func7 (by kernel_rfl) fun κ x h=>Eq.trans (by kernel_rfl) (al h)
end
end Go.Proofs.YtfkkpkhfjpaafaaGreatDoor
namespace Go.Proofs.YtfkkpkhfjpaafaaGreatDoor
open Go PI
set_option linter.unusedVariables false
set_option maxRecDepth 100000
noncomputable section
def Gl {S:Type} (hd:gZ S):Rw S:=aj dV xn fun t κ=>hd t (aF κ)
def mL {S:Type} (hd:gZ S) (k:Nat):Fx S:=fp 86 [(8,Gl hd)] [(3,⟨[(1,.none),(2,.none),(3,.none),(4,.none)],[(1,[.none,.none,.none,.none,.none,.none]),(2,[.none,.none,.none,some (200131,true),some (200132,true),some (200133,true)]),(3,[.none,.none,.none,some (200195,false),some (200196,true),some (200197,true)])]⟩,ap 5 11),(7,⟨[(1,.none),(2,.none),(3,.none),(5,.none)],[(1,[.none,.none,.none,.none,.none,.none]),(2,[.none,.none,.none,some (200131,true),some (200132,true),some (200133,true)]),(3,[.none,.none,.none,some (200195,false),some (200196,true),some (200197,true)])]⟩,ap 6 23),(11,⟨[(1,.none),(2,.none),(3,.none),(5,.none),(6,.none),(7,.none)],[(1,[.none,.none,.none,.none,.none,.none]),(2,[.none,.none,.none,some (200131,true),some (200132,true),some (200133,true)]),(3,[.none,.none,.none,some (200195,false),some (200196,true),some (200197,true)]),(6,[some (200384,false),some (200385,true)])]⟩,ap 14 5271)] k Tryz.f8 0
def Fw (t:Tm) (b3_4:List Tm) (i4:Int):St UU:=⟨[(1,(pt 1)),(2,(pt 2)),(3,(pt 3)),(4,(iI i4))],[(1,bT t),(2,.cells [(iI 0),(iI 0),(.str ByteArray.empty),(.own 200131 0),(.own 200132 0),(.own 200133 0)]),(3,.cells [(iI t.kind),(iI t.n),(.str t.name),(.own 200195 0),(.own 200196 0),(.own 200197 0)])],[(200197,⟨0,ET.B,([]:List (Br Tm))⟩),(200196,⟨0,ET.T,b3_4⟩),(200195,⟨0,ET.C,([]:List Cl)++t.r⟩),(200133,⟨0,ET.B,([]:List (Br Tm))⟩),(200132,⟨0,ET.T,([]:List Tm)⟩),(200131,⟨0,ET.C,([]:List Cl)⟩)],[(200197,.wr),(200196,.wr),(200195,.app),(200133,.wr),(200132,.wr),(200131,.wr)]⟩
def anI (t:Tm) (b3_4:List Tm) (b3_5:List (Br Tm)) (i5:Int):St UU:=⟨[(1,(pt 1)),(2,(pt 2)),(3,(pt 3)),(5,(iI i5))],[(1,bT t),(2,.cells [(iI 0),(iI 0),(.str ByteArray.empty),(.own 200131 0),(.own 200132 0),(.own 200133 0)]),(3,.cells [(iI t.kind),(iI t.n),(.str t.name),(.own 200195 0),(.own 200196 0),(.own 200197 0)])],[(200197,⟨0,ET.B,b3_5⟩),(200196,⟨0,ET.T,b3_4⟩),(200195,⟨0,ET.C,([]:List Cl)++t.r⟩),(200133,⟨0,ET.B,([]:List (Br Tm))⟩),(200132,⟨0,ET.T,([]:List Tm)⟩),(200131,⟨0,ET.C,([]:List Cl)⟩)],[(200197,.wr),(200196,.wr),(200195,.app),(200133,.wr),(200132,.wr),(200131,.wr)]⟩
def Mg (t:Tm) (b3_4:List Tm) (b3_5:List (Br Tm)) (x5:(Br Tm)) (i5:Int) (b6_1:List Tm) (v7:Int):St UU:=⟨[(1,(pt 1)),(2,(pt 2)),(3,(pt 3)),(5,(iI i5)),(6,(pt 6)),(7,(iI v7))],[(1,bT t),(2,.cells [(iI 0),(iI 0),(.str ByteArray.empty),(.own 200131 0),(.own 200132 0),(.own 200133 0)]),(3,.cells [(iI t.kind),(iI t.n),(.str t.name),(.own 200195 0),(.own 200196 0),(.own 200197 0)]),(6,.cells [(.own 200384 0),(.own 200385 0)])],[(200385,⟨0,ET.T,b6_1⟩),(200384,⟨0,ET.C,([]:List Cl)++x5.face⟩),(200197,⟨0,ET.B,b3_5⟩),(200196,⟨0,ET.T,b3_4⟩),(200195,⟨0,ET.C,([]:List Cl)++t.r⟩),(200133,⟨0,ET.B,([]:List (Br Tm))⟩),(200132,⟨0,ET.T,([]:List Tm)⟩),(200131,⟨0,ET.C,([]:List Cl)⟩)],[(200385,.wr),(200384,.app),(200197,.wr),(200196,.wr),(200195,.app),(200133,.wr),(200132,.wr),(200131,.wr)]⟩
section
variable {S:Type} (hd:gZ S) (k:Nat) (t:Tm) (κ:Out UU→Option S)
theorem XC (b3_4 b3_5 x5 i5 κ1): ∀n b6_1 v7,(mL hd k).lp κ 11 [κ1] n (Mg t b3_4 b3_5 x5 i5 b6_1 v7)=anc hd k (aF κ) (fun b3_5 i5=>κ1 (anI t b3_4 b3_5 i5)) t b3_4 b3_5 x5 i5 n b6_1 v7:=aL (xM hd k (aF κ) t b3_4 b3_5 x5 i5 (fun b3_5 i5=>κ1 (anI t b3_4 b3_5 i5))) rfl (fun _=>rfl) fun r b6_1 v7=>by kernel_rfl
theorem XB (b3_4): ∀n b3_5 i5,(mL hd k).lp κ 7 [] n (anI t b3_4 b3_5 i5)=kB hd k (aF κ) t b3_4 n b3_5 i5:=aL (fun own=>sV hd k (aF κ) t b3_4 (fun b3_5 x5 i5 b6_1 v7=>anc hd k (aF κ) own t b3_4 b3_5 x5 i5 k b6_1 v7) own) rfl (fun _=>rfl) fun r b3_5 i5=>Eq.trans (b:=sV hd k (aF κ) t b3_4 (fun b3_5 x5 i5 b6_1 v7=>(mL hd k).lp κ 11 [r] k (Mg t b3_4 b3_5 x5 i5 b6_1 v7)) (fun b3_5 i5=>r (anI t b3_4 b3_5 i5)) b3_5 i5) (by kernel_rfl) (by simp only [XC])
theorem XA: ∀n b3_4 i4,(mL hd k).lp κ 3 [] n (Fw t b3_4 i4)=ans hd k (aF κ) t n b3_4 i4:=aL (fun own=>sU hd k (aF κ) t (fun b3_4 b3_5 i5=>kB hd k (aF κ) t b3_4 k b3_5 i5) own) rfl (fun _=>rfl) fun r b3_4 i4=>Eq.trans (b:=sU hd k (aF κ) t (fun b3_4 b3_5 i5=>(mL hd k).lp κ 7 [] k (anI t b3_4 b3_5 i5)) (fun b3_4 i4=>r (Fw t b3_4 i4)) b3_4 i4) (by kernel_rfl) (by simp only [XB])
end
theorem KY {S:Type} (o:Obj) (ho:ai o): ∀k:Nat,Tl o 8 (Gl (je k:gZ S))
 |0=>dz fun t κ x h=>by cases h
 |k+1=>ak (mL (je k) k) ⟨KY o ho k,trivial⟩ Tryz.func8 (by kernel_rfl) fun t κ x h=>Eq.trans (b:=Ip (je k) k (aF κ) (fun b3_4 i4=>(mL (je k) k).lp κ 3 [] k (Fw t b3_4 i4)) t) (by kernel_rfl) (Eq.trans (by simp only [XA];rfl) h)
def A4 {S:Type} (hd:g4 S):Rw S:=aj dV xn fun t κ=>hd t (aE κ)
def mN {S:Type} (hd:g4 S) (k:Nat):Fx S:=fp 60 [(99,A4 hd)] [(3,aS [1,3,4] [(1,6)],ap 5 11),(9,aS [1,3,6] [(1,6)],ap 6 23),(12,aS [1,3,6,7] [(1,6)],ap 12 1175)] k Tryz.f99 0
def Fy (t:Tm) (most3 i4:Int):St UU:=⟨[(1,(pt 1)),(3,(iI most3)),(4,(iI i4))],[(1,bT t)],[],[]⟩
def u3 (t:Tm) (most3' i6:Int):St UU:=⟨[(1,(pt 1)),(3,(iI most3')),(6,(iI i6))],[(1,bT t)],[],[]⟩
def Mh (t:Tm) (i6:Int) (most3'' v7:Int):St UU:=⟨[(1,(pt 1)),(3,(iI most3'')),(6,(iI i6)),(7,(iI v7))],[(1,bT t)],[],[]⟩
section
variable {S:Type} (hd:g4 S) (k:Nat) (t:Tm) (κ:Out UU→Option S)
theorem XF (i6 κ1): ∀n most3'' v7,(mN hd k).lp κ 12 [κ1] n (Mh t i6 most3'' v7)=md hd k (aE κ) (fun most3' i6=>κ1 (u3 t most3' i6)) t i6 n most3'' v7:=aL (xN hd k (aE κ) t i6 (fun most3' i6=>κ1 (u3 t most3' i6))) rfl (fun _=>rfl) fun r most3'' v7=>by kernel_rfl
theorem XE: ∀n most3' i6,(mN hd k).lp κ 9 [] n (u3 t most3' i6)=kC hd k (aE κ) t n most3' i6:=aL (fun own=>sX hd k (aE κ) t (fun i6 most3'' v7=>md hd k (aE κ) own t i6 k most3'' v7) own) rfl (fun _=>rfl) fun r most3' i6=>Eq.trans (b:=sX hd k (aE κ) t (fun i6 most3'' v7=>(mN hd k).lp κ 12 [r] k (Mh t i6 most3'' v7)) (fun most3' i6=>r (u3 t most3' i6)) most3' i6) (by kernel_rfl) (by simp only [XF])
theorem XD: ∀n most3 i4,(mN hd k).lp κ 3 [] n (Fy t most3 i4)=ane hd k (aE κ) t n most3 i4:=aL (fun own=>sW hd k (aE κ) t (fun most3' i6=>kC hd k (aE κ) t k most3' i6) own) rfl (fun _=>rfl) fun r most3 i4=>Eq.trans (b:=sW hd k (aE κ) t (fun most3' i6=>(mN hd k).lp κ 9 [] k (u3 t most3' i6)) (fun most3 i4=>r (Fy t most3 i4)) most3 i4) (by kernel_rfl) (by simp only [XE])
end
theorem EI {S:Type} (o:Obj) (ho:ai o): ∀k:Nat,Tl o 99 (A4 (gF k:g4 S))
 |0=>dz fun t κ x h=>by cases h
 |k+1=>ak (mN (gF k) k) ⟨EI o ho k,trivial⟩ Tryz.func99 (by kernel_rfl) fun t κ x h=>Eq.trans (b:=Iq (gF k) k (aE κ) (fun most3 i4=>(mN (gF k) k).lp κ 3 [] k (Fy t most3 i4)) t) (by kernel_rfl) (Eq.trans (by simp only [XD];rfl) h)
def A5 {S:Type} (hd:g5 S):Rw S:=aj dV xn fun t κ=>hd t (aE κ)
def mO {S:Type} (hd:g5 S) (k:Nat):Fx S:=fp 53 [(100,A5 hd)] [(3,aS [1,3,4] [(1,6)],ap 5 11),(7,aS [1,3,5] [(1,6)],ap 6 23),(10,aS [1,3,5,6] [(1,6)],ap 12 1175)] k Tryz.f100 0
def Fz (t:Tm) (v3 i4:Int):St UU:=⟨[(1,(pt 1)),(3,(iI v3)),(4,(iI i4))],[(1,bT t)],[],[]⟩
def anJ (t:Tm) (v3' i5:Int):St UU:=⟨[(1,(pt 1)),(3,(iI v3')),(5,(iI i5))],[(1,bT t)],[],[]⟩
def Mi (t:Tm) (i5:Int) (v3'' v6:Int):St UU:=⟨[(1,(pt 1)),(3,(iI v3'')),(5,(iI i5)),(6,(iI v6))],[(1,bT t)],[],[]⟩
section
variable {S:Type} (hd:g5 S) (k:Nat) (t:Tm) (κ:Out UU→Option S)
theorem XI (i5 κ1): ∀n v3'' v6,(mO hd k).lp κ 10 [κ1] n (Mi t i5 v3'' v6)=anf hd k (aE κ) (fun v3' i5=>κ1 (anJ t v3' i5)) t i5 n v3'' v6:=aL (xP hd k (aE κ) t i5 (fun v3' i5=>κ1 (anJ t v3' i5))) rfl (fun _=>rfl) fun r v3'' v6=>by kernel_rfl
theorem XH: ∀n v3' i5,(mO hd k).lp κ 7 [] n (anJ t v3' i5)=kE hd k (aE κ) t n v3' i5:=aL (fun own=>sZ hd k (aE κ) t (fun i5 v3'' v6=>anf hd k (aE κ) own t i5 k v3'' v6) own) rfl (fun _=>rfl) fun r v3' i5=>Eq.trans (b:=sZ hd k (aE κ) t (fun i5 v3'' v6=>(mO hd k).lp κ 10 [r] k (Mi t i5 v3'' v6)) (fun v3' i5=>r (anJ t v3' i5)) v3' i5) (by kernel_rfl) (by simp only [XI])
theorem XG: ∀n v3 i4,(mO hd k).lp κ 3 [] n (Fz t v3 i4)=ant hd k (aE κ) t n v3 i4:=aL (fun own=>sY hd k (aE κ) t (fun v3' i5=>kE hd k (aE κ) t k v3' i5) own) rfl (fun _=>rfl) fun r v3 i4=>Eq.trans (b:=sY hd k (aE κ) t (fun v3' i5=>(mO hd k).lp κ 7 [] k (anJ t v3' i5)) (fun v3 i4=>r (Fz t v3 i4)) v3 i4) (by kernel_rfl) (by simp only [XH])
end
theorem EJ {S:Type} (o:Obj) (ho:ai o): ∀k:Nat,Tl o 100 (A5 (fQ k:g5 S))
 |0=>dz fun t κ x h=>by cases h
 |k+1=>ak (mO (fQ k) k) ⟨EJ o ho k,trivial⟩ Tryz.func100 (by kernel_rfl) fun t κ x h=>Eq.trans (b:=Is (fQ k) k (aE κ) (fun v3 i4=>(mO (fQ k) k).lp κ 3 [] k (Fz t v3 i4)) t) (by kernel_rfl) (Eq.trans (by simp only [XG];rfl) h)
def OX {S:Type} (k:Nat):Rw S:=aj dV xn fun t κ=>aa k (zp k t) (aE κ)
def Vd {S:Type} (k:Nat):Fx S:=fp 9 [(99,A4 (gF k)),(100,A5 (fQ k))] [] k Tryz.f58 0
theorem aa9 {S:Type} (o:Obj) (ho:ai o) (k:Nat):Tl o 58 (OX k:Rw S):=ak (Vd k) ⟨EI o ho k,EJ o ho k,trivial⟩ Tryz.func58 (by kernel_rfl) fun t κ x h=>Eq.trans (by kernel_rfl) (al h)
def Gm {S:Type} (k:Nat):Rw S:=aj fU xn fun kind κ=>aa k (pw k kind) (aE κ)
def Ve {S:Type} (k:Nat):Fx S:=fp 14 [] [] k Tryz.f45 0
theorem JZ {S:Type} (o:Obj) (ho:ai o) (k:Nat):Tl o 45 (Gm k:Rw S):=ak (Ve k) trivial Tryz.func45 (by kernel_rfl) fun kind κ x h=>Eq.trans (by kernel_rfl) (al h)
def OY {S:Type} (k:Nat):Rw S:=aj fU xn fun kind κ=>aa k (px k kind) (aE κ)
def Vf {S:Type} (k:Nat):Fx S:=fp 15 [] [] k Tryz.f101 0
theorem aa_ {S:Type} (o:Obj) (ho:ai o) (k:Nat):Tl o 101 (OY k:Rw S):=ak (Vf k) trivial Tryz.func101 (by kernel_rfl) fun kind κ x h=>Eq.trans (by kernel_rfl) (al h)
def OZ {S:Type} (k:Nat):Rw S:=aj Ld xn fun s κ=>aa k (zo k s) (aA κ)
def rW {S:Type} (k:Nat):Fx S:=fp 45 [] [(2,aS [0,3] [],ap 4 5),(1000006,aS [0,3,4] [],ap 10 805)] k Tryz.f102 0
def anK (s:ByteArray) (i3:Int):St UU:=⟨[(0,(.str s)),(3,(iI i3))],[],[],[]⟩
def Mj (s:ByteArray) (i3:Int) (x1:UInt8):St UU:=⟨[(0,(.str s)),(3,(iI i3)),(4,(.int .u8 (x1.toNat:Int)))],[],[],[]⟩
section
variable {S:Type} (k:Nat) (s:ByteArray) (κ:Out UU→Option S)
theorem XK (i3 x1 κ0): ∀n,(rW k).jn κ 1000006 [κ0] n (Mj s i3 x1)=An k (aA κ) (fun i3=>κ0 (anK s i3)) s i3 x1 n:=gL (De k (aA κ) s i3 x1 (fun i3=>κ0 (anK s i3))) rfl (fun _=>rfl) (by kernel_rfl)
theorem XJ: ∀n i3,(rW k).lp κ 2 [] n (anK s i3)=ang k (aA κ) s n i3:=cF (fun own=>s8 k (aA κ) s (fun i3 x1=>An k (aA κ) own s i3 x1 k) own) rfl (fun _=>rfl) fun r i3=>Eq.trans (b:=s8 k (aA κ) s (fun i3 x1=>(rW k).jn κ 1000006 [r] k (Mj s i3 x1)) (fun i3=>r (anK s i3)) i3) (by kernel_rfl) (by simp only [XK])
end
theorem aba {S:Type} (o:Obj) (ho:ai o) (k:Nat):Tl o 102 (OZ k:Rw S):=ak (rW k) trivial Tryz.func102 (by kernel_rfl) fun s κ x h=>Eq.trans (b:=Iu k (aA κ) (fun i3=>(rW k).lp κ 2 [] k (anK s i3)) s) (by kernel_rfl) (Eq.trans (by simp only [XJ];rfl) (al h))
def A6 {S:Type} (k:Nat):Rw S:=aj fU xn fun a_n κ=>aa k (pr k a_n) (aE κ)
def Cv {S:Type} (k:Nat):Fx S:=fp 13 [] [(3,aS [0,3,4] [],ap 5 11)] k Tryz.f252 0
def Mk (a_n:Int) (p3 i4:Int):St UU:=⟨[(0,(iI a_n)),(3,(iI p3)),(4,(iI i4))],[],[],[]⟩
section
variable {S:Type} (k:Nat) (a_n:Int) (κ:Out UU→Option S)
theorem XL: ∀n p3 i4,(Cv k).lp κ 3 [] n (Mk a_n p3 i4)=qm k (aE κ) a_n n p3 i4:=aL (xp k (aE κ) a_n) rfl (fun _=>rfl) fun r p3 i4=>by kernel_rfl
end
theorem Ea {S:Type} (o:Obj) (ho:ai o) (k:Nat):Tl o 252 (A6 k:Rw S):=ak (Cv k) trivial Tryz.func252 (by kernel_rfl) fun a_n κ x h=>Eq.trans (b:=H7 k (aE κ) (fun p3 i4=>(Cv k).lp κ 3 [] k (Mk a_n p3 i4)) a_n) (by kernel_rfl) (Eq.trans (by simp only [XL];rfl) (al h))
def O0 {S:Type} (k:Nat):Rw S:=aj uG xn fun s κ=>aa k (pq k s) (aA κ)
def Vh {S:Type} (k:Nat):Fx S:=fp 7 [(252,A6 k)] [] k Tryz.f250 0
theorem abb {S:Type} (o:Obj) (ho:ai o) (k:Nat):Tl o 250 (O0 k:Rw S):=ak (Vh k) ⟨Ea o ho k,trivial⟩ Tryz.func250 (by kernel_rfl) fun s κ x h=>Eq.trans (by kernel_rfl) (al h)
def Gp {S:Type} (k:Nat):Rw S:=aj ny xn fun c κ=>aa k (tT k c) (aA κ)
def Vi {S:Type} (k:Nat):Fx S:=fp 11 [(250,O0 k)] [] k Tryz.f204 0
theorem J8 {S:Type} (o:Obj) (ho:ai o) (k:Nat):Tl o 204 (Gp k:Rw S):=ak (Vi k) ⟨abb o ho k,trivial⟩ Tryz.func204 (by kernel_rfl) fun c κ x h=>Eq.trans (by kernel_rfl) (al h)
def O1 {S:Type} (k:Nat):Rw S:=aj uH xn fun a b κ=>aa k (zf k a b) (aA κ)
def Vj {S:Type} (k:Nat):Fx S:=fp 23 [] [] k Tryz.f251 0
theorem abc {S:Type} (o:Obj) (ho:ai o) (k:Nat):Tl o 251 (O1 k:Rw S):=ak (Vj k) trivial Tryz.func251 (by kernel_rfl) fun a b κ x h=>Eq.trans (by kernel_rfl) (al h)
def O2 {S:Type} (k:Nat):Rw S:=aj Ll xn fun l c κ=>aa k (zi k l c) (aA κ)
def Cw {S:Type} (k:Nat):Fx S:=fp 26 [(251,O1 k)] [(2,aS [0,3,5] [(3,2)],ap 4 5)] k Tryz.f205 0
def Ml (c:Cl) (l:List Cl) (i5:Int):St UU:=⟨[(0,(sC l)),(3,(pt 3)),(5,(iI i5))],[(3,bC c)],[],[]⟩
section
variable {S:Type} (k:Nat) (l:List Cl) (c:Cl) (κ:Out UU→Option S)
theorem XM: ∀n i5,(Cw k).lp κ 2 [] n (Ml c l i5)=qu k (aA κ) c l n i5:=cF (xu k (aA κ) c l) rfl (fun _=>rfl) fun r i5=>by kernel_rfl
end
theorem abd {S:Type} (o:Obj) (ho:ai o) (k:Nat):Tl o 205 (O2 k:Rw S):=ak (Cw k) ⟨abc o ho k,trivial⟩ Tryz.func205 (by kernel_rfl) fun l c κ x h=>Eq.trans (b:=H_ k (aA κ) (fun i5=>(Cw k).lp κ 2 [] k (Ml c l i5)) l c) (by kernel_rfl) (Eq.trans (by simp only [XM];rfl) (al h))
def O3 {S:Type} (k:Nat):Rw S:=aj uH xn fun a b κ=>aa k (zg k a b) (aA κ)
def Vk {S:Type} (k:Nat):Fx S:=fp 24 [] [] k Tryz.f206 0
theorem abe {S:Type} (o:Obj) (ho:ai o) (k:Nat):Tl o 206 (O3 k:Rw S):=ak (Vk k) trivial Tryz.func206 (by kernel_rfl) fun a b κ x h=>Eq.trans (by kernel_rfl) (al h)
def am9 {S:Type} (k:Nat):Rw S:=aj eo xn fun l κ=>aa k (amJ k l) (az κ)
def mP {S:Type} (k:Nat):Fx S:=fp 84 [(204,Gp k),(205,O2 k),(206,O3 k)] [(2,aS [0,4] [],ap 4 5),(8,⟨[(0,.none),(5,some (100005,false)),(6,.none)],[]⟩,ap 6 23),(12,⟨[(0,.none),(5,some (100005,false)),(6,.none),(7,.none)],[]⟩,ap 14 3223)] k Tryz.f146 0
def FA (l:List Cl) (i4:Int):St UU:=⟨[(0,(sC l)),(4,(iI i4))],[],[],[]⟩
def anL (l:List Cl) (out5:List Cl) (i6:Int):St UU:=⟨[(0,(sC l)),(5,(.own 100005 0)),(6,(iI i6))],[],[(100005,⟨0,ET.C,out5⟩)],[(100005,.app)]⟩
def Mm (l out5:List Cl) (i6:Int) (v7:Int):St UU:=⟨[(0,(sC l)),(5,(.own 100005 0)),(6,(iI i6)),(7,(iI v7))],[],[(100005,⟨0,ET.C,out5⟩)],[(100005,.app)]⟩
section
variable {S:Type} (k:Nat) (l:List Cl) (κ:Out UU→Option S)
theorem XP (out5 i6 κ1): ∀n v7,(mP k).lp κ 12 [κ1] n (Mm l out5 i6 v7)=nL k (az κ) (fun out5 i6=>κ1 (anL l out5 i6)) l out5 i6 n v7:=cF (xt k (az κ) l out5 i6 (fun out5 i6=>κ1 (anL l out5 i6))) rfl (fun _=>rfl) fun r v7=>by kernel_rfl
theorem XO: ∀n out5 i6,(mP k).lp κ 8 [] n (anL l out5 i6)=amS k (az κ) l n out5 i6:=aL (fun own=>sI k (az κ) l (fun out5 i6 v7=>nL k (az κ) own l out5 i6 k v7) own) rfl (fun _=>rfl) fun r out5 i6=>Eq.trans (b:=sI k (az κ) l (fun out5 i6 v7=>(mP k).lp κ 12 [r] k (Mm l out5 i6 v7)) (fun out5 i6=>r (anL l out5 i6)) out5 i6) (by kernel_rfl) (by simp only [XP])
theorem XN: ∀n i4,(mP k).lp κ 2 [] n (FA l i4)=qr k (az κ) l n i4:=cF (fun own=>sH k (az κ) l (fun out5 i6=>amS k (az κ) l k out5 i6) own) rfl (fun _=>rfl) fun r i4=>Eq.trans (b:=sH k (az κ) l (fun out5 i6=>(mP k).lp κ 8 [] k (anL l out5 i6)) (fun i4=>r (FA l i4)) i4) (by kernel_rfl) (by simp only [XO])
end
theorem nn {S:Type} (o:Obj) (ho:ai o) (k:Nat):Tl o 146 (am9 k:Rw S):=ak (mP k) ⟨J8 o ho k,abd o ho k,abe o ho k,trivial⟩ Tryz.func146 (by kernel_rfl) fun l κ x h=>Eq.trans (b:=H9 k (az κ) (fun i4=>(mP k).lp κ 2 [] k (FA l i4)) l) (by kernel_rfl) (Eq.trans (by simp only [XN];rfl) (al h))
def amL {S:Type} (k:Nat):Rw S:=aj eo xn fun f κ=>aa k (al6 k f) (aA κ)
def Vl {S:Type} (k:Nat):Fx S:=fp 17 [(15,A3 k),(146,am9 k)] [] k Tryz.f103 0
theorem amQ {S:Type} (o:Obj) (ho:ai o) (k:Nat):Tl o 103 (amL k:Rw S):=ak (Vl k) ⟨D_ o ho k,nn o ho k,trivial⟩ Tryz.func103 (by kernel_rfl) fun f κ x h=>Eq.trans (by kernel_rfl) (al h)
def am_ {S:Type} (k:Nat):Rw S:=aj lS xn fun s i κ=>aa k (al0 k s i) (aA κ)
def Vm {S:Type} (k:Nat):Fx S:=fp 20 [(252,A6 k)] [] k Tryz.f207 0
theorem np {S:Type} (o:Obj) (ho:ai o) (k:Nat):Tl o 207 (am_ k:Rw S):=ak (Vm k) ⟨Ea o ho k,trivial⟩ Tryz.func207 (by kernel_rfl) fun s i κ x h=>Eq.trans (by kernel_rfl) (al h)
def ani {S:Type} (k:Nat):Rw S:=aj ad9 xn fun l κ=>aa k (amI k l) (b_ κ)
def Cx {S:Type} (k:Nat):Fx S:=fp 20 [(252,A6 k)] [(3,aS [0,3,4] [],ap 5 11)] k Tryz.f208 0
def Mn (l:List Int) (v3 i4:Int):St UU:=⟨[(0,(la l .none)),(3,(iI v3)),(4,(iI i4))],[],[],[]⟩
section
variable {S:Type} (k:Nat) (l:List Int) (κ:Out UU→Option S)
theorem XQ: ∀n v3 i4,(Cx k).lp κ 3 [] n (Mn l v3 i4)=qk k (b_ κ) l n v3 i4:=aL (xm k (b_ κ) l) rfl (fun _=>rfl) fun r v3 i4=>by kernel_rfl
end
theorem pJ {S:Type} (o:Obj) (ho:ai o) (k:Nat):Tl o 208 (ani k:Rw S):=ak (Cx k) ⟨Ea o ho k,trivial⟩ Tryz.func208 (by kernel_rfl) fun l κ x h=>Eq.trans (b:=H5 k (b_ κ) (fun v3 i4=>(Cx k).lp κ 3 [] k (Mn l v3 i4)) l) (by kernel_rfl) (Eq.trans (by simp only [XQ];rfl) (al h))
def Gq {S:Type} (k:Nat):Rw S:=aj eo xn fun f κ=>aa k (tV k f) (b_ κ)
def rX {S:Type} (k:Nat):Fx S:=fp 43 [(207,am_ k),(208,ani k)] [(3,⟨[(0,.none),(3,some (100003,true)),(4,.none)],[]⟩,ap 5 11),(7,⟨[(0,.none),(3,some (100003,true)),(4,.none),(5,.none),(6,.none)],[]⟩,ap 13 2635)] k Tryz.f149 0
def anM (f:List Cl) (l3:List Int) (i4:Int):St UU:=⟨[(0,(sC f)),(3,(.own 100003 0)),(4,(iI i4))],[],[(100003,⟨0,ET.I,l3⟩)],[(100003,.wr)]⟩
def Mo (f:List Cl) (l3:List Int) (i4:Int) (v5:Bool) (v6:Int):St UU:=⟨[(0,(sC f)),(3,(.own 100003 0)),(4,(iI i4)),(5,(.bool v5)),(6,(iI v6))],[],[(100003,⟨0,ET.I,l3⟩)],[(100003,.wr)]⟩
section
variable {S:Type} (k:Nat) (f:List Cl) (κ:Out UU→Option S)
theorem XS (l3 i4 κ0): ∀n v5 v6,(rX k).lp κ 7 [κ0] n (Mo f l3 i4 v5 v6)=nM k (b_ κ) (fun l3 i4=>κ0 (anM f l3 i4)) f l3 i4 n v5 v6:=aL (xw k (b_ κ) f l3 i4 (fun l3 i4=>κ0 (anM f l3 i4))) rfl (fun _=>rfl) fun r v5 v6=>by kernel_rfl
theorem XR: ∀n l3 i4,(rX k).lp κ 3 [] n (anM f l3 i4)=am4 k (b_ κ) f n l3 i4:=aL (fun own=>sJ k (b_ κ) f (fun l3 i4 v5 v6=>nM k (b_ κ) own f l3 i4 k v5 v6) own) rfl (fun _=>rfl) fun r l3 i4=>Eq.trans (b:=sJ k (b_ κ) f (fun l3 i4 v5 v6=>(rX k).lp κ 7 [r] k (Mo f l3 i4 v5 v6)) (fun l3 i4=>r (anM f l3 i4)) l3 i4) (by kernel_rfl) (by simp only [XS])
end
theorem J9 {S:Type} (o:Obj) (ho:ai o) (k:Nat):Tl o 149 (Gq k:Rw S):=ak (rX k) ⟨np o ho k,pJ o ho k,trivial⟩ Tryz.func149 (by kernel_rfl) fun f κ x h=>Eq.trans (b:=Ib k (b_ κ) (fun l3 i4=>(rX k).lp κ 3 [] k (anM f l3 i4)) f) (by kernel_rfl) (Eq.trans (by simp only [XR];rfl) (al h))
def anj {S:Type} (k:Nat):Rw S:=aj uG xn fun s κ=>aa k (amH k s) (A0 κ)
def Cy {S:Type} (k:Nat):Fx S:=fx 17 (fun _=>[]) (fun _=>false) [(207,am_ k)] [(3,⟨[(0,.none),(3,some (100003,true)),(4,.none)],[]⟩,ap 5 11)] k Tryz.f148 false [true] 0
def Mp (s:Int) (out3:List Int) (i4:Int):St UU:=⟨[(0,(iU s)),(3,(.own 100003 0)),(4,(iI i4))],[],[(100003,⟨0,ET.I,out3⟩)],[(100003,.wr)]⟩
section
variable {S:Type} (k:Nat) (s:Int) (κ:Out UU→Option S)
theorem XT: ∀n out3 i4,(Cy k).lp κ 3 [] n (Mp s out3 i4)=uK k (A0 κ) s n out3 i4:=aL (Db k (A0 κ) s) rfl (fun _=>rfl) fun r out3 i4=>by kernel_rfl
end
theorem pK {S:Type} (o:Obj) (ho:ai o) (k:Nat):Tl o 148 (anj k:Rw S):=ak (Cy k) ⟨np o ho k,trivial⟩ Tryz.func148 (by kernel_rfl) fun s κ x h=>Eq.trans (b:=H4 k (A0 κ) (fun out3 i4=>(Cy k).lp κ 3 [] k (Mp s out3 i4)) s) (by kernel_rfl) (Eq.trans (by simp only [XT];rfl) (al h))
def O4 {S:Type} (k:Nat):Rw S:=aj EV xn fun f dims κ=>aa k (tY k f dims) (aA κ)
def Vo {S:Type} (k:Nat):Fx S:=fp 22 [(148,anj k),(149,Gq k)] [] k Tryz.f105 0
theorem abf {S:Type} (o:Obj) (ho:ai o) (k:Nat):Tl o 105 (O4 k:Rw S):=ak (Vo k) ⟨pK o ho k,J9 o ho k,trivial⟩ Tryz.func105 (by kernel_rfl) fun f dims κ x h=>Eq.trans (by kernel_rfl) (al h)
def anB {S:Type} (k:Nat):Rw S:=aj Lh xn fun kind kid κ=>aa k (am0 k kind kid) (kT κ)
def rY {S:Type} (k:Nat):Fx S:=fp 44 [] [(1000003,aS [0,1] [],ap 2 3),(1000005,aS [0,1] [],ap 3 7)] k Tryz.f106 0
def Mq (kind kid:Int):St UU:=⟨[(0,(iI kind)),(1,(iI kid))],[],[],[]⟩
def Mr (kind kid:Int):St UU:=⟨[(0,(iI kind)),(1,(iI kid))],[],[],[]⟩
section
variable {S:Type} (k:Nat) (kind kid:Int) (κ:Out UU→Option S)
theorem XV: ∀n,(rY k).jn κ 1000005 [] n (Mr kind kid)=Am k (kT κ) kind kid n:=gL (Dd k (kT κ) kind kid) rfl (fun _=>rfl) (by kernel_rfl)
theorem XU: ∀n,(rY k).jn κ 1000003 [] n (Mq kind kid)=E8 k (kT κ) kind kid n:=gL (xK k (kT κ) kind kid (Am k (kT κ) kind kid k)) rfl (fun _=>rfl) (Eq.trans (b:=xK k (kT κ) kind kid ((rY k).jn κ 1000005 [] k (Mr kind kid))) (by kernel_rfl) (by simp only [XV]))
end
theorem um {S:Type} (o:Obj) (ho:ai o) (k:Nat):Tl o 106 (anB k:Rw S):=ak (rY k) trivial Tryz.func106 (by kernel_rfl) fun kind kid κ x h=>Eq.trans (b:=Im k (kT κ) ((rY k).jn κ 1000003 [] k (Mq kind kid)) kind kid) (by kernel_rfl) (Eq.trans (by simp only [XU];rfl) (al h))
def Gr {S:Type} (k:Nat):Rw S:=aj ny xn fun c κ=>aa k (tQ k c) (aA κ)
def Cz {S:Type} (k:Nat):Fx S:=fp 18 [(207,am_ k)] [(2,aS [1,3] [(1,2)],ap 4 5)] k Tryz.f147 0
def Ms (c:Cl) (i3:Int):St UU:=⟨[(1,(pt 1)),(3,(iI i3))],[(1,bC c)],[],[]⟩
section
variable {S:Type} (k:Nat) (c:Cl) (κ:Out UU→Option S)
theorem XW: ∀n i3,(Cz k).lp κ 2 [] n (Ms c i3)=qn k (aA κ) c n i3:=cF (xq k (aA κ) c) rfl (fun _=>rfl) fun r i3=>by kernel_rfl
end
theorem J_ {S:Type} (o:Obj) (ho:ai o) (k:Nat):Tl o 147 (Gr k:Rw S):=ak (Cz k) ⟨np o ho k,trivial⟩ Tryz.func147 (by kernel_rfl) fun c κ x h=>Eq.trans (b:=H8 k (aA κ) (fun i3=>(Cz k).lp κ 2 [] k (Ms c i3)) c) (by kernel_rfl) (Eq.trans (by simp only [XW];rfl) (al h))
def vG {S:Type} (k:Nat):Rw S:=aj eo xn fun f κ=>aa k (jd k f) (aA κ)
def CA {S:Type} (k:Nat):Fx S:=fp 18 [(103,amL k),(147,Gr k)] [(4,aS [0,3] [],ap 5 11)] k Tryz.f104 0
def Mt (f:List Cl) (i3:Int):St UU:=⟨[(0,(sC f)),(3,(iI i3))],[],[],[]⟩
section
variable {S:Type} (k:Nat) (f:List Cl) (κ:Out UU→Option S)
theorem XX: ∀n i3,(CA k).lp κ 4 [] n (Mt f i3)=ano k (aA κ) f n i3:=cF (xE k (aA κ) f) rfl (fun _=>rfl) fun r i3=>by kernel_rfl
end
theorem zI {S:Type} (o:Obj) (ho:ai o) (k:Nat):Tl o 104 (vG k:Rw S):=ak (CA k) ⟨amQ o ho k,J_ o ho k,trivial⟩ Tryz.func104 (by kernel_rfl) fun f κ x h=>Eq.trans (b:=Ij k (aA κ) (fun i3=>(CA k).lp κ 4 [] k (Mt f i3)) f) (by kernel_rfl) (Eq.trans (by simp only [XX];rfl) (al h))
def vH {S:Type} (k:Nat):Rw S:=aj fU xn fun kind κ=>aa k (am2 k kind) (aE κ)
def Vp {S:Type} (k:Nat):Fx S:=fp 5 [] [] k Tryz.f107 0
theorem zJ {S:Type} (o:Obj) (ho:ai o) (k:Nat):Tl o 107 (vH k:Rw S):=ak (Vp k) trivial Tryz.func107 (by kernel_rfl) fun kind κ x h=>Eq.trans (by kernel_rfl) (al h)
def Gs {S:Type} (hd:dP S):Rw S:=aj Lg xn fun t vars dims bound κ=>hd t vars dims bound (aA κ)
def eM {S:Type} (hd:dP S) (k:Nat):Fx S:=fp 187 [(45,Gm k),(59,Gs hd),(101,OY k),(102,OZ k),(103,amL k),(104,vG k),(105,O4 k),(106,anB k),(107,vH k)] [(1000003,aS [1,2,3,4] [(4,6)],ap 2 3),(1000008,aS [1,2,3,4] [(4,6)],ap 3 7),(1000010,aS [1,2,3,4] [(4,6)],ap 4 15),(1000021,aS [1,2,3,4] [(4,6)],ap 5 31),(24,aS [1,2,3,4,9] [(4,6)],ap 9 191),(32,aS [1,2,3,4,12] [(4,6)],ap 10 383),(38,aS [1,2,3,4,12,13,14] [(4,6),(13,2)],ap 18 117119)] k Tryz.f59 0
def Mu (t:Tm) (vars dims:Int) (bound:Bool):St UU:=⟨[(1,(iI vars)),(2,(iI dims)),(3,(.bool bound)),(4,(pt 4))],[(4,bT t)],[],[]⟩
def Mv (t:Tm) (vars dims:Int) (bound:Bool):St UU:=⟨[(1,(iI vars)),(2,(iI dims)),(3,(.bool bound)),(4,(pt 4))],[(4,bT t)],[],[]⟩
def Mw (t:Tm) (vars dims:Int) (bound:Bool):St UU:=⟨[(1,(iI vars)),(2,(iI dims)),(3,(.bool bound)),(4,(pt 4))],[(4,bT t)],[],[]⟩
def Mx (t:Tm) (vars dims:Int) (bound:Bool):St UU:=⟨[(1,(iI vars)),(2,(iI dims)),(3,(.bool bound)),(4,(pt 4))],[(4,bT t)],[],[]⟩
def FB (t:Tm) (vars dims:Int) (bound:Bool) (i9:Int):St UU:=⟨[(1,(iI vars)),(2,(iI dims)),(3,(.bool bound)),(4,(pt 4)),(9,(iI i9))],[(4,bT t)],[],[]⟩
def anN (t:Tm) (vars dims:Int) (bound:Bool) (i12:Int):St UU:=⟨[(1,(iI vars)),(2,(iI dims)),(3,(.bool bound)),(4,(pt 4)),(12,(iI i12))],[(4,bT t)],[],[]⟩
def My (x11:(Br Tm)) (t:Tm) (vars i12 dims:Int) (bound:Bool) (v14:Int):St UU:=⟨[(1,(iI vars)),(2,(iI dims)),(3,(.bool bound)),(4,(pt 4)),(12,(iI i12)),(13,(pt 13)),(14,(iI v14))],[(4,bT t),(13,bB x11)],[],[]⟩
section
variable {S:Type} (hd:dP S) (k:Nat) (t:Tm) (vars dims:Int) (bound:Bool) (κ:Out UU→Option S)
theorem X4 (x11 i12 κ5): ∀n v14,(eM hd k).lp κ 38 [κ5] n (My x11 t vars i12 dims bound v14)=mc hd k (aA κ) (fun i12=>κ5 (anN t vars dims bound i12)) x11 t vars i12 dims bound n v14:=cF (xJ hd k (aA κ) x11 t vars i12 dims bound (fun i12=>κ5 (anN t vars dims bound i12))) rfl (fun _=>rfl) fun r v14=>by kernel_rfl
theorem X3: ∀n i12,(eM hd k).lp κ 32 [] n (anN t vars dims bound i12)=amD hd k (aA κ) t vars dims bound n i12:=cF (fun own=>sQ hd k (aA κ) t vars dims bound (fun x11 i12 v14=>mc hd k (aA κ) own x11 t vars i12 dims bound k v14) own) rfl (fun _=>rfl) fun r i12=>Eq.trans (b:=sQ hd k (aA κ) t vars dims bound (fun x11 i12 v14=>(eM hd k).lp κ 38 [r] k (My x11 t vars i12 dims bound v14)) (fun i12=>r (anN t vars dims bound i12)) i12) (by kernel_rfl) (by simp only [X4])
theorem X2: ∀n i9,(eM hd k).lp κ 24 [] n (FB t vars dims bound i9)=amT hd k (aA κ) t vars dims bound n i9:=cF (fun own=>sP hd k (aA κ) t vars dims bound (fun i12=>amD hd k (aA κ) t vars dims bound k i12) own) rfl (fun _=>rfl) fun r i9=>Eq.trans (b:=sP hd k (aA κ) t vars dims bound (fun i12=>(eM hd k).lp κ 32 [] k (anN t vars dims bound i12)) (fun i9=>r (FB t vars dims bound i9)) i9) (by kernel_rfl) (by simp only [X3])
theorem X1: ∀n,(eM hd k).jn κ 1000021 [] n (Mx t vars dims bound)=anr hd k (aA κ) t vars dims bound n:=gL (xH hd k (aA κ) t vars dims bound (fun i9=>amT hd k (aA κ) t vars dims bound k i9)) rfl (fun _=>rfl) (Eq.trans (b:=xH hd k (aA κ) t vars dims bound (fun i9=>(eM hd k).lp κ 24 [] k (FB t vars dims bound i9))) (by kernel_rfl) (by simp only [X2]))
theorem X0: ∀n,(eM hd k).jn κ 1000010 [] n (Mw t vars dims bound)=anq hd k (aA κ) t vars dims bound n:=gL (sO hd k (aA κ) t vars dims bound (anr hd k (aA κ) t vars dims bound k)) rfl (fun _=>rfl) (Eq.trans (b:=sO hd k (aA κ) t vars dims bound ((eM hd k).jn κ 1000021 [] k (Mx t vars dims bound))) (by kernel_rfl) (by simp only [X1]))
theorem XZ: ∀n,(eM hd k).jn κ 1000008 [] n (Mv t vars dims bound)=uL hd k (aA κ) t vars dims bound n:=gL (sN hd k (aA κ) t vars dims bound (anq hd k (aA κ) t vars dims bound k)) rfl (fun _=>rfl) (Eq.trans (b:=sN hd k (aA κ) t vars dims bound ((eM hd k).jn κ 1000010 [] k (Mw t vars dims bound))) (by kernel_rfl) (by simp only [X0]))
theorem XY: ∀n,(eM hd k).jn κ 1000003 [] n (Mu t vars dims bound)=Al hd k (aA κ) t vars dims bound n:=gL (xG hd k (aA κ) t vars dims bound (uL hd k (aA κ) t vars dims bound k)) rfl (fun _=>rfl) (Eq.trans (b:=xG hd k (aA κ) t vars dims bound ((eM hd k).jn κ 1000008 [] k (Mv t vars dims bound))) (by kernel_rfl) (by simp only [XZ]))
end
theorem KZ {S:Type} (o:Obj) (ho:ai o): ∀k:Nat,Tl o 59 (Gs (alR k:dP S))
 |0=>dz fun t vars dims bound κ x h=>by cases h
 |k+1=>ak (eM (alR k) k) ⟨JZ o ho k,KZ o ho k,aa_ o ho k,aba o ho k,amQ o ho k,zI o ho k,abf o ho k,um o ho k,zJ o ho k,trivial⟩ Tryz.func59 (by kernel_rfl) fun t vars dims bound κ x h=>Eq.trans (b:=Il (alR k) k (aA κ) ((eM (alR k) k).jn κ 1000003 [] k (Mu t vars dims bound)) t vars dims bound) (by kernel_rfl) (Eq.trans (by simp only [XY];rfl) h)
def anC {S:Type} (k:Nat):Rw S:=aj dV xn fun t κ=>aa k (am1 k t) (aE κ)
def Vq {S:Type} (k:Nat):Fx S:=fp 14 [(58,OX k),(59,Gs (alR k))] [] k Tryz.f32 0
theorem uo {S:Type} (o:Obj) (ho:ai o) (k:Nat):Tl o 32 (anC k:Rw S):=ak (Vq k) ⟨aa9 o ho k,KZ o ho k,trivial⟩ Tryz.func32 (by kernel_rfl) fun t κ x h=>Eq.trans (by kernel_rfl) (al h)
def Gt {S:Type} (k:Nat):Rw S:=aj ad_ xn fun kind l κ=>aa k (ua k kind l) (aF κ)
def CB {S:Type} (k:Nat):Fx S:=fp 23 [(45,Gm k)] [(3,⟨[(0,.none),(4,.none),(5,.none),(6,.none)],[(4,[.none,.none,.none,some (200259,true),some (200260,true),some (200261,true)]),(5,[.none,.none,.none,some (200323,true),some (200324,true),.none])]⟩,ap 5 11)] k Tryz.f109 0
def Mz (kind:Int) (l:List (Br Tm)) (b5_4:List Tm) (i6:Int):St UU:=⟨[(0,(iI kind)),(4,(pt 4)),(5,(pt 5)),(6,(iI i6))],[(4,.cells [(iI 0),(iI 0),(.str ByteArray.empty),(.own 200259 0),(.own 200260 0),(.own 200261 0)]),(5,.cells [(iI kind),(iI 0),(.str ByteArray.empty),(.own 200323 0),(.own 200324 0),(sB l)])],[(200324,⟨0,ET.T,b5_4⟩),(200323,⟨0,ET.C,([]:List Cl)⟩),(200261,⟨0,ET.B,([]:List (Br Tm))⟩),(200260,⟨0,ET.T,([]:List Tm)⟩),(200259,⟨0,ET.C,([]:List Cl)⟩)],[(200324,.wr),(200323,.wr),(200261,.wr),(200260,.wr),(200259,.wr)]⟩
section
variable {S:Type} (k:Nat) (kind:Int) (l:List (Br Tm)) (κ:Out UU→Option S)
theorem X5: ∀n b5_4 i6,(CB k).lp κ 3 [] n (Mz kind l b5_4 i6)=anw k (aF κ) kind l n b5_4 i6:=aL (Dj k (aF κ) kind l) rfl (fun _=>rfl) fun r b5_4 i6=>by kernel_rfl
end
theorem Ka {S:Type} (o:Obj) (ho:ai o) (k:Nat):Tl o 109 (Gt k:Rw S):=ak (CB k) ⟨JZ o ho k,trivial⟩ Tryz.func109 (by kernel_rfl) fun kind l κ x h=>Eq.trans (b:=IE k (aF κ) (fun b5_4 i6=>(CB k).lp κ 3 [] k (Mz kind l b5_4 i6)) kind l) (by kernel_rfl) (Eq.trans (by simp only [X5];rfl) (al h))
def Gu {S:Type} (k:Nat):Rw S:=aj EW xn fun l κ=>aa k (pz k l) (aE κ)
def CC {S:Type} (k:Nat):Fx S:=fp 19 [(32,anC k)] [(2,aS [0,3] [],ap 4 5)] k Tryz.f108 0
def MA (l:List Tm) (i3:Int):St UU:=⟨[(0,(sT l)),(3,(iI i3))],[],[],[]⟩
section
variable {S:Type} (k:Nat) (l:List Tm) (κ:Out UU→Option S)
theorem X6: ∀n i3,(CC k).lp κ 2 [] n (MA l i3)=anz k (aE κ) l n i3:=cF (xZ k (aE κ) l) rfl (fun _=>rfl) fun r i3=>by kernel_rfl
end
theorem Kb {S:Type} (o:Obj) (ho:ai o) (k:Nat):Tl o 108 (Gu k:Rw S):=ak (CC k) ⟨uo o ho k,trivial⟩ Tryz.func108 (by kernel_rfl) fun l κ x h=>Eq.trans (b:=II k (aE κ) (fun i3=>(CC k).lp κ 2 [] k (MA l i3)) l) (by kernel_rfl) (Eq.trans (by simp only [X6];rfl) (al h))
def amV {S:Type} (k:Nat):Rw S:=aj fU xn fun a_e κ=>aa k (alY k a_e) (aii κ)
def Vs {S:Type} (k:Nat):Fx S:=fx 6 (fun _=>[]) (fun _=>false) [] [] k Tryz.f62 true [] 0
theorem am3 {S:Type} (o:Obj) (ho:ai o) (k:Nat):Tl o 62 (amV k:Rw S):=ak (Vs k) trivial Tryz.func62 (by kernel_rfl) fun a_e κ x h=>Eq.trans (by kernel_rfl) (al h)
def O6 {S:Type} (k:Nat):Rw S:=aj Li xn fun s a_from a_by κ=>aa k (amX k s a_from a_by) (vA κ)
def CD {S:Type} (k:Nat):Fx S:=fp 48 [(148,anj k),(208,ani k)] [(5,⟨[(1,.none),(2,.none),(8,some (100008,true)),(9,.none)],[]⟩,ap 6 23)] k Tryz.f253 0
def MB (a_from a_by:Int) (l8:List Int) (v9:Int):St UU:=⟨[(1,(iI a_from)),(2,(iI a_by)),(8,(.own 100008 0)),(9,(iI v9))],[],[(100008,⟨0,ET.I,l8⟩)],[(100008,.wr)]⟩
section
variable {S:Type} (k:Nat) (s a_from a_by:Int) (κ:Out UU→Option S)
theorem X7: ∀n l8 v9,(CD k).lp κ 5 [] n (MB a_from a_by l8 v9)=nJ k (vA κ) a_from a_by n l8 v9:=aL (xl k (vA κ) a_from a_by) rfl (fun _=>rfl) fun r l8 v9=>by kernel_rfl
end
theorem abh {S:Type} (o:Obj) (ho:ai o) (k:Nat):Tl o 253 (O6 k:Rw S):=ak (CD k) ⟨pK o ho k,pJ o ho k,trivial⟩ Tryz.func253 (by kernel_rfl) fun s a_from a_by κ x h=>Eq.trans (b:=anU k (vA κ) (fun l8 v9=>(CD k).lp κ 5 [] k (MB a_from a_by l8 v9)) s a_from a_by) (by kernel_rfl) (Eq.trans (by simp only [X7];rfl) (al h))
def O7 {S:Type} (k:Nat):Rw S:=aj Lj xn fun c a_from a_by κ=>aa k (zh k c a_from a_by) (N8 κ)
def Vt {S:Type} (k:Nat):Fx S:=fp 42 [(204,Gp k),(253,O6 k)] [] k Tryz.f209 0
theorem abi {S:Type} (o:Obj) (ho:ai o) (k:Nat):Tl o 209 (O7 k:Rw S):=ak (Vt k) ⟨J8 o ho k,abh o ho k,trivial⟩ Tryz.func209 (by kernel_rfl) fun c a_from a_by κ x h=>Eq.trans (by kernel_rfl) (al h)
end
end Go.Proofs.YtfkkpkhfjpaafaaGreatDoor
namespace Go.Proofs.YtfkkpkhfjpaafaaGreatDoor
open Go PI
set_option linter.unusedVariables false
set_option maxRecDepth 100000
noncomputable section
def vI {S:Type} (k:Nat):Rw S:=aj EY xn fun f a_from a_by κ=>aa k (amY k f a_from a_by) (az κ)
def CE {S:Type} (k:Nat):Fx S:=fp 42 [(103,amL k),(146,am9 k),(209,O7 k)] [(5,⟨[(0,.none),(1,.none),(2,.none),(8,some (100008,true)),(9,.none)],[]⟩,ap 6 23)] k Tryz.f151 0
def MC (f:List Cl) (a_from a_by:Int) (out8:List Cl) (i9:Int):St UU:=⟨[(0,(sC f)),(1,(iI a_from)),(2,(iI a_by)),(8,(.own 100008 0)),(9,(iI i9))],[],[(100008,⟨0,ET.C,out8⟩)],[(100008,.wr)]⟩
section
variable {S:Type} (k:Nat) (f:List Cl) (a_from a_by:Int) (κ:Out UU→Option S)
theorem X8: ∀n out8 i9,(CE k).lp κ 5 [] n (MC f a_from a_by out8 i9)=qw k (az κ) f a_from a_by n out8 i9:=aL (xx k (az κ) f a_from a_by) rfl (fun _=>rfl) fun r out8 i9=>by kernel_rfl
end
theorem zK {S:Type} (o:Obj) (ho:ai o) (k:Nat):Tl o 151 (vI k:Rw S):=ak (CE k) ⟨amQ o ho k,nn o ho k,abi o ho k,trivial⟩ Tryz.func151 (by kernel_rfl) fun f a_from a_by κ x h=>Eq.trans (b:=Ic k (az κ) (fun out8 i9=>(CE k).lp κ 5 [] k (MC f a_from a_by out8 i9)) f a_from a_by) (by kernel_rfl) (Eq.trans (by simp only [X8];rfl) (al h))
def O8 {S:Type} (k:Nat):Rw S:=aj EY xn fun f a_from a_by κ=>aa k (tZ k f a_from a_by) (az κ)
def Vu {S:Type} (k:Nat):Fx S:=fp 17 [(151,vI k)] [] k Tryz.f155 0
theorem abj {S:Type} (o:Obj) (ho:ai o) (k:Nat):Tl o 155 (O8 k:Rw S):=ak (Vu k) ⟨zK o ho k,trivial⟩ Tryz.func155 (by kernel_rfl) fun f a_from a_by κ x h=>Eq.trans (by kernel_rfl) (al h)
def anD {S:Type} (hd:fL S):Rw S:=aj aea xn fun t v vby d dby κ=>hd t v vby d dby (aF κ)
def jO {S:Type} (hd:fL S) (k:Nat):Fx S:=fp 174 [(62,amV k),(106,anB k),(107,vH k),(113,anD hd),(155,O8 k)] [(1000006,⟨[(1,.none),(2,.none),(3,.none),(4,.none),(5,.none),(10,.none),(11,.none)],[(5,[.none,.none,.none,.none,.none,.none]),(10,[.none,.none,.none,some (200643,true),some (200644,true),some (200645,true)]),(11,[.none,.none,.none,some (200707,true),some (200708,true),some (200709,true)])]⟩,ap 3 7),(11,⟨[(1,.none),(2,.none),(3,.none),(4,.none),(5,.none),(10,.none),(11,.none),(14,.none)],[(5,[.none,.none,.none,.none,.none,.none]),(10,[.none,.none,.none,some (200643,true),some (200644,true),some (200645,true)]),(11,[.none,.none,.none,.none,some (200708,true),some (200709,true)])]⟩,ap 9 191),(19,⟨[(1,.none),(2,.none),(3,.none),(4,.none),(5,.none),(10,.none),(11,.none),(18,.none)],[(5,[.none,.none,.none,.none,.none,.none]),(10,[.none,.none,.none,some (200643,true),some (200644,true),some (200645,true)]),(11,[.none,.none,.none,.none,some (200708,true),some (200709,true)])]⟩,ap 10 383),(26,⟨[(1,.none),(2,.none),(3,.none),(4,.none),(5,.none),(10,.none),(11,.none),(18,.none),(21,.none),(22,.none)],[(5,[.none,.none,.none,.none,.none,.none]),(10,[.none,.none,.none,some (200643,true),some (200644,true),some (200645,true)]),(11,[.none,.none,.none,.none,some (200708,true),some (200709,true)]),(21,[.none,some (201345,true)])]⟩,ap 20 379263)] k Tryz.f113 0
def MD (t:Tm) (v vby d dby:Int) (b11_1:Int):St UU:=⟨[(1,(iI v)),(2,(iI vby)),(3,(iI d)),(4,(iI dby)),(5,(pt 5)),(10,(pt 10)),(11,(pt 11))],[(5,bT t),(10,.cells [(iI 0),(iI 0),(.str ByteArray.empty),(.own 200643 0),(.own 200644 0),(.own 200645 0)]),(11,.cells [(iI t.kind),(iI b11_1),(.str t.name),(.own 200707 0),(.own 200708 0),(.own 200709 0)])],[(200709,⟨0,ET.B,([]:List (Br Tm))⟩),(200708,⟨0,ET.T,([]:List Tm)⟩),(200707,⟨0,ET.C,([]:List Cl)⟩),(200645,⟨0,ET.B,([]:List (Br Tm))⟩),(200644,⟨0,ET.T,([]:List Tm)⟩),(200643,⟨0,ET.C,([]:List Cl)⟩)],[(200709,.wr),(200708,.wr),(200707,.wr),(200645,.wr),(200644,.wr),(200643,.wr)]⟩
def FC (t:Tm) (b11_1:Int) (r2:List Cl×Int) (v vby d dby:Int) (b11_4:List Tm) (i14:Int):St UU:=⟨[(1,(iI v)),(2,(iI vby)),(3,(iI d)),(4,(iI dby)),(5,(pt 5)),(10,(pt 10)),(11,(pt 11)),(14,(iI i14))],[(5,bT t),(10,.cells [(iI 0),(iI 0),(.str ByteArray.empty),(.own 200643 0),(.own 200644 0),(.own 200645 0)]),(11,.cells [(iI t.kind),(iI b11_1),(.str t.name),(sC r2.1),(.own 200708 0),(.own 200709 0)])],[(200709,⟨0,ET.B,([]:List (Br Tm))⟩),(200708,⟨0,ET.T,b11_4⟩),(200645,⟨0,ET.B,([]:List (Br Tm))⟩),(200644,⟨0,ET.T,([]:List Tm)⟩),(200643,⟨0,ET.C,([]:List Cl)⟩)],[(200709,.wr),(200708,.wr),(200645,.wr),(200644,.wr),(200643,.wr)]⟩
def anO (t:Tm) (b11_1:Int) (r2:List Cl×Int) (b11_4:List Tm) (v vby d dby:Int) (b11_5:List (Br Tm)) (i18:Int):St UU:=⟨[(1,(iI v)),(2,(iI vby)),(3,(iI d)),(4,(iI dby)),(5,(pt 5)),(10,(pt 10)),(11,(pt 11)),(18,(iI i18))],[(5,bT t),(10,.cells [(iI 0),(iI 0),(.str ByteArray.empty),(.own 200643 0),(.own 200644 0),(.own 200645 0)]),(11,.cells [(iI t.kind),(iI b11_1),(.str t.name),(sC r2.1),(.own 200708 0),(.own 200709 0)])],[(200709,⟨0,ET.B,b11_5⟩),(200708,⟨0,ET.T,b11_4⟩),(200645,⟨0,ET.B,([]:List (Br Tm))⟩),(200644,⟨0,ET.T,([]:List Tm)⟩),(200643,⟨0,ET.C,([]:List Cl)⟩)],[(200709,.wr),(200708,.wr),(200645,.wr),(200644,.wr),(200643,.wr)]⟩
def ME (t:Tm) (b11_1:Int) (r2:List Cl×Int) (b11_4:List Tm) (b11_5:List (Br Tm)) (r9:List Cl×Int) (v i18 vby d dby:Int) (b21_1:List Tm) (v22:Int):St UU:=⟨[(1,(iI v)),(2,(iI vby)),(3,(iI d)),(4,(iI dby)),(5,(pt 5)),(10,(pt 10)),(11,(pt 11)),(18,(iI i18)),(21,(pt 21)),(22,(iI v22))],[(5,bT t),(10,.cells [(iI 0),(iI 0),(.str ByteArray.empty),(.own 200643 0),(.own 200644 0),(.own 200645 0)]),(11,.cells [(iI t.kind),(iI b11_1),(.str t.name),(sC r2.1),(.own 200708 0),(.own 200709 0)]),(21,.cells [(sC r9.1),(.own 201345 0)])],[(201345,⟨0,ET.T,b21_1⟩),(200709,⟨0,ET.B,b11_5⟩),(200708,⟨0,ET.T,b11_4⟩),(200645,⟨0,ET.B,([]:List (Br Tm))⟩),(200644,⟨0,ET.T,([]:List Tm)⟩),(200643,⟨0,ET.C,([]:List Cl)⟩)],[(201345,.wr),(200709,.wr),(200708,.wr),(200645,.wr),(200644,.wr),(200643,.wr)]⟩
section
variable {S:Type} (hd:fL S) (k:Nat) (t:Tm) (v vby d dby:Int) (κ:Out UU→Option S)
theorem Yb (b11_1 r2 b11_4 b11_5 r9 i18 κ2): ∀n b21_1 v22,(jO hd k).lp κ 26 [κ2] n (ME t b11_1 r2 b11_4 b11_5 r9 v i18 vby d dby b21_1 v22)=amK hd k (aF κ) (fun b11_5 i18=>κ2 (anO t b11_1 r2 b11_4 v vby d dby b11_5 i18)) t b11_1 r2 b11_4 b11_5 r9 v i18 vby d dby n b21_1 v22:=aL (xR hd k (aF κ) t b11_1 r2 b11_4 b11_5 r9 v i18 vby d dby (fun b11_5 i18=>κ2 (anO t b11_1 r2 b11_4 v vby d dby b11_5 i18))) rfl (fun _=>rfl) fun r b21_1 v22=>by kernel_rfl
theorem Ya (b11_1 r2 b11_4): ∀n b11_5 i18,(jO hd k).lp κ 19 [] n (anO t b11_1 r2 b11_4 v vby d dby b11_5 i18)=amh hd k (aF κ) t b11_1 r2 b11_4 v vby d dby n b11_5 i18:=aL (fun own=>ta hd k (aF κ) t b11_1 r2 b11_4 v vby d dby (fun b11_5 r9 i18 b21_1 v22=>amK hd k (aF κ) own t b11_1 r2 b11_4 b11_5 r9 v i18 vby d dby k b21_1 v22) own) rfl (fun _=>rfl) fun r b11_5 i18=>Eq.trans (b:=ta hd k (aF κ) t b11_1 r2 b11_4 v vby d dby (fun b11_5 r9 i18 b21_1 v22=>(jO hd k).lp κ 26 [r] k (ME t b11_1 r2 b11_4 b11_5 r9 v i18 vby d dby b21_1 v22)) (fun b11_5 i18=>r (anO t b11_1 r2 b11_4 v vby d dby b11_5 i18)) b11_5 i18) (by kernel_rfl) (by simp only [Yb])
theorem X_ (b11_1 r2): ∀n b11_4 i14,(jO hd k).lp κ 11 [] n (FC t b11_1 r2 v vby d dby b11_4 i14)=amE hd k (aF κ) t b11_1 r2 v vby d dby n b11_4 i14:=aL (fun own=>s_ hd k (aF κ) t b11_1 r2 v vby d dby (fun b11_4 b11_5 i18=>amh hd k (aF κ) t b11_1 r2 b11_4 v vby d dby k b11_5 i18) own) rfl (fun _=>rfl) fun r b11_4 i14=>Eq.trans (b:=s_ hd k (aF κ) t b11_1 r2 v vby d dby (fun b11_4 b11_5 i18=>(jO hd k).lp κ 19 [] k (anO t b11_1 r2 b11_4 v vby d dby b11_5 i18)) (fun b11_4 i14=>r (FC t b11_1 r2 v vby d dby b11_4 i14)) b11_4 i14) (by kernel_rfl) (by simp only [Ya])
theorem X9: ∀n b11_1,(jO hd k).jn κ 1000006 [] n (MD t v vby d dby b11_1)=Ao hd k (aF κ) t v vby d dby n b11_1:=nx (s9 hd k (aF κ) t v vby d dby (fun b11_1 r2 b11_4 i14=>amE hd k (aF κ) t b11_1 r2 v vby d dby k b11_4 i14)) rfl (fun _=>rfl) (fun b11_1=>Eq.trans (b:=s9 hd k (aF κ) t v vby d dby (fun b11_1 r2 b11_4 i14=>(jO hd k).lp κ 11 [] k (FC t b11_1 r2 v vby d dby b11_4 i14)) b11_1) (by kernel_rfl) (by simp only [X_]))
end
theorem uC {S:Type} (o:Obj) (ho:ai o): ∀k:Nat,Tl o 113 (anD (alI k:fL S))
 |0=>dz fun t v vby d dby κ x h=>by cases h
 |k+1=>ak (jO (alI k) k) ⟨am3 o ho k,um o ho k,zJ o ho k,uC o ho k,abj o ho k,trivial⟩ Tryz.func113 (by kernel_rfl) fun t v vby d dby κ x h=>Eq.trans (b:=Iy (alI k) k (aF κ) (fun b11_1=>(jO (alI k) k).jn κ 1000006 [] k (MD t v vby d dby b11_1)) t v vby d dby) (by kernel_rfl) (Eq.trans (by simp only [X9];rfl) h)
def A8 {S:Type} (k:Nat):Rw S:=aj amR xn fun t vars dims κ=>aa k (amA k t vars dims) (aF κ)
def Vv {S:Type} (k:Nat):Fx S:=fp 22 [(113,anD (alI k))] [] k Tryz.f65 0
theorem Ec {S:Type} (o:Obj) (ho:ai o) (k:Nat):Tl o 65 (A8 k:Rw S):=ak (Vv k) ⟨uC o ho k,trivial⟩ Tryz.func65 (by kernel_rfl) fun t vars dims κ x h=>Eq.trans (by kernel_rfl) (al h)
def Gv {S:Type} (k:Nat):Rw S:=aj Ag xn fun kind kids κ=>aa k (ue k kind kids) (aF κ)
def CF {S:Type} (k:Nat):Fx S:=fp 25 [] [(2,⟨[(0,.none),(1,.none),(4,.none),(5,.none)],[(4,[.none,.none,.none,some (200259,true),some (200260,true),some (200261,true)])]⟩,ap 4 5)] k Tryz.f66 0
def MF (kind:Int) (kids:List Tm) (i5:Int):St UU:=⟨[(0,(iI kind)),(1,(sT kids)),(4,(pt 4)),(5,(iI i5))],[(4,.cells [(iI 0),(iI 0),(.str ByteArray.empty),(.own 200259 0),(.own 200260 0),(.own 200261 0)])],[(200261,⟨0,ET.B,([]:List (Br Tm))⟩),(200260,⟨0,ET.T,([]:List Tm)⟩),(200259,⟨0,ET.C,([]:List Cl)⟩)],[(200261,.wr),(200260,.wr),(200259,.wr)]⟩
section
variable {S:Type} (k:Nat) (kind:Int) (kids:List Tm) (κ:Out UU→Option S)
theorem Yc: ∀n i5,(CF k).lp κ 2 [] n (MF kind kids i5)=anx k (aF κ) kind kids n i5:=cF (xY k (aF κ) kind kids) rfl (fun _=>rfl) fun r i5=>by kernel_rfl
end
theorem Kc {S:Type} (o:Obj) (ho:ai o) (k:Nat):Tl o 66 (Gv k:Rw S):=ak (CF k) trivial Tryz.func66 (by kernel_rfl) fun kind kids κ x h=>Eq.trans (b:=BX k (aF κ) (fun i5=>(CF k).lp κ 2 [] k (MF kind kids i5)) kind kids) (by kernel_rfl) (Eq.trans (by simp only [Yc];rfl) (al h))
def Gw {S:Type} (k:Nat):Rw S:=aj adu xn fun kind a b κ=>aa k (gH k kind a b) (aF κ)
def Vw {S:Type} (k:Nat):Fx S:=fp 12 [(66,Gv k)] [] k Tryz.f150 0
theorem Kd {S:Type} (o:Obj) (ho:ai o) (k:Nat):Tl o 150 (Gw k:Rw S):=ak (Vw k) ⟨Kc o ho k,trivial⟩ Tryz.func150 (by kernel_rfl) fun kind a b κ x h=>Eq.trans (by kernel_rfl) (al h)
def Gx {S:Type} (k:Nat):Rw S:=aj amR xn fun t a b κ=>aa k (t6 k t a b) (aE κ)
def Vy {S:Type} (k:Nat):Fx S:=fp 21 [(32,anC k)] [] k Tryz.f254 0
theorem Ke {S:Type} (o:Obj) (ho:ai o) (k:Nat):Tl o 254 (Gx k:Rw S):=ak (Vy k) ⟨uo o ho k,trivial⟩ Tryz.func254 (by kernel_rfl) fun t a b κ x h=>Eq.trans (by kernel_rfl) (al h)
def A9 {S:Type} (k:Nat):Rw S:=aj dV xn fun t κ=>aa k (amP k t) (cM κ)
def Vz {S:Type} (k:Nat):Fx S:=fp 12 [] [] k Tryz.f212 0
theorem Ed {S:Type} (o:Obj) (ho:ai o) (k:Nat):Tl o 212 (A9 k:Rw S):=ak (Vz k) trivial Tryz.func212 (by kernel_rfl) fun t κ x h=>Eq.trans (by kernel_rfl) (al h)
def O_ {S:Type} (k:Nat):Rw S:=aj amR xn fun t a_from a_by κ=>aa k (zr k t a_from a_by) (cM κ)
def VA {S:Type} (k:Nat):Fx S:=fp 26 [(113,anD (alI k)),(212,A9 k),(254,Gx k)] [] k Tryz.f210 0
theorem abl {S:Type} (o:Obj) (ho:ai o) (k:Nat):Tl o 210 (O_ k:Rw S):=ak (VA k) ⟨uC o ho k,Ed o ho k,Ke o ho k,trivial⟩ Tryz.func210 (by kernel_rfl) fun t a_from a_by κ x h=>Eq.trans (by kernel_rfl) (al h)
def vJ {S:Type} (k:Nat):Rw S:=aj lS xn fun s i κ=>aa k (gC k s i) (b_ κ)
def CG {S:Type} (k:Nat):Fx S:=fp 31 [(148,anj k),(208,ani k)] [(4,⟨[(1,.none),(5,some (100005,true)),(6,some (100006,true)),(7,.none)],[]⟩,ap 6 23)] k Tryz.f305 0
def MG (i:Int) (r1:List Int) (out6:List Int) (v7:Int):St UU:=⟨[(1,(iI i)),(5,(.own 100005 0)),(6,(.own 100006 0)),(7,(iI v7))],[],[(100006,⟨0,ET.I,out6⟩),(100005,⟨0,ET.I,r1⟩)],[(100006,.wr),(100005,.wr)]⟩
section
variable {S:Type} (k:Nat) (s i:Int) (κ:Out UU→Option S)
theorem Yd (r1): ∀n out6 v7,(CG k).lp κ 4 [] n (MG i r1 out6 v7)=ql k (b_ κ) i r1 n out6 v7:=aL (xo k (b_ κ) i r1) rfl (fun _=>rfl) fun r out6 v7=>by kernel_rfl
end
theorem zL {S:Type} (o:Obj) (ho:ai o) (k:Nat):Tl o 305 (vJ k:Rw S):=ak (CG k) ⟨pK o ho k,pJ o ho k,trivial⟩ Tryz.func305 (by kernel_rfl) fun s i κ x h=>Eq.trans (b:=H6 k (b_ κ) (fun r1 out6 v7=>(CG k).lp κ 4 [] k (MG i r1 out6 v7)) s i) (by kernel_rfl) (Eq.trans (by simp only [Yd];rfl) (al h))
def vK {S:Type} (k:Nat):Rw S:=aj eo xn fun l κ=>aa k (ng k l) (az κ)
def CH {S:Type} (k:Nat):Fx S:=fp 29 [(146,am9 k),(147,Gr k)] [(3,⟨[(0,.none),(4,some (100004,true)),(5,.none)],[]⟩,ap 5 11)] k Tryz.f316 0
def MH (l:List Cl) (out4:List Cl) (i5:Int):St UU:=⟨[(0,(sC l)),(4,(.own 100004 0)),(5,(iI i5))],[],[(100004,⟨0,ET.C,out4⟩)],[(100004,.wr)]⟩
section
variable {S:Type} (k:Nat) (l:List Cl) (κ:Out UU→Option S)
theorem Ye: ∀n out4 i5,(CH k).lp κ 3 [] n (MH l out4 i5)=anp k (az κ) l n out4 i5:=aL (xF k (az κ) l) rfl (fun _=>rfl) fun r out4 i5=>by kernel_rfl
end
theorem zM {S:Type} (o:Obj) (ho:ai o) (k:Nat):Tl o 316 (vK k:Rw S):=ak (CH k) ⟨nn o ho k,J_ o ho k,trivial⟩ Tryz.func316 (by kernel_rfl) fun l κ x h=>Eq.trans (b:=Ik k (az κ) (fun out4 i5=>(CH k).lp κ 3 [] k (MH l out4 i5)) l) (by kernel_rfl) (Eq.trans (by simp only [Ye];rfl) (al h))
def Pa {S:Type} (k:Nat):Rw S:=aj eo xn fun f κ=>aa k (zm k f) (az κ)
def VB {S:Type} (k:Nat):Fx S:=fp 11 [(103,amL k),(316,vK k)] [] k Tryz.f306 0
theorem abm {S:Type} (o:Obj) (ho:ai o) (k:Nat):Tl o 306 (Pa k:Rw S):=ak (VB k) ⟨amQ o ho k,zM o ho k,trivial⟩ Tryz.func306 (by kernel_rfl) fun f κ x h=>Eq.trans (by kernel_rfl) (al h)
def Pb {S:Type} (k:Nat):Rw S:=aj ny xn fun c κ=>aa k (zl k c) (fB κ)
def CI {S:Type} (k:Nat):Fx S:=fp 37 [(146,am9 k),(207,am_ k),(208,ani k)] [(3,⟨[(1,.none),(3,some (100003,true)),(4,.none)],[(1,[.none,.none])]⟩,ap 5 11)] k Tryz.f318 0
def MI (c:Cl) (out3:List Cl) (i4:Int):St UU:=⟨[(1,(pt 1)),(3,(.own 100003 0)),(4,(iI i4))],[(1,bC c)],[(100003,⟨0,ET.C,out3⟩)],[(100003,.wr)]⟩
section
variable {S:Type} (k:Nat) (c:Cl) (κ:Out UU→Option S)
theorem Yf: ∀n out3 i4,(CI k).lp κ 3 [] n (MI c out3 i4)=anm k (fB κ) c n out3 i4:=aL (xA k (fB κ) c) rfl (fun _=>rfl) fun r out3 i4=>by kernel_rfl
end
theorem abn {S:Type} (o:Obj) (ho:ai o) (k:Nat):Tl o 318 (Pb k:Rw S):=ak (CI k) ⟨nn o ho k,np o ho k,pJ o ho k,trivial⟩ Tryz.func318 (by kernel_rfl) fun c κ x h=>Eq.trans (b:=Ig k (fB κ) (fun out3 i4=>(CI k).lp κ 3 [] k (MI c out3 i4)) c) (by kernel_rfl) (Eq.trans (by simp only [Yf];rfl) (al h))
def Pc {S:Type} (k:Nat):Rw S:=aj lS xn fun s i κ=>aa k (tP k s i) (b_ κ)
def VC {S:Type} (k:Nat):Fx S:=fp 21 [(148,anj k),(208,ani k),(305,vJ k)] [] k Tryz.f324 0
theorem abo {S:Type} (o:Obj) (ho:ai o) (k:Nat):Tl o 324 (Pc k:Rw S):=ak (VC k) ⟨pK o ho k,pJ o ho k,zL o ho k,trivial⟩ Tryz.func324 (by kernel_rfl) fun s i κ x h=>Eq.trans (by kernel_rfl) (al h)
def Pd {S:Type} (k:Nat):Rw S:=aj adv xn fun a b κ=>aa k (tU k a b) (b_ κ)
def CJ {S:Type} (k:Nat):Fx S:=fp 22 [(148,anj k),(324,Pc k)] [(3,⟨[(0,.none),(5,some (100005,true)),(6,.none)],[]⟩,ap 5 11)] k Tryz.f321 0
def MJ (r1:List Int) (a0 i6:Int):St UU:=⟨[(0,(iU a0)),(5,(.own 100005 0)),(6,(iI i6))],[],[(100005,⟨0,ET.I,r1⟩)],[(100005,.wr)]⟩
section
variable {S:Type} (k:Nat) (a b:Int) (κ:Out UU→Option S)
theorem Yg (r1): ∀n a0 i6,(CJ k).lp κ 3 [] n (MJ r1 a0 i6)=qv k (b_ κ) r1 n a0 i6:=aL (xv k (b_ κ) r1) rfl (fun _=>rfl) fun r a0 i6=>by kernel_rfl
end
theorem abp {S:Type} (o:Obj) (ho:ai o) (k:Nat):Tl o 321 (Pd k:Rw S):=ak (CJ k) ⟨pK o ho k,abo o ho k,trivial⟩ Tryz.func321 (by kernel_rfl) fun a b κ x h=>Eq.trans (b:=Ia k (b_ κ) (fun r1 a0 i6=>(CJ k).lp κ 3 [] k (MJ r1 a0 i6)) a b) (by kernel_rfl) (Eq.trans (by simp only [Yg];rfl) (al h))
def Gy {S:Type} (k:Nat):Rw S:=aj uH xn fun a b κ=>aa k (tR k a b) (Oa κ)
def VE {S:Type} (k:Nat):Fx S:=fp 16 [(321,Pd k)] [] k Tryz.f317 0
theorem Kf {S:Type} (o:Obj) (ho:ai o) (k:Nat):Tl o 317 (Gy k:Rw S):=ak (VE k) ⟨abp o ho k,trivial⟩ Tryz.func317 (by kernel_rfl) fun a b κ x h=>Eq.trans (by kernel_rfl) (al h)
def Gz {S:Type} (k:Nat):Rw S:=aj jk xn fun f g κ=>aa k (amO k f g) (az κ)
def rZ {S:Type} (k:Nat):Fx S:=fp 45 [(103,amL k),(146,am9 k),(317,Gy k)] [(5,⟨[(0,.none),(1,.none),(6,some (100006,true)),(7,.none)],[]⟩,ap 6 23),(8,⟨[(0,.none),(1,.none),(6,some (100006,true)),(7,.none),(8,.none)],[]⟩,ap 12 1175)] k Tryz.f310 0
def va (f g:List Cl) (out6:List Cl) (i7:Int):St UU:=⟨[(0,(sC f)),(1,(sC g)),(6,(.own 100006 0)),(7,(iI i7))],[],[(100006,⟨0,ET.C,out6⟩)],[(100006,.wr)]⟩
def MK (f g:List Cl) (i7:Int) (out6':List Cl) (v8:Int):St UU:=⟨[(0,(sC f)),(1,(sC g)),(6,(.own 100006 0)),(7,(iI i7)),(8,(iI v8))],[],[(100006,⟨0,ET.C,out6'⟩)],[(100006,.wr)]⟩
section
variable {S:Type} (k:Nat) (f g:List Cl) (κ:Out UU→Option S)
theorem Yi (i7 κ0): ∀n out6' v8,(rZ k).lp κ 8 [κ0] n (MK f g i7 out6' v8)=nN k (az κ) (fun out6 i7=>κ0 (va f g out6 i7)) f g i7 n out6' v8:=aL (xy k (az κ) f g i7 (fun out6 i7=>κ0 (va f g out6 i7))) rfl (fun _=>rfl) fun r out6' v8=>by kernel_rfl
theorem Yh: ∀n out6 i7,(rZ k).lp κ 5 [] n (va f g out6 i7)=am5 k (az κ) f g n out6 i7:=aL (fun own=>sK k (az κ) f g (fun i7 out6' v8=>nN k (az κ) own f g i7 k out6' v8) own) rfl (fun _=>rfl) fun r out6 i7=>Eq.trans (b:=sK k (az κ) f g (fun i7 out6' v8=>(rZ k).lp κ 8 [r] k (MK f g i7 out6' v8)) (fun out6 i7=>r (va f g out6 i7)) out6 i7) (by kernel_rfl) (by simp only [Yi])
end
theorem Kg {S:Type} (o:Obj) (ho:ai o) (k:Nat):Tl o 310 (Gz k:Rw S):=ak (rZ k) ⟨amQ o ho k,nn o ho k,Kf o ho k,trivial⟩ Tryz.func310 (by kernel_rfl) fun f g κ x h=>Eq.trans (b:=Id k (az κ) (fun out6 i7=>(rZ k).lp κ 5 [] k (va f g out6 i7)) f g) (by kernel_rfl) (Eq.trans (by simp only [Yh];rfl) (al h))
def GA {S:Type} (k:Nat):Rw S:=aj eo xn fun f κ=>aa k (pu k f) (az κ)
def CL {S:Type} (k:Nat):Fx S:=fp 34 [(103,amL k),(310,Gz k),(318,Pb k)] [(6,aS [0,4,5,6] [],ap 7 47)] k Tryz.f311 0
def ML (f:List Cl) (v4:List Cl) (v5 i6:Int):St UU:=⟨[(0,(sC f)),(4,(sC v4)),(5,(iI v5)),(6,(iI i6))],[],[],[]⟩
section
variable {S:Type} (k:Nat) (f:List Cl) (κ:Out UU→Option S)
theorem Yj: ∀n v4 v5 i6,(CL k).lp κ 6 [] n (ML f v4 v5 i6)=qx k (az κ) f n v4 v5 i6:=eW (xz k (az κ) f) rfl (fun _=>rfl) fun r v4 v5 i6=>by kernel_rfl
end
theorem Kh {S:Type} (o:Obj) (ho:ai o) (k:Nat):Tl o 311 (GA k:Rw S):=ak (CL k) ⟨amQ o ho k,Kg o ho k,abn o ho k,trivial⟩ Tryz.func311 (by kernel_rfl) fun f κ x h=>Eq.trans (b:=Ie k (az κ) (fun v4 v5 i6=>(CL k).lp κ 6 [] k (ML f v4 v5 i6)) f) (by kernel_rfl) (Eq.trans (by simp only [Yj];rfl) (al h))
def Ph {S:Type} (k:Nat):Rw S:=aj eo xn fun f κ=>aa k (tW k f) (az κ)
def VG {S:Type} (k:Nat):Fx S:=fp 18 [(311,GA k),(316,vK k)] [] k Tryz.f307 0
theorem abt {S:Type} (o:Obj) (ho:ai o) (k:Nat):Tl o 307 (Ph k:Rw S):=ak (VG k) ⟨Kh o ho k,zM o ho k,trivial⟩ Tryz.func307 (by kernel_rfl) fun f κ x h=>Eq.trans (by kernel_rfl) (al h)
def Pi {S:Type} (k:Nat):Rw S:=aj jk xn fun f g κ=>aa k (amZ k f g) (az κ)
def r_ {S:Type} (k:Nat):Fx S:=fp 45 [(104,vG k),(316,vK k),(317,Gy k)] [(5,⟨[(0,.none),(1,.none),(6,some (100006,true)),(7,.none)],[]⟩,ap 6 23),(8,⟨[(0,.none),(1,.none),(6,some (100006,true)),(7,.none),(8,.none)],[]⟩,ap 12 1175)] k Tryz.f308 0
def vc (f g:List Cl) (out6:List Cl) (i7:Int):St UU:=⟨[(0,(sC f)),(1,(sC g)),(6,(.own 100006 0)),(7,(iI i7))],[],[(100006,⟨0,ET.C,out6⟩)],[(100006,.wr)]⟩
def MM (f g:List Cl) (i7:Int) (out6':List Cl) (v8:Int):St UU:=⟨[(0,(sC f)),(1,(sC g)),(6,(.own 100006 0)),(7,(iI i7)),(8,(iI v8))],[],[(100006,⟨0,ET.C,out6'⟩)],[(100006,.wr)]⟩
section
variable {S:Type} (k:Nat) (f g:List Cl) (κ:Out UU→Option S)
theorem Yl (i7 κ0): ∀n out6' v8,(r_ k).lp κ 8 [κ0] n (MM f g i7 out6' v8)=ana k (az κ) (fun out6 i7=>κ0 (vc f g out6 i7)) f g i7 n out6' v8:=aL (xB k (az κ) f g i7 (fun out6 i7=>κ0 (vc f g out6 i7))) rfl (fun _=>rfl) fun r out6' v8=>by kernel_rfl
theorem Yk: ∀n out6 i7,(r_ k).lp κ 5 [] n (vc f g out6 i7)=mb k (az κ) f g n out6 i7:=aL (fun own=>sM k (az κ) f g (fun i7 out6' v8=>ana k (az κ) own f g i7 k out6' v8) own) rfl (fun _=>rfl) fun r out6 i7=>Eq.trans (b:=sM k (az κ) f g (fun i7 out6' v8=>(r_ k).lp κ 8 [r] k (MM f g i7 out6' v8)) (fun out6 i7=>r (vc f g out6 i7)) out6 i7) (by kernel_rfl) (by simp only [Yl])
end
theorem abu {S:Type} (o:Obj) (ho:ai o) (k:Nat):Tl o 308 (Pi k:Rw S):=ak (r_ k) ⟨zI o ho k,zM o ho k,Kf o ho k,trivial⟩ Tryz.func308 (by kernel_rfl) fun f g κ x h=>Eq.trans (b:=Ih k (az κ) (fun out6 i7=>(r_ k).lp κ 5 [] k (vc f g out6 i7)) f g) (by kernel_rfl) (Eq.trans (by simp only [Yk];rfl) (al h))
def Pj {S:Type} (k:Nat):Rw S:=aj jk xn fun f g κ=>aa k (gD k f g) (az κ)
def VH {S:Type} (k:Nat):Fx S:=fp 22 [(104,vG k),(316,vK k)] [] k Tryz.f309 0
theorem abv {S:Type} (o:Obj) (ho:ai o) (k:Nat):Tl o 309 (Pj k:Rw S):=ak (VH k) ⟨zI o ho k,zM o ho k,trivial⟩ Tryz.func309 (by kernel_rfl) fun f g κ x h=>Eq.trans (by kernel_rfl) (al h)
def Pk {S:Type} (k:Nat):Rw S:=aj Aj xn fun f i a_r κ=>aa k (zn k f i a_r) (az κ)
def CM {S:Type} (k:Nat):Fx S:=fp 90 [(103,amL k),(104,vG k),(207,am_ k),(305,vJ k),(306,Pa k),(307,Ph k),(308,Pi k),(309,Pj k)] [(5,aS [0,1,2,8,9] [],ap 6 23)] k Tryz.f288 0
def MN (f:List Cl) (i:Int) (a_r:List Cl) (v8:List Cl) (v9:Int):St UU:=⟨[(0,(sC f)),(1,(iI i)),(2,(sC a_r)),(8,(sC v8)),(9,(iI v9))],[],[],[]⟩
section
variable {S:Type} (k:Nat) (f:List Cl) (i:Int) (a_r:List Cl) (κ:Out UU→Option S)
theorem Ym: ∀n v8 v9,(CM k).lp κ 5 [] n (MN f i a_r v8 v9)=anb k (az κ) f i a_r n v8 v9:=aL (xD k (az κ) f i a_r) rfl (fun _=>rfl) fun r v8 v9=>by kernel_rfl
end
theorem abw {S:Type} (o:Obj) (ho:ai o) (k:Nat):Tl o 288 (Pk k:Rw S):=ak (CM k) ⟨amQ o ho k,zI o ho k,np o ho k,zL o ho k,abm o ho k,abt o ho k,abu o ho k,abv o ho k,trivial⟩ Tryz.func288 (by kernel_rfl) fun f i a_r κ x h=>Eq.trans (b:=Ii k (az κ) (fun v8 v9=>(CM k).lp κ 5 [] k (MN f i a_r v8 v9)) f i a_r) (by kernel_rfl) (Eq.trans (by simp only [Ym];rfl) (al h))
def Pl {S:Type} (k:Nat):Rw S:=aj jk xn fun f g κ=>aa k (zj k f g) (az κ)
def VI {S:Type} (k:Nat):Fx S:=fp 22 [(103,amL k),(146,am9 k)] [] k Tryz.f312 0
theorem abx {S:Type} (o:Obj) (ho:ai o) (k:Nat):Tl o 312 (Pl k:Rw S):=ak (VI k) ⟨amQ o ho k,nn o ho k,trivial⟩ Tryz.func312 (by kernel_rfl) fun f g κ x h=>Eq.trans (by kernel_rfl) (al h)
def Pm {S:Type} (k:Nat):Rw S:=aj Aj xn fun f i a_r κ=>aa k (zk k f i a_r) (az κ)
def sa {S:Type} (k:Nat):Fx S:=fp 93 [(103,amL k),(207,am_ k),(305,vJ k),(310,Gz k),(311,GA k),(312,Pl k)] [(5,aS [0,1,2,8,9] [],ap 6 23),(1000017,aS [0,1,2,8,9,11,12] [],ap 15 31895)] k Tryz.f289 0
def vd (f:List Cl) (i:Int) (a_r:List Cl) (v8:List Cl) (v9:Int):St UU:=⟨[(0,(sC f)),(1,(iI i)),(2,(sC a_r)),(8,(sC v8)),(9,(iI v9))],[],[],[]⟩
def MO (f:List Cl) (i:Int) (a_r v8:List Cl) (v9:Int) (g11:List Cl) (v12:Int):St UU:=⟨[(0,(sC f)),(1,(iI i)),(2,(sC a_r)),(8,(sC v8)),(9,(iI v9)),(11,(sC g11)),(12,(iI v12))],[],[],[]⟩
section
variable {S:Type} (k:Nat) (f:List Cl) (i:Int) (a_r:List Cl) (κ:Out UU→Option S)
theorem Yo (v8 v9 κ0): ∀n g11 v12,(sa k).jn κ 1000017 [κ0] n (MO f i a_r v8 v9 g11 v12)=qy k (az κ) (fun v8 v9=>κ0 (vd f i a_r v8 v9)) f i a_r v8 v9 n g11 v12:=Lb (Dc k (az κ) f i a_r v8 v9 (fun v8 v9=>κ0 (vd f i a_r v8 v9))) rfl (fun _=>rfl) (fun g11 v12=>by kernel_rfl)
theorem Yn: ∀n v8 v9,(sa k).lp κ 5 [] n (vd f i a_r v8 v9)=am6 k (az κ) f i a_r n v8 v9:=aL (fun own=>sL k (az κ) f i a_r (fun v8 v9 g11 v12=>qy k (az κ) own f i a_r v8 v9 k g11 v12) own) rfl (fun _=>rfl) fun r v8 v9=>Eq.trans (b:=sL k (az κ) f i a_r (fun v8 v9 g11 v12=>(sa k).jn κ 1000017 [r] k (MO f i a_r v8 v9 g11 v12)) (fun v8 v9=>r (vd f i a_r v8 v9)) v8 v9) (by kernel_rfl) (by simp only [Yo])
end
theorem aby {S:Type} (o:Obj) (ho:ai o) (k:Nat):Tl o 289 (Pm k:Rw S):=ak (sa k) ⟨amQ o ho k,np o ho k,zL o ho k,Kg o ho k,Kh o ho k,abx o ho k,trivial⟩ Tryz.func289 (by kernel_rfl) fun f i a_r κ x h=>Eq.trans (b:=If k (az κ) (fun v8 v9=>(sa k).lp κ 5 [] k (vd f i a_r v8 v9)) f i a_r) (by kernel_rfl) (Eq.trans (by simp only [Yn];rfl) (al h))
def Pn {S:Type} (k:Nat):Rw S:=aj adw xn fun f isFace i a_r depth κ=>aa k (t_ k f isFace i a_r depth) (az κ)
def VJ {S:Type} (k:Nat):Fx S:=fp 48 [(149,Gq k),(151,vI k),(207,am_ k),(288,Pk k),(289,Pm k)] [] k Tryz.f255 0
theorem abz {S:Type} (o:Obj) (ho:ai o) (k:Nat):Tl o 255 (Pn k:Rw S):=ak (VJ k) ⟨J9 o ho k,zK o ho k,np o ho k,abw o ho k,aby o ho k,trivial⟩ Tryz.func255 (by kernel_rfl) fun f isFace i a_r depth κ x h=>Eq.trans (by kernel_rfl) (al h)
def Po {S:Type} (k:Nat):Rw S:=aj lS xn fun s i κ=>aa k (po k s i) (b_ κ)
def CN {S:Type} (k:Nat):Fx S:=fp 35 [(148,anj k),(208,ani k),(305,vJ k)] [(3,⟨[(1,.none),(5,some (100005,true)),(6,.none)],[]⟩,ap 5 11)] k Tryz.f290 0
def MP (i:Int) (l5:List Int) (v6:Int):St UU:=⟨[(1,(iI i)),(5,(.own 100005 0)),(6,(iI v6))],[],[(100005,⟨0,ET.I,l5⟩)],[(100005,.wr)]⟩
section
variable {S:Type} (k:Nat) (s i:Int) (κ:Out UU→Option S)
theorem Yp: ∀n l5 v6,(CN k).lp κ 3 [] n (MP i l5 v6)=nI k (b_ κ) i n l5 v6:=aL (xk k (b_ κ) i) rfl (fun _=>rfl) fun r l5 v6=>by kernel_rfl
end
theorem abA {S:Type} (o:Obj) (ho:ai o) (k:Nat):Tl o 290 (Po k:Rw S):=ak (CN k) ⟨pK o ho k,pJ o ho k,zL o ho k,trivial⟩ Tryz.func290 (by kernel_rfl) fun s i κ x h=>Eq.trans (b:=H3 k (b_ κ) (fun l5 v6=>(CN k).lp κ 3 [] k (MP i l5 v6)) s i) (by kernel_rfl) (Eq.trans (by simp only [Yp];rfl) (al h))
def Pq {S:Type} (k:Nat):Rw S:=aj EV xn fun f i κ=>aa k (t8 k f i) (fB κ)
def CO {S:Type} (k:Nat):Fx S:=fp 37 [(146,am9 k),(290,Po k)] [(3,⟨[(0,.none),(1,.none),(5,some (100005,true)),(6,.none)],[]⟩,ap 5 11)] k Tryz.f256 0
def MS (f:List Cl) (i:Int) (out5:List Cl) (v6:Int):St UU:=⟨[(0,(sC f)),(1,(iI i)),(5,(.own 100005 0)),(6,(iI v6))],[],[(100005,⟨0,ET.C,out5⟩)],[(100005,.wr)]⟩
section
variable {S:Type} (k:Nat) (f:List Cl) (i:Int) (κ:Out UU→Option S)
theorem Yr: ∀n out5 v6,(CO k).lp κ 3 [] n (MS f i out5 v6)=anv k (fB κ) f i n out5 v6:=aL (xW k (fB κ) f i) rfl (fun _=>rfl) fun r out5 v6=>by kernel_rfl
end
theorem abC {S:Type} (o:Obj) (ho:ai o) (k:Nat):Tl o 256 (Pq k:Rw S):=ak (CO k) ⟨nn o ho k,abA o ho k,trivial⟩ Tryz.func256 (by kernel_rfl) fun f i κ x h=>Eq.trans (b:=IC k (fB κ) (fun out5 v6=>(CO k).lp κ 3 [] k (MS f i out5 v6)) f i) (by kernel_rfl) (Eq.trans (by simp only [Yr];rfl) (al h))
def GB {S:Type} (hd:g6 S):Rw S:=aj adx xn fun t i a_r depth drop κ=>hd t i a_r depth drop (aF κ)
def mQ {S:Type} (hd:g6 S) (k:Nat):Fx S:=fp 174 [(62,amV k),(106,anB k),(107,vH k),(213,GB hd),(255,Pn k),(256,Pq k)] [(9,⟨[(1,.none),(2,.none),(3,.none),(4,.none),(5,.none),(10,.none),(11,.none),(14,.none)],[(5,[.none,.none,.none,.none,.none,.none]),(10,[.none,.none,.none,some (200643,true),some (200644,true),some (200645,true)]),(11,[.none,.none,.none,.none,some (200708,true),some (200709,true)])]⟩,ap 9 191),(17,⟨[(1,.none),(2,.none),(3,.none),(4,.none),(5,.none),(10,.none),(11,.none),(18,.none)],[(5,[.none,.none,.none,.none,.none,.none]),(10,[.none,.none,.none,some (200643,true),some (200644,true),some (200645,true)]),(11,[.none,.none,.none,.none,some (200708,true),some (200709,true)])]⟩,ap 10 383),(27,⟨[(1,.none),(2,.none),(3,.none),(4,.none),(5,.none),(10,.none),(11,.none),(18,.none),(21,.none),(22,.none)],[(5,[.none,.none,.none,.none,.none,.none]),(10,[.none,.none,.none,some (200643,true),some (200644,true),some (200645,true)]),(11,[.none,.none,.none,.none,some (200708,true),some (200709,true)]),(21,[.none,some (201345,true)])]⟩,ap 22 1558911)] k Tryz.f213 0
def FD (t:Tm) (i:Int) (a_r:List Cl) (depth:Int) (drop:Bool) (b11_3:List Cl) (b11_4:List Tm) (v14:Int):St UU:=⟨[(1,(iI i)),(2,(sC a_r)),(3,(iI depth)),(4,(.bool drop)),(5,(pt 5)),(10,(pt 10)),(11,(pt 11)),(14,(iI v14))],[(5,bT t),(10,.cells [(iI 0),(iI 0),(.str ByteArray.empty),(.own 200643 0),(.own 200644 0),(.own 200645 0)]),(11,.cells [(iI t.kind),(iI t.n),(.str t.name),(sC b11_3),(.own 200708 0),(.own 200709 0)])],[(200709,⟨0,ET.B,([]:List (Br Tm))⟩),(200708,⟨0,ET.T,b11_4⟩),(200645,⟨0,ET.B,([]:List (Br Tm))⟩),(200644,⟨0,ET.T,([]:List Tm)⟩),(200643,⟨0,ET.C,([]:List Cl)⟩)],[(200709,.wr),(200708,.wr),(200645,.wr),(200644,.wr),(200643,.wr)]⟩
def ve (t:Tm) (b11_3:List Cl) (b11_4:List Tm) (i:Int) (a_r:List Cl) (depth:Int) (drop:Bool) (b11_5:List (Br Tm)) (v18:Int):St UU:=⟨[(1,(iI i)),(2,(sC a_r)),(3,(iI depth)),(4,(.bool drop)),(5,(pt 5)),(10,(pt 10)),(11,(pt 11)),(18,(iI v18))],[(5,bT t),(10,.cells [(iI 0),(iI 0),(.str ByteArray.empty),(.own 200643 0),(.own 200644 0),(.own 200645 0)]),(11,.cells [(iI t.kind),(iI t.n),(.str t.name),(sC b11_3),(.own 200708 0),(.own 200709 0)])],[(200709,⟨0,ET.B,b11_5⟩),(200708,⟨0,ET.T,b11_4⟩),(200645,⟨0,ET.B,([]:List (Br Tm))⟩),(200644,⟨0,ET.T,([]:List Tm)⟩),(200643,⟨0,ET.C,([]:List Cl)⟩)],[(200709,.wr),(200708,.wr),(200645,.wr),(200644,.wr),(200643,.wr)]⟩
def MT (t:Tm) (b11_3:List Cl) (b11_4:List Tm) (b11_5:List (Br Tm)) (i v18:Int) (a_r:List Cl) (depth:Int) (drop:Bool) (b21_0:List Cl) (b21_1:List Tm) (v22:Int):St UU:=⟨[(1,(iI i)),(2,(sC a_r)),(3,(iI depth)),(4,(.bool drop)),(5,(pt 5)),(10,(pt 10)),(11,(pt 11)),(18,(iI v18)),(21,(pt 21)),(22,(iI v22))],[(5,bT t),(10,.cells [(iI 0),(iI 0),(.str ByteArray.empty),(.own 200643 0),(.own 200644 0),(.own 200645 0)]),(11,.cells [(iI t.kind),(iI t.n),(.str t.name),(sC b11_3),(.own 200708 0),(.own 200709 0)]),(21,.cells [(sC b21_0),(.own 201345 0)])],[(201345,⟨0,ET.T,b21_1⟩),(200709,⟨0,ET.B,b11_5⟩),(200708,⟨0,ET.T,b11_4⟩),(200645,⟨0,ET.B,([]:List (Br Tm))⟩),(200644,⟨0,ET.T,([]:List Tm)⟩),(200643,⟨0,ET.C,([]:List Cl)⟩)],[(201345,.wr),(200709,.wr),(200708,.wr),(200645,.wr),(200644,.wr),(200643,.wr)]⟩
section
variable {S:Type} (hd:g6 S) (k:Nat) (t:Tm) (i:Int) (a_r:List Cl) (depth:Int) (drop:Bool) (κ:Out UU→Option S)
theorem Yu (b11_3 b11_4 b11_5 v18 κ1): ∀n b21_0 b21_1 v22,(mQ hd k).lp κ 27 [κ1] n (MT t b11_3 b11_4 b11_5 i v18 a_r depth drop b21_0 b21_1 v22)=kI hd k (aF κ) (fun b11_5 v18=>κ1 (ve t b11_3 b11_4 i a_r depth drop b11_5 v18)) t b11_3 b11_4 b11_5 i v18 a_r depth drop n b21_0 b21_1 v22:=eW (xX hd k (aF κ) t b11_3 b11_4 b11_5 i v18 a_r depth drop (fun b11_5 v18=>κ1 (ve t b11_3 b11_4 i a_r depth drop b11_5 v18))) rfl (fun _=>rfl) fun r b21_0 b21_1 v22=>by kernel_rfl
theorem Yt (b11_3 b11_4): ∀n b11_5 v18,(mQ hd k).lp κ 17 [] n (ve t b11_3 b11_4 i a_r depth drop b11_5 v18)=amF hd k (aF κ) t b11_3 b11_4 i a_r depth drop n b11_5 v18:=aL (fun own=>tg hd k (aF κ) t b11_3 b11_4 i a_r depth drop (fun b11_5 v18 b21_0 b21_1 v22=>kI hd k (aF κ) own t b11_3 b11_4 b11_5 i v18 a_r depth drop k b21_0 b21_1 v22) own) rfl (fun _=>rfl) fun r b11_5 v18=>Eq.trans (b:=tg hd k (aF κ) t b11_3 b11_4 i a_r depth drop (fun b11_5 v18 b21_0 b21_1 v22=>(mQ hd k).lp κ 27 [r] k (MT t b11_3 b11_4 b11_5 i v18 a_r depth drop b21_0 b21_1 v22)) (fun b11_5 v18=>r (ve t b11_3 b11_4 i a_r depth drop b11_5 v18)) b11_5 v18) (by kernel_rfl) (by simp only [Yu])
theorem Ys: ∀n b11_3 b11_4 v14,(mQ hd k).lp κ 9 [] n (FD t i a_r depth drop b11_3 b11_4 v14)=mg hd k (aF κ) t i a_r depth drop n b11_3 b11_4 v14:=eW (fun own=>tf hd k (aF κ) t i a_r depth drop (fun b11_3 b11_4 b11_5 v18=>amF hd k (aF κ) t b11_3 b11_4 i a_r depth drop k b11_5 v18) own) rfl (fun _=>rfl) fun r b11_3 b11_4 v14=>Eq.trans (b:=tf hd k (aF κ) t i a_r depth drop (fun b11_3 b11_4 b11_5 v18=>(mQ hd k).lp κ 17 [] k (ve t b11_3 b11_4 i a_r depth drop b11_5 v18)) (fun b11_3 b11_4 v14=>r (FD t i a_r depth drop b11_3 b11_4 v14)) b11_3 b11_4 v14) (by kernel_rfl) (by simp only [Yt])
end
theorem K0 {S:Type} (o:Obj) (ho:ai o): ∀k:Nat,Tl o 213 (GB (fR k:g6 S))
 |0=>dz fun t i a_r depth drop κ x h=>by cases h
 |k+1=>ak (mQ (fR k) k) ⟨am3 o ho k,um o ho k,zJ o ho k,K0 o ho k,abz o ho k,abC o ho k,trivial⟩ Tryz.func213 (by kernel_rfl) fun t i a_r depth drop κ x h=>Eq.trans (b:=ID (fR k) k (aF κ) (fun b11_3 b11_4 v14=>(mQ (fR k) k).lp κ 9 [] k (FD t i a_r depth drop b11_3 b11_4 v14)) t i a_r depth drop) (by kernel_rfl) (Eq.trans (by simp only [Ys];rfl) h)
def GC {S:Type} (k:Nat):Rw S:=aj E1 xn fun t i a_r κ=>aa k (py k t i a_r) (aF κ)
def VL {S:Type} (k:Nat):Fx S:=fp 27 [(62,amV k),(151,vI k),(213,GB (fR k))] [] k Tryz.f156 0
theorem Ki {S:Type} (o:Obj) (ho:ai o) (k:Nat):Tl o 156 (GC k:Rw S):=ak (VL k) ⟨am3 o ho k,zK o ho k,K0 o ho k,trivial⟩ Tryz.func156 (by kernel_rfl) fun t i a_r κ x h=>Eq.trans (by kernel_rfl) (al h)
def GD {S:Type} (k:Nat):Rw S:=aj ady xn fun line a_r κ=>aa k (ni k line a_r) (aF κ)
def VM {S:Type} (k:Nat):Fx S:=fp 23 [(62,amV k),(156,GC k),(210,O_ k)] [] k Tryz.f153 0
theorem Kj {S:Type} (o:Obj) (ho:ai o) (k:Nat):Tl o 153 (GD k:Rw S):=ak (VM k) ⟨am3 o ho k,Ki o ho k,abl o ho k,trivial⟩ Tryz.func153 (by kernel_rfl) fun line a_r κ x h=>Eq.trans (by kernel_rfl) (al h)
end
end Go.Proofs.YtfkkpkhfjpaafaaGreatDoor
namespace Go.Proofs.YtfkkpkhfjpaafaaGreatDoor
open Go PI
set_option linter.unusedVariables false
set_option maxRecDepth 100000
noncomputable section
def GE {S:Type} (k:Nat):Rw S:=aj adz xn fun t f kid κ=>aa k (amx k t f kid) (aF κ)
def VN {S:Type} (k:Nat):Fx S:=fp 27 [] [] k Tryz.f152 0
theorem Kk {S:Type} (o:Obj) (ho:ai o) (k:Nat):Tl o 152 (GE k:Rw S):=ak (VN k) trivial Tryz.func152 (by kernel_rfl) fun t f kid κ x h=>Eq.trans (by kernel_rfl) (al h)
def Pr {S:Type} (k:Nat):Rw S:=aj pX xn fun t a sys κ=>aa k (uc k t a sys) (aF κ)
def CQ {S:Type} (k:Nat):Fx S:=fp 59 [(62,amV k),(65,A8 k),(150,Gw k),(151,vI k),(152,GE k),(153,GD k)] [(3,⟨[(2,.none),(4,.none),(6,.none),(7,.none),(8,.none)],[(4,[.none,.none,.none,.none,.none,.none]),(6,[.none,.none,.none,some (200387,true),some (200388,true),some (200389,true)]),(7,[.none,.none,.none,.none,.none,.none])]⟩,ap 5 11)] k Tryz.f110 0
def MU (a:Tm) (sys:List (Br Tm)) (b7:Tm) (i8:Int):St UU:=⟨[(2,(sB sys)),(4,(pt 4)),(6,(pt 6)),(7,(pt 7)),(8,(iI i8))],[(4,bT a),(6,.cells [(iI 0),(iI 0),(.str ByteArray.empty),(.own 200387 0),(.own 200388 0),(.own 200389 0)]),(7,bT b7)],[(200389,⟨0,ET.B,([]:List (Br Tm))⟩),(200388,⟨0,ET.T,([]:List Tm)⟩),(200387,⟨0,ET.C,([]:List Cl)⟩)],[(200389,.wr),(200388,.wr),(200387,.wr)]⟩
section
variable {S:Type} (k:Nat) (t a:Tm) (sys:List (Br Tm)) (κ:Out UU→Option S)
theorem Yv: ∀n b7 i8,(CQ k).lp κ 3 [] n (MU a sys b7 i8)=kJ k (aF κ) a sys n b7 i8:=aL (oW k (aF κ) a sys) rfl (fun _=>rfl) fun r b7 i8=>by kernel_rfl
end
theorem abD {S:Type} (o:Obj) (ho:ai o) (k:Nat):Tl o 110 (Pr k:Rw S):=ak (CQ k) ⟨am3 o ho k,Ec o ho k,Kd o ho k,zK o ho k,Kk o ho k,Kj o ho k,trivial⟩ Tryz.func110 (by kernel_rfl) fun t a sys κ x h=>Eq.trans (b:=IH k (aF κ) (fun b7 i8=>(CQ k).lp κ 3 [] k (MU a sys b7 i8)) t a sys) (by kernel_rfl) (Eq.trans (by simp only [Yv];rfl) (al h))
def A_ {S:Type} (k:Nat):Rw S:=aj dV xn fun t κ=>aa k (nh k t) (cM κ)
def VO {S:Type} (k:Nat):Fx S:=fp 19 [(32,anC k)] [] k Tryz.f60 0
theorem Ee {S:Type} (o:Obj) (ho:ai o) (k:Nat):Tl o 60 (A_ k:Rw S):=ak (VO k) ⟨uo o ho k,trivial⟩ Tryz.func60 (by kernel_rfl) fun t κ x h=>Eq.trans (by kernel_rfl) (al h)
def Ps {S:Type} (k:Nat):Rw S:=aj pX xn fun t a sys κ=>aa k (zw k t a sys) (cM κ)
def VQ {S:Type} (k:Nat):Fx S:=fp 26 [(60,A_ k),(108,Gu k),(109,Gt k),(110,Pr k)] [] k Tryz.f61 0
theorem abE {S:Type} (o:Obj) (ho:ai o) (k:Nat):Tl o 61 (Ps k:Rw S):=ak (VQ k) ⟨Ee o ho k,Kb o ho k,Ka o ho k,abD o ho k,trivial⟩ Tryz.func61 (by kernel_rfl) fun t a sys κ x h=>Eq.trans (by kernel_rfl) (al h)
def Pt {S:Type} (k:Nat):Rw S:=aj pW xn fun t dims κ=>aa k (DS k t dims) (aF κ)
def VR {S:Type} (k:Nat):Fx S:=fp 12 [(65,A8 k)] [] k Tryz.f63 0
theorem abF {S:Type} (o:Obj) (ho:ai o) (k:Nat):Tl o 63 (Pt k:Rw S):=ak (VR k) ⟨Ec o ho k,trivial⟩ Tryz.func63 (by kernel_rfl) fun t dims κ x h=>Eq.trans (by kernel_rfl) (al h)
def GF {S:Type} (hd:fM S):Rw S:=aj pW xn fun t a_n κ=>hd t a_n (aE κ)
def jP {S:Type} (hd:fM S) (k:Nat):Fx S:=fp 77 [(106,anB k),(111,GF hd)] [(1000004,aS [1,2,5] [(2,6)],ap 3 7),(5,aS [1,2,5,6] [(2,6)],ap 6 23),(10,aS [1,2,5,9] [(2,6)],ap 7 47),(13,aS [1,2,5,9,10] [(2,6)],ap 13 2351)] k Tryz.f111 0
def MV (t:Tm) (a_n:Int) (sum5:Int):St UU:=⟨[(1,(iI a_n)),(2,(pt 2)),(5,(iI sum5))],[(2,bT t)],[],[]⟩
def FE (t:Tm) (a_n:Int) (sum5' i6:Int):St UU:=⟨[(1,(iI a_n)),(2,(pt 2)),(5,(iI sum5')),(6,(iI i6))],[(2,bT t)],[],[]⟩
def vf (t:Tm) (a_n:Int) (sum5'' i9:Int):St UU:=⟨[(1,(iI a_n)),(2,(pt 2)),(5,(iI sum5'')),(9,(iI i9))],[(2,bT t)],[],[]⟩
def MW (t:Tm) (a_n i9:Int) (v10 sum5''':Int):St UU:=⟨[(1,(iI a_n)),(2,(pt 2)),(5,(iI sum5''')),(9,(iI i9)),(10,(iI v10))],[(2,bT t)],[],[]⟩
section
variable {S:Type} (hd:fM S) (k:Nat) (t:Tm) (a_n:Int) (κ:Out UU→Option S)
theorem Yz (i9 κ2): ∀n v10 sum5''',(jP hd k).lp κ 13 [κ2] n (MW t a_n i9 v10 sum5''')=nW hd k (aE κ) (fun sum5'' i9=>κ2 (vf t a_n sum5'' i9)) t a_n i9 n v10 sum5''':=aL (xU hd k (aE κ) t a_n i9 (fun sum5'' i9=>κ2 (vf t a_n sum5'' i9))) rfl (fun _=>rfl) fun r v10 sum5'''=>by kernel_rfl
theorem Yy: ∀n sum5'' i9,(jP hd k).lp κ 10 [] n (vf t a_n sum5'' i9)=kG hd k (aE κ) t a_n n sum5'' i9:=aL (fun own=>tc hd k (aE κ) t a_n (fun i9 v10 sum5'''=>nW hd k (aE κ) own t a_n i9 k v10 sum5''') own) rfl (fun _=>rfl) fun r sum5'' i9=>Eq.trans (b:=tc hd k (aE κ) t a_n (fun i9 v10 sum5'''=>(jP hd k).lp κ 13 [r] k (MW t a_n i9 v10 sum5''')) (fun sum5'' i9=>r (vf t a_n sum5'' i9)) sum5'' i9) (by kernel_rfl) (by simp only [Yz])
theorem Yx: ∀n sum5' i6,(jP hd k).lp κ 5 [] n (FE t a_n sum5' i6)=nV hd k (aE κ) t a_n n sum5' i6:=aL (fun own=>tb hd k (aE κ) t a_n (fun sum5'' i9=>kG hd k (aE κ) t a_n k sum5'' i9) own) rfl (fun _=>rfl) fun r sum5' i6=>Eq.trans (b:=tb hd k (aE κ) t a_n (fun sum5'' i9=>(jP hd k).lp κ 10 [] k (vf t a_n sum5'' i9)) (fun sum5' i6=>r (FE t a_n sum5' i6)) sum5' i6) (by kernel_rfl) (by simp only [Yy])
theorem Yw: ∀n sum5,(jP hd k).jn κ 1000004 [] n (MV t a_n sum5)=Ap hd k (aE κ) t a_n n sum5:=nx (xS hd k (aE κ) t a_n (fun sum5' i6=>nV hd k (aE κ) t a_n k sum5' i6)) rfl (fun _=>rfl) (fun sum5=>Eq.trans (b:=xS hd k (aE κ) t a_n (fun sum5' i6=>(jP hd k).lp κ 5 [] k (FE t a_n sum5' i6)) sum5) (by kernel_rfl) (by simp only [Yx]))
end
theorem K3 {S:Type} (o:Obj) (ho:ai o): ∀k:Nat,Tl o 111 (GF (amB k:fM S))
 |0=>dz fun t a_n κ x h=>by cases h
 |k+1=>ak (jP (amB k) k) ⟨um o ho k,K3 o ho k,trivial⟩ Tryz.func111 (by kernel_rfl) fun t a_n κ x h=>Eq.trans (b:=IB (amB k) k (aE κ) (fun sum5=>(jP (amB k) k).jn κ 1000004 [] k (MV t a_n sum5)) t a_n) (by kernel_rfl) (Eq.trans (by simp only [Yw];rfl) h)
def Pv {S:Type} (k:Nat):Rw S:=aj amR xn fun t a_from a_by κ=>aa k (zt k t a_from a_by) (cM κ)
def CR {S:Type} (k:Nat):Fx S:=fp 32 [(113,anD (alI k)),(212,A9 k),(254,Gx k)] [(1000004,⟨[(1,.none),(2,.none),(3,.none),(6,.none),(8,.none)],[(3,[.none,.none,.none,.none,.none,.none]),(6,[.none,.none,.none,some (200387,true),some (200388,true),some (200389,true)])]⟩,ap 3 7)] k Tryz.f211 0
def MX (t:Tm) (a_from a_by:Int) (v8:Int):St UU:=⟨[(1,(iI a_from)),(2,(iI a_by)),(3,(pt 3)),(6,(pt 6)),(8,(iI v8))],[(3,bT t),(6,.cells [(iI 0),(iI 0),(.str ByteArray.empty),(.own 200387 0),(.own 200388 0),(.own 200389 0)])],[(200389,⟨0,ET.B,([]:List (Br Tm))⟩),(200388,⟨0,ET.T,([]:List Tm)⟩),(200387,⟨0,ET.C,([]:List Cl)⟩)],[(200389,.wr),(200388,.wr),(200387,.wr)]⟩
section
variable {S:Type} (k:Nat) (t:Tm) (a_from a_by:Int) (κ:Out UU→Option S)
theorem YA: ∀n v8,(CR k).jn κ 1000004 [] n (MX t a_from a_by v8)=E_ k (cM κ) t a_from a_by n v8:=nx (Dh k (cM κ) t a_from a_by) rfl (fun _=>rfl) (fun v8=>by kernel_rfl)
end
theorem abH {S:Type} (o:Obj) (ho:ai o) (k:Nat):Tl o 211 (Pv k:Rw S):=ak (CR k) ⟨uC o ho k,Ed o ho k,Ke o ho k,trivial⟩ Tryz.func211 (by kernel_rfl) fun t a_from a_by κ x h=>Eq.trans (b:=Iw k (cM κ) (fun v8=>(CR k).jn κ 1000004 [] k (MX t a_from a_by v8)) t a_from a_by) (by kernel_rfl) (Eq.trans (by simp only [YA];rfl) (al h))
def Pw {S:Type} (k:Nat):Rw S:=aj amR xn fun t vars dims κ=>aa k (zq k t vars dims) (cM κ)
def CS {S:Type} (k:Nat):Fx S:=fp 43 [(32,anC k),(113,anD (alI k)),(211,Pv k),(212,A9 k)] [(1000004,⟨[(2,.none),(3,.none),(6,.none),(8,.none),(9,.none)],[(3,[.none,.none,.none,.none,.none,.none]),(6,[.none,.none,.none,some (200387,true),some (200388,true),some (200389,true)]),(8,[.none,.none,.none,.none,.none,.none])]⟩,ap 3 7)] k Tryz.f154 0
def MY (t:Tm) (r1:Tm×Int) (dims:Int) (v9:Int):St UU:=⟨[(2,(iI dims)),(3,(pt 3)),(6,(pt 6)),(8,(pt 8)),(9,(iI v9))],[(3,bT t),(6,.cells [(iI 0),(iI 0),(.str ByteArray.empty),(.own 200387 0),(.own 200388 0),(.own 200389 0)]),(8,bT r1.1)],[(200389,⟨0,ET.B,([]:List (Br Tm))⟩),(200388,⟨0,ET.T,([]:List Tm)⟩),(200387,⟨0,ET.C,([]:List Cl)⟩)],[(200389,.wr),(200388,.wr),(200387,.wr)]⟩
section
variable {S:Type} (k:Nat) (t:Tm) (vars dims:Int) (κ:Out UU→Option S)
theorem YB (r1): ∀n v9,(CS k).jn κ 1000004 [] n (MY t r1 dims v9)=E9 k (cM κ) t r1 dims n v9:=nx (Dg k (cM κ) t r1 dims) rfl (fun _=>rfl) (fun v9=>by kernel_rfl)
end
theorem abI {S:Type} (o:Obj) (ho:ai o) (k:Nat):Tl o 154 (Pw k:Rw S):=ak (CS k) ⟨uo o ho k,uC o ho k,abH o ho k,Ed o ho k,trivial⟩ Tryz.func154 (by kernel_rfl) fun t vars dims κ x h=>Eq.trans (b:=Iv k (cM κ) (fun r1 v9=>(CS k).jn κ 1000004 [] k (MY t r1 dims v9)) t vars dims) (by kernel_rfl) (Eq.trans (by simp only [YB];rfl) (al h))
def GG {S:Type} (hd:eO S):Rw S:=aj Lt xn fun t a_n u vars dims κ=>hd t a_n u vars dims (aF κ)
def gW {S:Type} (hd:eO S) (k:Nat):Fx S:=fp 167 [(62,amV k),(106,anB k),(107,vH k),(112,GG hd),(154,Pw k)] [(1000006,⟨[(1,.none),(3,.none),(4,.none),(5,.none),(7,.none),(10,.none)],[(5,[.none,.none,.none,.none,.none,.none]),(7,[.none,.none,.none,.none,.none,.none]),(10,[.none,.none,.none,some (200643,true),some (200644,true),some (200645,true)])]⟩,ap 2 3),(1000009,⟨[(1,.none),(3,.none),(4,.none),(5,.none),(7,.none),(10,.none),(13,.none)],[(5,[.none,.none,.none,.none,.none,.none]),(7,[.none,.none,.none,.none,.none,.none]),(10,[.none,.none,.none,some (200643,true),some (200644,true),some (200645,true)]),(13,[.none,.none,.none,.none,some (200836,true),some (200837,true)])]⟩,ap 4 15),(10,⟨[(1,.none),(3,.none),(4,.none),(5,.none),(7,.none),(10,.none),(13,.none),(14,.none)],[(5,[.none,.none,.none,.none,.none,.none]),(7,[.none,.none,.none,.none,.none,.none]),(10,[.none,.none,.none,some (200643,true),some (200644,true),some (200645,true)]),(13,[.none,.none,.none,.none,some (200836,true),some (200837,true)])]⟩,ap 7 47),(18,⟨[(1,.none),(3,.none),(4,.none),(5,.none),(7,.none),(10,.none),(13,.none),(18,.none)],[(5,[.none,.none,.none,.none,.none,.none]),(7,[.none,.none,.none,.none,.none,.none]),(10,[.none,.none,.none,some (200643,true),some (200644,true),some (200645,true)]),(13,[.none,.none,.none,.none,some (200836,true),some (200837,true)])]⟩,ap 8 95),(22,⟨[(1,.none),(3,.none),(4,.none),(5,.none),(7,.none),(10,.none),(13,.none),(18,.none),(19,.none),(20,.none)],[(5,[.none,.none,.none,.none,.none,.none]),(7,[.none,.none,.none,.none,.none,.none]),(10,[.none,.none,.none,some (200643,true),some (200644,true),some (200645,true)]),(13,[.none,.none,.none,.none,some (200836,true),some (200837,true)]),(19,[.none,some (201217,true)])]⟩,ap 16 21087)] k Tryz.f112 0
def MZ (t u:Tm) (a_n vars dims:Int):St UU:=⟨[(1,(iI a_n)),(3,(iI vars)),(4,(iI dims)),(5,(pt 5)),(7,(pt 7)),(10,(pt 10))],[(5,bT t),(7,bT u),(10,.cells [(iI 0),(iI 0),(.str ByteArray.empty),(.own 200643 0),(.own 200644 0),(.own 200645 0)])],[(200645,⟨0,ET.B,([]:List (Br Tm))⟩),(200644,⟨0,ET.T,([]:List Tm)⟩),(200643,⟨0,ET.C,([]:List Cl)⟩)],[(200645,.wr),(200644,.wr),(200643,.wr)]⟩
def M0 (t u:Tm) (a_n vars dims:Int) (b13_1:Int):St UU:=⟨[(1,(iI a_n)),(3,(iI vars)),(4,(iI dims)),(5,(pt 5)),(7,(pt 7)),(10,(pt 10)),(13,(pt 13))],[(5,bT t),(7,bT u),(10,.cells [(iI 0),(iI 0),(.str ByteArray.empty),(.own 200643 0),(.own 200644 0),(.own 200645 0)]),(13,.cells [(iI t.kind),(iI b13_1),(.str t.name),(sC t.r),(.own 200836 0),(.own 200837 0)])],[(200837,⟨0,ET.B,([]:List (Br Tm))⟩),(200836,⟨0,ET.T,([]:List Tm)⟩),(200645,⟨0,ET.B,([]:List (Br Tm))⟩),(200644,⟨0,ET.T,([]:List Tm)⟩),(200643,⟨0,ET.C,([]:List Cl)⟩)],[(200837,.wr),(200836,.wr),(200645,.wr),(200644,.wr),(200643,.wr)]⟩
def FF (t:Tm) (b13_1:Int) (u:Tm) (a_n vars dims:Int) (b13_4:List Tm) (i14:Int):St UU:=⟨[(1,(iI a_n)),(3,(iI vars)),(4,(iI dims)),(5,(pt 5)),(7,(pt 7)),(10,(pt 10)),(13,(pt 13)),(14,(iI i14))],[(5,bT t),(7,bT u),(10,.cells [(iI 0),(iI 0),(.str ByteArray.empty),(.own 200643 0),(.own 200644 0),(.own 200645 0)]),(13,.cells [(iI t.kind),(iI b13_1),(.str t.name),(sC t.r),(.own 200836 0),(.own 200837 0)])],[(200837,⟨0,ET.B,([]:List (Br Tm))⟩),(200836,⟨0,ET.T,b13_4⟩),(200645,⟨0,ET.B,([]:List (Br Tm))⟩),(200644,⟨0,ET.T,([]:List Tm)⟩),(200643,⟨0,ET.C,([]:List Cl)⟩)],[(200837,.wr),(200836,.wr),(200645,.wr),(200644,.wr),(200643,.wr)]⟩
def vg (t:Tm) (b13_1:Int) (b13_4:List Tm) (u:Tm) (a_n vars dims:Int) (b13_5:List (Br Tm)) (i18:Int):St UU:=⟨[(1,(iI a_n)),(3,(iI vars)),(4,(iI dims)),(5,(pt 5)),(7,(pt 7)),(10,(pt 10)),(13,(pt 13)),(18,(iI i18))],[(5,bT t),(7,bT u),(10,.cells [(iI 0),(iI 0),(.str ByteArray.empty),(.own 200643 0),(.own 200644 0),(.own 200645 0)]),(13,.cells [(iI t.kind),(iI b13_1),(.str t.name),(sC t.r),(.own 200836 0),(.own 200837 0)])],[(200837,⟨0,ET.B,b13_5⟩),(200836,⟨0,ET.T,b13_4⟩),(200645,⟨0,ET.B,([]:List (Br Tm))⟩),(200644,⟨0,ET.T,([]:List Tm)⟩),(200643,⟨0,ET.C,([]:List Cl)⟩)],[(200837,.wr),(200836,.wr),(200645,.wr),(200644,.wr),(200643,.wr)]⟩
def M1 (t:Tm) (b13_1:Int) (b13_4:List Tm) (b13_5:List (Br Tm)) (x7:(Br Tm)) (u:Tm) (a_n i18 vars dims:Int) (b19_1:List Tm) (m20:Int):St UU:=⟨[(1,(iI a_n)),(3,(iI vars)),(4,(iI dims)),(5,(pt 5)),(7,(pt 7)),(10,(pt 10)),(13,(pt 13)),(18,(iI i18)),(19,(pt 19)),(20,(iI m20))],[(5,bT t),(7,bT u),(10,.cells [(iI 0),(iI 0),(.str ByteArray.empty),(.own 200643 0),(.own 200644 0),(.own 200645 0)]),(13,.cells [(iI t.kind),(iI b13_1),(.str t.name),(sC t.r),(.own 200836 0),(.own 200837 0)]),(19,.cells [(sC x7.face),(.own 201217 0)])],[(201217,⟨0,ET.T,b19_1⟩),(200837,⟨0,ET.B,b13_5⟩),(200836,⟨0,ET.T,b13_4⟩),(200645,⟨0,ET.B,([]:List (Br Tm))⟩),(200644,⟨0,ET.T,([]:List Tm)⟩),(200643,⟨0,ET.C,([]:List Cl)⟩)],[(201217,.wr),(200837,.wr),(200836,.wr),(200645,.wr),(200644,.wr),(200643,.wr)]⟩
section
variable {S:Type} (hd:eO S) (k:Nat) (t:Tm) (a_n:Int) (u:Tm) (vars dims:Int) (κ:Out UU→Option S)
theorem YG (b13_1 b13_4 b13_5 x7 i18 κ3): ∀n b19_1 m20,(gW hd k).lp κ 22 [κ3] n (M1 t b13_1 b13_4 b13_5 x7 u a_n i18 vars dims b19_1 m20)=mf hd k (aF κ) (fun b13_5 i18=>κ3 (vg t b13_1 b13_4 u a_n vars dims b13_5 i18)) t b13_1 b13_4 b13_5 x7 u a_n i18 vars dims n b19_1 m20:=aL (xV hd k (aF κ) t b13_1 b13_4 b13_5 x7 u a_n i18 vars dims (fun b13_5 i18=>κ3 (vg t b13_1 b13_4 u a_n vars dims b13_5 i18))) rfl (fun _=>rfl) fun r b19_1 m20=>by kernel_rfl
theorem YF (b13_1 b13_4): ∀n b13_5 i18,(gW hd k).lp κ 18 [] n (vg t b13_1 b13_4 u a_n vars dims b13_5 i18)=kH hd k (aF κ) t b13_1 b13_4 u a_n vars dims n b13_5 i18:=aL (fun own=>te hd k (aF κ) t b13_1 b13_4 u a_n vars dims (fun b13_5 x7 i18 b19_1 m20=>mf hd k (aF κ) own t b13_1 b13_4 b13_5 x7 u a_n i18 vars dims k b19_1 m20) own) rfl (fun _=>rfl) fun r b13_5 i18=>Eq.trans (b:=te hd k (aF κ) t b13_1 b13_4 u a_n vars dims (fun b13_5 x7 i18 b19_1 m20=>(gW hd k).lp κ 22 [r] k (M1 t b13_1 b13_4 b13_5 x7 u a_n i18 vars dims b19_1 m20)) (fun b13_5 i18=>r (vg t b13_1 b13_4 u a_n vars dims b13_5 i18)) b13_5 i18) (by kernel_rfl) (by simp only [YG])
theorem YE (b13_1): ∀n b13_4 i14,(gW hd k).lp κ 10 [] n (FF t b13_1 u a_n vars dims b13_4 i14)=me hd k (aF κ) t b13_1 u a_n vars dims n b13_4 i14:=aL (fun own=>td hd k (aF κ) t b13_1 u a_n vars dims (fun b13_4 b13_5 i18=>kH hd k (aF κ) t b13_1 b13_4 u a_n vars dims k b13_5 i18) own) rfl (fun _=>rfl) fun r b13_4 i14=>Eq.trans (b:=td hd k (aF κ) t b13_1 u a_n vars dims (fun b13_4 b13_5 i18=>(gW hd k).lp κ 18 [] k (vg t b13_1 b13_4 u a_n vars dims b13_5 i18)) (fun b13_4 i14=>r (FF t b13_1 u a_n vars dims b13_4 i14)) b13_4 i14) (by kernel_rfl) (by simp only [YF])
theorem YD: ∀n b13_1,(gW hd k).jn κ 1000009 [] n (M0 t u a_n vars dims b13_1)=anu hd k (aF κ) t u a_n vars dims n b13_1:=nx (Di hd k (aF κ) t u a_n vars dims (fun b13_1 b13_4 i14=>me hd k (aF κ) t b13_1 u a_n vars dims k b13_4 i14)) rfl (fun _=>rfl) (fun b13_1=>Eq.trans (b:=Di hd k (aF κ) t u a_n vars dims (fun b13_1 b13_4 i14=>(gW hd k).lp κ 10 [] k (FF t b13_1 u a_n vars dims b13_4 i14)) b13_1) (by kernel_rfl) (by simp only [YE]))
theorem YC: ∀n,(gW hd k).jn κ 1000006 [] n (MZ t u a_n vars dims)=uM hd k (aF κ) t u a_n vars dims n:=gL (oU hd k (aF κ) t u a_n vars dims (fun b13_1=>anu hd k (aF κ) t u a_n vars dims k b13_1)) rfl (fun _=>rfl) (Eq.trans (b:=oU hd k (aF κ) t u a_n vars dims (fun b13_1=>(gW hd k).jn κ 1000009 [] k (M0 t u a_n vars dims b13_1))) (by kernel_rfl) (by simp only [YD]))
end
theorem K4 {S:Type} (o:Obj) (ho:ai o): ∀k:Nat,Tl o 112 (GG (alZ k:eO S))
 |0=>dz fun t a_n u vars dims κ x h=>by cases h
 |k+1=>ak (gW (alZ k) k) ⟨am3 o ho k,um o ho k,zJ o ho k,K4 o ho k,abI o ho k,trivial⟩ Tryz.func112 (by kernel_rfl) fun t a_n u vars dims κ x h=>Eq.trans (b:=BW (alZ k) k (aF κ) ((gW (alZ k) k).jn κ 1000006 [] k (MZ t u a_n vars dims)) t a_n u vars dims) (by kernel_rfl) (Eq.trans (by simp only [YC];rfl) h)
def Px {S:Type} (k:Nat):Rw S:=aj Lu xn fun t a_n u κ=>aa k (t7 k t a_n u) (aF κ)
def VT {S:Type} (k:Nat):Fx S:=fp 42 [(62,amV k),(99,A4 (gF k)),(100,A5 (fQ k)),(111,GF (amB k)),(112,GG (alZ k))] [] k Tryz.f64 0
theorem abJ {S:Type} (o:Obj) (ho:ai o) (k:Nat):Tl o 64 (Px k:Rw S):=ak (VT k) ⟨am3 o ho k,EI o ho k,EJ o ho k,K3 o ho k,K4 o ho k,trivial⟩ Tryz.func64 (by kernel_rfl) fun t a_n u κ x h=>Eq.trans (by kernel_rfl) (al h)
def Py {S:Type} (k:Nat):Rw S:=aj pX xn fun line a sys κ=>aa k (ub k line a sys) (aF κ)
def CT {S:Type} (k:Nat):Fx S:=fp 61 [(150,Gw k),(152,GE k),(153,GD k),(156,GC k)] [(5,⟨[(2,.none),(3,.none),(6,.none),(7,.none),(8,.none)],[(3,[.none,.none,.none,.none,.none,.none]),(6,[.none,.none,.none,some (200387,true),some (200388,true),some (200389,true)]),(7,[.none,.none,.none,.none,.none,.none])]⟩,ap 6 23)] k Tryz.f114 0
def M2 (line:Tm) (sys:List (Br Tm)) (b7:Tm) (i8:Int):St UU:=⟨[(2,(sB sys)),(3,(pt 3)),(6,(pt 6)),(7,(pt 7)),(8,(iI i8))],[(3,bT line),(6,.cells [(iI 0),(iI 0),(.str ByteArray.empty),(.own 200387 0),(.own 200388 0),(.own 200389 0)]),(7,bT b7)],[(200389,⟨0,ET.B,([]:List (Br Tm))⟩),(200388,⟨0,ET.T,([]:List Tm)⟩),(200387,⟨0,ET.C,([]:List Cl)⟩)],[(200389,.wr),(200388,.wr),(200387,.wr)]⟩
section
variable {S:Type} (k:Nat) (line a:Tm) (sys:List (Br Tm)) (κ:Out UU→Option S)
theorem YH: ∀n b7 i8,(CT k).lp κ 5 [] n (M2 line sys b7 i8)=jo k (aF κ) line sys n b7 i8:=aL (oV k (aF κ) line sys) rfl (fun _=>rfl) fun r b7 i8=>by kernel_rfl
end
theorem abK {S:Type} (o:Obj) (ho:ai o) (k:Nat):Tl o 114 (Py k:Rw S):=ak (CT k) ⟨Kd o ho k,Kk o ho k,Kj o ho k,Ki o ho k,trivial⟩ Tryz.func114 (by kernel_rfl) fun line a sys κ x h=>Eq.trans (b:=IG k (aF κ) (fun b7 i8=>(CT k).lp κ 5 [] k (M2 line sys b7 i8)) line a sys) (by kernel_rfl) (Eq.trans (by simp only [YH];rfl) (al h))
def Pz {S:Type} (k:Nat):Rw S:=aj pX xn fun line a sys κ=>aa k (zu k line a sys) (cM κ)
def VU {S:Type} (k:Nat):Fx S:=fp 26 [(60,A_ k),(108,Gu k),(109,Gt k),(114,Py k)] [] k Tryz.f67 0
theorem abL {S:Type} (o:Obj) (ho:ai o) (k:Nat):Tl o 67 (Pz k:Rw S):=ak (VU k) ⟨Ee o ho k,Kb o ho k,Ka o ho k,abK o ho k,trivial⟩ Tryz.func67 (by kernel_rfl) fun line a sys κ x h=>Eq.trans (by kernel_rfl) (al h)
def PA {S:Type} (k:Nat):Rw S:=aj dV xn fun t κ=>aa k (zy k t) (aF κ)
def mR {S:Type} (k:Nat):Fx S:=fp 153 [(61,Ps k),(62,amV k),(63,Pt k),(64,Px k),(65,A8 k),(66,Gv k),(67,Pz k)] [(1000004,⟨[(1,.none),(2,.none),(3,.none)],[(1,[.none,.none,.none,.none,.none,.none]),(2,[.none,.none,.none,some (200131,true),some (200132,true),some (200133,true)])]⟩,ap 3 7),(15,⟨[(1,.none),(2,.none),(3,.none),(4,.none),(7,.none),(8,.none),(9,.none),(10,some (100010,true)),(11,.none)],[(1,[.none,.none,.none,.none,.none,.none]),(2,[.none,.none,.none,some (200131,true),some (200132,true),some (200133,true)]),(4,[.none,.none,.none,.none,.none,.none]),(7,[.none,.none,.none,.none,.none,.none]),(8,[.none,.none,.none,.none,.none,.none]),(9,[.none,.none,.none,some (200579,true),some (200580,false),some (200581,true)])]⟩,ap 14 6143),(19,⟨[(1,.none),(2,.none),(3,.none),(4,.none),(7,.none),(8,.none),(9,.none),(10,some (100010,true)),(11,.none),(12,some (100012,false)),(13,.none)],[(1,[.none,.none,.none,.none,.none,.none]),(2,[.none,.none,.none,some (200131,true),some (200132,true),some (200133,true)]),(4,[.none,.none,.none,.none,.none,.none]),(7,[.none,.none,.none,.none,.none,.none]),(8,[.none,.none,.none,.none,.none,.none]),(9,[.none,.none,.none,some (200579,true),some (200580,false),some (200581,true)])]⟩,ap 22 1349631)] k Tryz.f34 0
def M3 (t:Tm):St UU:=⟨[(1,(pt 1)),(2,(pt 2)),(3,(.int .i64 (IntKind.wrap .i64 ((t.kids.length:Int)-1))))],[(1,bT t),(2,.cells [(iI 0),(iI 0),(.str ByteArray.empty),(.own 200131 0),(.own 200132 0),(.own 200133 0)])],[(200133,⟨0,ET.B,([]:List (Br Tm))⟩),(200132,⟨0,ET.T,([]:List Tm)⟩),(200131,⟨0,ET.C,([]:List Cl)⟩)],[(200133,.wr),(200132,.wr),(200131,.wr)]⟩
def vh (t x2 r8 r9 x12:Tm) (sys10:List (Br Tm)) (i11:Int):St UU:=⟨[(1,(pt 1)),(2,(pt 2)),(3,(.int .i64 (IntKind.wrap .i64 ((t.kids.length:Int)-1)))),(4,(pt 4)),(7,(pt 7)),(8,(pt 8)),(9,(pt 9)),(10,(.own 100010 0)),(11,(iI i11))],[(1,bT t),(2,.cells [(iI 0),(iI 0),(.str ByteArray.empty),(.own 200131 0),(.own 200132 0),(.own 200133 0)]),(4,bT x2),(7,bT r8),(8,bT r9),(9,.cells [(iI t.kind),(iI 0),(.str ByteArray.empty),(.own 200579 0),(.own 200580 0),(.own 200581 0)])],[(200581,⟨0,ET.B,([]:List (Br Tm))⟩),(200580,⟨0,ET.T,(([]:List Tm)++(List.take (Int.toNat (IntKind.wrap .i64 ((t.kids.length:Int)-1))) t.kids))++[(ac x12)]⟩),(200579,⟨0,ET.C,([]:List Cl)⟩),(200133,⟨0,ET.B,([]:List (Br Tm))⟩),(200132,⟨0,ET.T,([]:List Tm)⟩),(200131,⟨0,ET.C,([]:List Cl)⟩),(100010,⟨0,ET.B,sys10⟩)],[(200581,.wr),(200580,.app),(200579,.wr),(200133,.wr),(200132,.wr),(200131,.wr),(100010,.wr)]⟩
def M4 (t x2 r8 r9 x12:Tm) (sys10:List (Br Tm)) (i11:Int) (kids12:List Tm) (v13:Int):St UU:=⟨[(1,(pt 1)),(2,(pt 2)),(3,(.int .i64 (IntKind.wrap .i64 ((t.kids.length:Int)-1)))),(4,(pt 4)),(7,(pt 7)),(8,(pt 8)),(9,(pt 9)),(10,(.own 100010 0)),(11,(iI i11)),(12,(.own 100012 0)),(13,(iI v13))],[(1,bT t),(2,.cells [(iI 0),(iI 0),(.str ByteArray.empty),(.own 200131 0),(.own 200132 0),(.own 200133 0)]),(4,bT x2),(7,bT r8),(8,bT r9),(9,.cells [(iI t.kind),(iI 0),(.str ByteArray.empty),(.own 200579 0),(.own 200580 0),(.own 200581 0)])],[(200581,⟨0,ET.B,([]:List (Br Tm))⟩),(200580,⟨0,ET.T,(([]:List Tm)++(List.take (Int.toNat (IntKind.wrap .i64 ((t.kids.length:Int)-1))) t.kids))++[(ac x12)]⟩),(200579,⟨0,ET.C,([]:List Cl)⟩),(200133,⟨0,ET.B,([]:List (Br Tm))⟩),(200132,⟨0,ET.T,([]:List Tm)⟩),(200131,⟨0,ET.C,([]:List Cl)⟩),(100012,⟨0,ET.T,kids12⟩),(100010,⟨0,ET.B,sys10⟩)],[(200581,.wr),(200580,.app),(200579,.wr),(200133,.wr),(200132,.wr),(200131,.wr),(100012,.app),(100010,.wr)]⟩
section
variable {S:Type} (k:Nat) (t:Tm) (κ:Out UU→Option S)
theorem YK (x2 r8 r9 x12 sys10 i11 κ1): ∀n kids12 v13,(mR k).lp κ 19 [κ1] n (M4 t x2 r8 r9 x12 sys10 i11 kids12 v13)=nX k (aF κ) (fun sys10 i11=>κ1 (vh t x2 r8 r9 x12 sys10 i11)) t x2 r8 r9 x12 sys10 i11 n kids12 v13:=aL (ya k (aF κ) t x2 r8 r9 x12 sys10 i11 (fun sys10 i11=>κ1 (vh t x2 r8 r9 x12 sys10 i11))) rfl (fun _=>rfl) fun r kids12 v13=>by kernel_rfl
theorem YJ (x2 r8 r9 x12): ∀n sys10 i11,(mR k).lp κ 15 [] n (vh t x2 r8 r9 x12 sys10 i11)=amU k (aF κ) t x2 r8 r9 x12 n sys10 i11:=aL (fun own=>th k (aF κ) t x2 r8 r9 x12 (fun sys10 i11 kids12 v13=>nX k (aF κ) own t x2 r8 r9 x12 sys10 i11 k kids12 v13) own) rfl (fun _=>rfl) fun r sys10 i11=>Eq.trans (b:=th k (aF κ) t x2 r8 r9 x12 (fun sys10 i11 kids12 v13=>(mR k).lp κ 19 [r] k (M4 t x2 r8 r9 x12 sys10 i11 kids12 v13)) (fun sys10 i11=>r (vh t x2 r8 r9 x12 sys10 i11)) sys10 i11) (by kernel_rfl) (by simp only [YK])
theorem YI: ∀n,(mR k).jn κ 1000004 [] n (M3 t)=am7 k (aF κ) t n:=gL (x_ k (aF κ) t (fun x2 r8 r9 x12 sys10 i11=>amU k (aF κ) t x2 r8 r9 x12 k sys10 i11)) rfl (fun _=>rfl) (Eq.trans (b:=x_ k (aF κ) t (fun x2 r8 r9 x12 sys10 i11=>(mR k).lp κ 15 [] k (vh t x2 r8 r9 x12 sys10 i11))) (by kernel_rfl) (by simp only [YJ]))
end
theorem abM {S:Type} (o:Obj) (ho:ai o) (k:Nat):Tl o 34 (PA k:Rw S):=ak (mR k) ⟨abE o ho k,am3 o ho k,abF o ho k,abJ o ho k,Ec o ho k,Kc o ho k,abL o ho k,trivial⟩ Tryz.func34 (by kernel_rfl) fun t κ x h=>Eq.trans (b:=IK k (aF κ) ((mR k).jn κ 1000004 [] k (M3 t)) t) (by kernel_rfl) (Eq.trans (by simp only [YI];rfl) (al h))
def PB {S:Type} (k:Nat):Rw S:=aj Lv xn fun t out κ=>aa k (pA k t out) (fC κ)
def oa {S:Type} (k:Nat):Fx S:=fp 22 [(60,A_ k)] [] k Tryz.f33 0
theorem abN {S:Type} (o:Obj) (ho:ai o) (k:Nat):Tl o 33 (PB k:Rw S):=ak (oa k) ⟨Ee o ho k,trivial⟩ Tryz.func33 (by kernel_rfl) fun t out κ x h=>Eq.trans (by kernel_rfl) (al h)
def PC {S:Type} (k:Nat):Rw S:=aj dV xn fun t κ=>aa k (zx k t) (fC κ)
def VX {S:Type} (k:Nat):Fx S:=fp 19 [(32,anC k),(33,PB k),(34,PA k)] [] k Tryz.f10 0
theorem abO {S:Type} (o:Obj) (ho:ai o) (k:Nat):Tl o 10 (PC k:Rw S):=ak (VX k) ⟨uo o ho k,abN o ho k,abM o ho k,trivial⟩ Tryz.func10 (by kernel_rfl) fun t κ x h=>Eq.trans (by kernel_rfl) (al h)
def PD {S:Type} (k:Nat):Rw S:=aj dV xn fun t κ=>aa k (DQ k t) (aA κ)
def VY {S:Type} (k:Nat):Fx S:=fp 48 [(6,Od k),(7,OW k),(8,Gl (je k)),(9,Gk k),(10,PC k),(11,vF (d8 k))] [] k Tryz.f3 0
theorem abP {S:Type} (o:Obj) (ho:ai o) (k:Nat):Tl o 3 (PD k:Rw S):=ak (VY k) ⟨eX1 o ho k,aa8 o ho k,KY o ho k,JY o ho k,abO o ho k,EH o ho k,trivial⟩ Tryz.func3 (by kernel_rfl) fun t κ x h=>Eq.trans (by kernel_rfl) (al h)
section
variable {S:Type} (hd:WX S) (k:Nat) (t:Tm) (κ:Out UU→Option S)
end
section
variable {S:Type} (k:Nat) (t:Tm) (vars many:Int) (κ:Out UU→Option S)
end
section
variable {S:Type} (k:Nat) (t:Tm) (κ:Out UU→Option S)
end
end
end Go.Proofs.YtfkkpkhfjpaafaaGreatDoor
namespace Go.Proofs.YtfkkpkhfjpaafaaGreatDoor
open Go PI
set_option linter.unusedVariables false
set_option maxRecDepth 100000
noncomputable section
section
variable {S:Type} (k:Nat) (s:List (Br Tm)) (κ:Out UU→Option S)
end
section
variable {S:Type} (k:Nat) (defs:List Df) (t:Tm) (κ:Out UU→Option S)
end
section
variable {S:Type} (k:Nat) (defs:List Df) (t:Tm) (κ:Out UU→Option S)
end
section
variable {S:Type} (k:Nat) (l:List (List Cl)) (κ:Out UU→Option S)
end
theorem akQ {S:Type} (o:Obj) (ho:ai o) (k:Nat):Tl o 3 (PD k:Rw S):=abP o ho k
end
end Go.Proofs.YtfkkpkhfjpaafaaGreatDoor
namespace Go.Proofs.YtfkkpkhfjpaafaaGreatDoor
open Go PI
set_option linter.unusedVariables false
set_option linter.unusedSimpArgs false
variable {S:Type} {k:Nat}
def bE {α β:Type} (x:Except Int α) (f:α→Except Int β):Except Int β:=match x with
 | .error e=> .error e
 | .ok a=>f a
theorem aD {α β:Type} (a:α) (f:α→Except Int β):bE (.ok a) f=f a:=rfl
theorem lk {α β:Type} (e:Int) (f:α→Except Int β):bE (.error e) f= .error e:=rfl
theorem sm {α β:Type} {x:Except Int α} {f:α→Except Int β} {b:β} (h:bE x f= .ok b): ∃a,x= .ok a∧f a= .ok b:=by
 cases x with
 |error e=>cases h
 |ok a=>exact ⟨a,rfl,h⟩
theorem be {α β:Type} {x:Except Int α} {f:α→Except Int β} {e:Int} (h:bE x f= .error e):x= .error e∨ ∃a,x= .ok a∧f a= .error e:=by
 cases x with
 |error e=>injection h with h;grind
 |ok a=>exact .inr ⟨a,rfl,h⟩
def toE (x:List Cl×Int):Except Int (List Cl):=if x.2=0 then .ok x.1 else .error x.2
theorem jF {x:List Cl×Int} (h:x.2=0):toE x= .ok x.1:=if_pos h
theorem iO {x:List Cl×Int} (h:x.2≠0):toE x= .error x.2:=if_neg h
theorem rR {x:List Cl×Int} {l:List Cl} (h:toE x= .ok l):x.2=0∧x.1=l:=by
 grind [toE]
theorem B0 {x:List Cl×Int} {e:Int} (h:toE x= .error e):x.2≠0∧x.2=e:=by
 grind [toE]
def EN (e:Int):Prop:=0≤e∧e≤1000
theorem uq:EN 0:=by unfold EN;omega
theorem lO:EN 2:=by unfold EN;omega
theorem en3:EN 3:=by unfold EN;omega
theorem acI:EN 10:=by unfold EN;omega
theorem qW (l:List Cl):EN (bp l).2:=by
 grind [bp,en3,uq,lO]
theorem z8 {step:List Cl→Cl→List Cl×Int} (hs: ∀h c,EN (step h c).2): ∀ {r h:List Cl},EN (adU step h r).2:=by
 intro r
 induction r<;>grind [uq,adU]
theorem agu (s i b:Int):EN (alS s i b).2:=by
 grind [alS,lO,amc,uq,acI]
theorem agk (c:Cl) (i b:Int):EN (dw c i b).2:=by
 grind [dw,agu,lO]
theorem q_ (f:List Cl) (i b:Int):EN (agS f i b).2:=by
 unfold agS
 split
 ·split
  ·exact qW _
  ·exact z8 fun h c=>agk c i b
 ·exact lO
theorem T8 {n b x y:Nat} (h:up1 n b x=up1 n b y):x=y:=by
 grind [up1]
theorem ak2 (n b:Nat) {l:List Nat} (h:l.Nodup):(l.map (up1 n b)).Nodup:=
 List.Pairwise.map (S:=fun a b=>a≠b) (R:=fun a b=>a≠b) _ (fun x y hxy h=>hxy (T8 h)) h
theorem ags {m n b:Nat} (h:(amc m n b).2=0) (j:Nat):(amc m n b).1.testBit j=true↔ ∃x,x<24∧m.testBit x=true∧up1 n b x=j:=by
 rw [Fg] at h ⊢
 split<;>grind [oG,ak2,oY,mem_bitsN]
theorem ZC {m:Nat} (h:m<16777216):m&&&M24=m:=by
 apply Nat.eq_of_testBit_eq
 grind [g8,oZ]
theorem agq {m n b:Nat} (hm:m<16777216) (h:b=0∨24≤n):amc m n b=(m,0):=by
 rw [Fg,if_neg]
 ·have:(bW m).map (up1 n b)=bW m:=by
   refine (List.map_congr_left fun x hx=> ?_).trans (List.map_id _)
   grind [mem_bitsN,up1]
  simp_all [Hk,ZC]
 grind [mem_bitsN]
theorem agl {c:Cl} {i b:Int} (hc:RC c) (hi:0≤i) (hb:0≤b) (h:b=0∨24≤i):dw c i b=(c,0):=by
 have h1:c.pos.toNat<16777216:=by have:=hc.1;omega
 have h2:c.neg.toNat<16777216:=by have:=hc.2;omega
 have hs: ∀s:Int,0≤s→s.toNat<16777216→alS s i b=(s,0):=fun s h0 hs=>by
  grind [alS,agq]
 unfold dw
 rw [if_pos ((Bp hc.ok).2 hc),hs _ hc.1.1 h1,hs _ hc.2.1 h2];rfl
theorem acY {i b:Int}: ∀ {r h:List Cl},(adU (dK i b) h r).2=0→(∀c∈r,(dw c i b).2=0)∧(adU (dK i b) h r).1=h++r.map fun c=>(dw c i b).1:=by
 intro r
 induction r<;>grind [adU,dK]
theorem acZ {i b:Int}: ∀ {r h:List Cl},(∀c∈r,dw c i b=(c,0))→adU (dK i b) h r=(h++r,0):=by
 intro r
 induction r<;>grind [adU,dK]
theorem agm {f:List Cl} {i b:Int} (hf:RF f) (hi:0≤i) (hb:0≤b) (h:b=0∨24≤i):agS f i b=(f,0):=by
 unfold agS
 rw [if_pos hf.right,acZ fun c hc=>agl (hf.rc hc) hi hb h,if_pos rfl]
 exact hf.1
theorem agn {f:List Cl} {i b:Int} (h:(agS f i b).2=0): ∀c∈(agS f i b).1,∃d∈f,(dw d i b).2=0∧c=(dw d i b).1:=by
 grind [agS,acY,bp,mem_mins]
theorem ZY {c:Cl}:bS c=false↔ ∀j,¬ (c.pos.toNat.testBit j=true∧c.neg.toNat.testBit j=true):=by
 unfold bS
 rw [Bool.not_eq_false',decide_eq_true_eq]
 constructor
 ·intro h j ⟨h1,h2⟩
  have:(c.pos.toNat&&&c.neg.toNat).testBit j=true:=by grind
  grind
 ·intro h
  apply Nat.eq_of_testBit_eq
  grind
theorem agt {s i b:Int} (h:(alS s i b).2=0) {j:Nat} (hj:(alS s i b).1.toNat.testBit j=true): ∃x,s.toNat.testBit x=true∧up1 i.toNat b.toNat x=j:=by
 unfold alS at h hj
 split at h
 ·cases h
 ·next hn=>
  rw [if_neg hn] at hj
  have h':(amc s.toNat i.toNat b.toNat).2=0:=by
   omega
  obtain ⟨x,_,h2,h3⟩:=(ags h' j).1 hj
  grind
theorem agj {c:Cl} {i b:Int} (h:(dw c i b).2=0) (hc:bS c=false):bS (dw c i b).1=false:=by
 grind [ZY,dw,agt,T8]
def alN (d b:Int) (f:List Cl):Except Int (List Cl):=if b=0∨d≥24 then .ok f else toE (agS f d b)
theorem GY {d b:Int} {f g:List Cl} (hf:RF f) (h:alN d b f= .ok g):RF g:=by
 grind [alN,rR,kQ]
theorem Bq {d b:Int} {f:List Cl} {e:Int} (h:alN d b f= .error e):0<e∧e≤1000:=by
 grind [alN,B0,q_,EN]
theorem aiw {d b:Int} {f g:List Cl} (hf:f.all (fun c=> !bS c)=true) (h:alN d b f= .ok g):g.all (fun c=> !bS c)=true:=by
 grind [alN,rR,agn,agj]
theorem Bt (d b:Int):alN d b []= .ok []:=by
 unfold alN
 split
 all_goals rfl
mutual
def acr (vb db v d:Int):Tm→Except Int Tm
 | .mk kd n nm r ks sys=>
  if kd=1∧n≥v∧n>1000000000-vb then .error 100
  else bE (alN d db r) fun r'=>bE (dm vb db v d kd 0 ks) fun ks'=>bE (alT vb db v d kd sys) fun sys'=> .ok (.mk kd (if kd=1∧n≥v then n+vb else n) nm r' ks' sys')
def dm (vb db v d kd:Int) (i:Nat):List Tm→Except Int (List Tm)
 |[]=> .ok []
 |t::l=>bE (acr vb db (v+bz kd i) (d+bJ kd i) t) fun t'=>bE (dm vb db v d kd (i+1) l) fun l'=> .ok (t'::l')
def alT (vb db v d kd:Int):List (Br Tm)→Except Int (List (Br Tm))
 |[]=> .ok []
 |b::l=>bE (n8 vb db v d kd b) fun b'=>bE (alT vb db v d kd l) fun l'=> .ok (b'::l')
def n8 (vb db v d kd:Int):Br Tm→Except Int (Br Tm)
 | .mk f ks=>bE (alN d db f) fun f'=>bE (alP vb db v d kd ks) fun ks'=> .ok (.mk f' ks')
def alP (vb db v d kd:Int):List Tm→Except Int (List Tm)
 |[]=> .ok []
 |t::l=>bE (acr vb db v (d+av kd) t) fun t'=>bE (alP vb db v d kd l) fun l'=> .ok (t'::l')
end
mutual
def RowsT:Tm→Prop
 | .mk kd n nm r ks sys=>(RF r∧(kd=1→r=[])∧0≤kd)∧dQ ks∧eA sys
def dQ:List Tm→Prop
 |[]=>True
 |t::l=>RowsT t∧dQ l
def eA:List (Br Tm)→Prop
 |[]=>True
 |b::l=>mZ b∧eA l
def mZ:Br Tm→Prop
 | .mk f ks=>RF f∧dQ ks
end
theorem rowsK_iff: ∀ {l:List Tm},dQ l↔ ∀t∈l,RowsT t:=by
 intro l
 induction l<;>grind [dQ]
theorem G3 {b:Br Tm}:mZ b↔RF b.face∧ ∀t∈b.kids,RowsT t:=by cases b;rw [mZ,rowsK_iff]
theorem rowsS_iff: ∀ {l:List (Br Tm)},eA l↔ ∀b∈l,RF b.face∧ ∀t∈b.kids,RowsT t:=by
 intro l
 induction l<;>grind [eA,G3]
end Go.Proofs.YtfkkpkhfjpaafaaGreatDoor
namespace Go.Proofs.YtfkkpkhfjpaafaaGreatDoor
open Go PI
set_option linter.unusedVariables false
set_option linter.unusedSimpArgs false
variable {S:Type} {k:Nat}
inductive F2 {α β:Type} (R:α→β→Prop):List α→List β→Prop
 |nil:F2 R [] []
 |cons {a:α} {b:β} {l:List α} {m:List β}:R a b→F2 R l m→F2 R (a::l) (b::m)
theorem F2.len {α β:Type} {R:α→β→Prop} {l:List α} {m:List β} (h:F2 R l m):m.length=l.length:=by
 induction h<;>grind
theorem F2.imp {α β:Type} {R Q:α→β→Prop} {l:List α} {m:List β} (h:F2 R l m) (hq: ∀a b,R a b→Q a b):F2 Q l m:=by
 induction h<;>grind [nil,cons]
theorem ago {vb db v d kd:Int} {R:Tm→Tm→Prop}: ∀ {l:List Tm} {i:Nat} {l':List Tm},(∀x∈l,∀v d x',acr vb db v d x= .ok x'→R x x')→dm vb db v d kd i l= .ok l'→F2 R l l':=by
 intro l
 induction l with
 |nil=>intro i l' _ h;rw [dm] at h;injection h with h;subst h;exact .nil
 |cons t l ih=>
  intro i l' hr h
  rw [dm] at h
  obtain ⟨t',h1,h⟩:=sm h
  obtain ⟨m,h2,h⟩:=sm h
  injection h with h;subst h
  exact .cons (hr t (by simp) _ _ _ h1) (ih (fun x hx=>hr x (by simp [hx])) h2)
theorem agp {vb db v d kd:Int} {R:Tm→Tm→Prop}: ∀ {l:List Tm} {l':List Tm},(∀x∈l,∀v d x',acr vb db v d x= .ok x'→R x x')→alP vb db v d kd l= .ok l'→F2 R l l':=by
 intro l
 induction l with
 |nil=>intro l' _ h;rw [alP] at h;injection h with h;subst h;exact .nil
 |cons t l ih=>
  intro l' hr h
  rw [alP] at h
  obtain ⟨t',h1,h⟩:=sm h
  obtain ⟨m,h2,h⟩:=sm h
  injection h with h;subst h
  exact .cons (hr t (by simp) _ _ _ h1) (ih (fun x hx=>hr x (by simp [hx])) h2)
theorem agv {vb db v d kd:Int} {R:Tm→Tm→Prop}: ∀ {l l':List (Br Tm)},(∀b∈l,∀x∈b.kids,∀v d x',acr vb db v d x= .ok x'→R x x')→alT vb db v d kd l= .ok l'→
  F2 (fun b b'=>alN d db b.face= .ok b'.face∧F2 R b.kids b'.kids) l l':=by
 intro l
 induction l with
 |nil=>intro l' _ h;rw [alT] at h;injection h with h;subst h;exact .nil
 |cons b l ih=>
  intro l' hr h
  rw [alT] at h
  obtain ⟨b',h1,h⟩:=sm h
  obtain ⟨m,h2,h⟩:=sm h
  injection h with h;subst h
  cases b with
  |mk f ks=>
   rw [n8] at h1
   obtain ⟨f',h3,h1⟩:=sm h1
   obtain ⟨ks',h4,h1⟩:=sm h1
   injection h1 with h1;subst h1
   exact .cons ⟨h3,agp (hr ⟨f,ks⟩ (by simp)) h4⟩ (ih (fun b hb=>hr b (by simp [hb])) h2)
theorem Av {f:List Cl} {d:Int} (h:24≤d):dg f d=true:=by
 grind [dg,mem_bitsN]
def Up (x x':Tm):Prop:=am x'=am x∧au x'=au x∧x'.kind=x.kind∧(OkT x→OkT x'∧(RowsT x→RowsT x')∧ ∀dd dd',24≤dd→24≤dd'→a6 false (-1) dd x=true→a6 false (-1) dd' x'=true)
theorem Ua {l l':List Tm} (h:F2 Up l l'):aH l'=aH l:=by
 induction h with
 |nil=>rfl
 |cons h1 _ ih=>rw [aH,aH,h1.1,ih]
theorem Ud {l l':List Tm} (h:F2 Up l l'):ay l'=ay l:=by
 induction h with
 |nil=>rfl
 |cons h1 _ ih=>rw [ay,ay,h1.2.1,ih]
theorem ala {l l':List (Br Tm)} (h:F2 (fun b b':Br Tm=>F2 Up b.kids b'.kids) l l'):aO l'=aO l:=by
 induction h with
 |nil=>rfl
 |cons h1 _ ih=>grind [aO,pD,Ua]
theorem alb {l l':List (Br Tm)} (h:F2 (fun b b':Br Tm=>F2 Up b.kids b'.kids) l l'):aI l'=aI l:=by
 induction h with
 |nil=>rfl
 |cons h1 _ ih=>grind [aI,kZ,Ud]
theorem Ub {l l':List Tm} (h:F2 Up l l'):aZ l→aZ l':=by
 induction h with
 |nil=>exact id
 |cons h1 _ ih=>rw [aZ,aZ];exact fun h=>⟨(h1.2.2.2 h.1).1,ih h.2⟩
theorem Uc {l l':List Tm} (h:F2 Up l l'):aZ l→dQ l→dQ l':=by
 induction h with
 |nil=>simp
 |cons h1 _ ih=>rw [aZ,dQ,dQ];exact fun h g=>⟨(h1.2.2.2 h.1).2.1 g.1,ih h.2 g.2⟩
theorem B2 (v:Int):cQ (-1) v= -1:=by rfl
theorem ak9 {kd dd dd':Int} (h1:24≤dd) (h2:24≤dd') {l l':List Tm} (h:F2 Up l l'): ∀ {i:Nat},aZ l→bO false (-1) dd kd i l=true→bO false (-1) dd' kd i l'=true:=by
 induction h with
 |nil=>exact fun _ h=>h
 |cons h3 _ ih=>
  intro i
  rw [aZ,bO,bO,Bool.and_eq_true,Bool.and_eq_true,B2]
  have:=gr kd i
  exact fun h g=>⟨(h3.2.2.2 h.1).2.2 _ _ (by omega) (by omega) g.1,ih h.2 g.2⟩
theorem ak_ {kd dd dd':Int} (h1:24≤dd) (h2:24≤dd') {l l':List Tm} (h:F2 Up l l'):aZ l→ca false (-1) dd kd l=true→ca false (-1) dd' kd l'=true:=by
 induction h with
 |nil=>exact fun _ h=>h
 |cons h3 _ ih=>
  rw [aZ,ca,ca,Bool.and_eq_true,Bool.and_eq_true]
  have:=dy kd
  exact fun h g=>⟨(h3.2.2.2 h.1).2.2 _ _ (by omega) (by omega) g.1,ih h.2 g.2⟩
def oN (d db:Int) (b b':Br Tm):Prop:=alN d db b.face= .ok b'.face∧F2 Up b.kids b'.kids
theorem QG {d db:Int} {f g:List Cl} (h:alN d db f= .ok g) (hf:aq f) (hl:f.length<1073741824):aq g∧g.length<1073741824:=by
 unfold alN at h
 split at h
 ·grind
 ·obtain ⟨h1,rfl⟩:=rR h
  have:=kQ h1
  exact ⟨this.2,by have:=this.len;omega⟩
theorem QH {d db:Int} {f g:List Cl} (h:alN d db f= .ok g) (hf:aq f) (hr:bF f=true):bF g=true:=(GY ((fF hf).1 hr) h).right
theorem QF {d db:Int} {f g:List Cl} (h:alN d db f= .ok g) (hf:aq f) (hr:cV f=true):cV g=true:=by
 grind [cV,QH,aiw]
theorem aiv {d db:Int} {f g:List Cl} (h:alN d db f= .ok g) (hf:f.length=0):g.length=0:=by
 grind [Bt]
theorem ak6 {d db:Int} {l l':List (Br Tm)} (h:F2 (oN d db) l l'):ba l→ba l':=by
 induction h with
 |nil=>exact id
 |cons h1 _ ih=>
  rw [ba,ba,oh,oh]
  intro h
  have h3:=QG h1.1 h.1.1.1 h.1.1.2.1
  exact ⟨⟨⟨h3.1,h3.2,by have:=h1.2.len;omega⟩,okK_iff.1 (Ub h1.2 (okK_iff.2 h.1.2))⟩,ih h.2⟩
theorem ak8 {d db:Int} {l l':List (Br Tm)} (h:F2 (oN d db) l l'):ba l→eA l→eA l':=by
 induction h with
 |nil=>simp
 |cons h1 _ ih=>
  rw [ba,oh,eA,eA,G3,G3]
  intro h g
  exact ⟨⟨GY g.1.1 h1.1,rowsK_iff.1 (Uc h1.2 (okK_iff.2 h.1.2) (rowsK_iff.2 g.1.2))⟩,ih h.2 g.2⟩
theorem ak5 {d db kd dd dd':Int} (h1:24≤dd) (h2:24≤dd') {l l':List (Br Tm)} (h:F2 (oN d db) l l'):ba l→ck false (-1) dd kd l=true→ck false (-1) dd' kd l'=true:=by
 induction h with
 |nil=>exact fun _ h=>h
 | @cons a b _ _ h3 _ ih=>
  rw [ba,oh,ck,ck,Bool.and_eq_true,Bool.and_eq_true]
  intro h g
  refine ⟨?_,ih h.2 g.2⟩
  cases a;cases b
  have g1:=g.1
  rw [jT] at g1 ⊢
  exact ak_ h1 h2 h3.2 (okK_iff.2 h.1.2) g1
theorem ak7 {d db kd dd dd':Int} (h1:24≤dd) (h2:24≤dd') {l l':List (Br Tm)} (h:F2 (oN d db) l l'):ba l→l.all (bX kd dd)=true→l'.all (bX kd dd')=true:=by
 induction h with
 |nil=>simp
 | @cons a b _ _ h3 _ ih=>
  rw [ba,oh,List.all_cons,List.all_cons,Bool.and_eq_true,Bool.and_eq_true]
  intro h g
  refine ⟨?_,ih h.2 g.2⟩
  have g1:=g.1
  unfold bX at g1 ⊢
  rw [Bool.and_eq_true,Bool.and_eq_true,decide_eq_true_eq] at g1 ⊢
  rw [h3.2.len]
  exact ⟨g1.1,QF h3.1 h.1.1.1 g1.2.1,Av h2⟩
theorem T_ {d db:Int} {l l':List (Br Tm)} (h:F2 (oN d db) l l'):F2 (fun b b':Br Tm=>F2 Up b.kids b'.kids) l l':=h.imp fun _ _ h=>h.2
theorem uP {vb db:Int} (hvb:0≤vb) (hvb':vb≤1000000000) (t:Tm): ∀v d t',acr vb db v d t= .ok t'→Up t t':=by
 induction t using gq with
 |h kd n nm r ks sys ih1 ih2=>
  intro v d t' h
  rw [acr] at h
  split at h
  ·cases h
  next hv=>
  obtain ⟨r',hr,h⟩:=sm h
  obtain ⟨ks',hk,h⟩:=sm h
  obtain ⟨sys',hs,h⟩:=sm h
  injection h with h;subst h
  have fk:F2 Up ks ks':=ago (fun x hx v d x'=>ih1 x hx v d x') hk
  have fs:F2 (oN d db) sys sys':=agv (fun b hb x hx v d x'=>ih2 b hb x hx v d x') hs
  refine ⟨?_, ?_,rfl,fun hok=> ?_⟩
  ·grind [am,Ua,ala,T_]
  ·grind [au,Ud,alb,T_]
  ·obtain ⟨o1,o2,o3,o4,o5,o6,o7⟩:=hok.node
   have hok':=hok
   rw [OkT] at hok'
   obtain ⟨_,ok,os⟩:=hok'
   have hr':=QG hr o4 o5
   have o2':=o2
   unfold aG at o2'
   refine ⟨?_, ?_, ?_⟩
   ·rw [OkT]
    refine ⟨⟨o1, ?_,o3,hr'.1,hr'.2,by rw [fk.len];exact o6,by rw [fs.len];exact o7⟩,Ub fk ok,ak6 fs os⟩
    grind [aG]
   ·grind [RowsT,GY,Uc,ak8,Bt]
   ·intro dd dd' h1 h2
    rw [a6,a6]
    simp only [Bool.false_and,Bool.not_false,Bool.true_and,Bool.and_eq_true]
    rintro ⟨a,b,c⟩
    refine ⟨?_,ak9 h1 h2 fk ok b,ak5 h1 h2 fs os c⟩
    unfold cL at a ⊢
    simp only [Bool.and_eq_true,decide_eq_true_eq,fk.len,fs.len] at a ⊢
    grind [aiv,QH,Av,QF,ak7]
theorem aed {kd:Int} {n:Nat} (h:ct kd=n):0≤kd:=by
 grind [ct]
theorem ZA {bd:Bool} (t:Tm): ∀ {vars dims:Int},OkT t→a6 bd vars dims t=true→RowsT t:=by
 induction t using gq with
 |h kd n nm r ks sys ih1 ih2=>
  intro vars dims hok h
  rw [a6,Bool.and_eq_true,Bool.and_eq_true,Bool.and_eq_true] at h
  obtain ⟨_,a,b,c⟩:=h
  obtain ⟨o1,o2,o3,o4,o5,o6,o7⟩:=hok.node
  have hok':=hok
  rw [OkT] at hok'
  obtain ⟨_,ok,os⟩:=hok'
  have hkids: ∀ {l:List Tm} {i:Nat},(∀x∈l,∀ {vars dims:Int},OkT x→a6 bd vars dims x=true→RowsT x)→aZ l→bO bd vars dims kd i l=true→dQ l:=by
   intro l
   induction l<;>grind [dQ,bO,aZ]
  rw [wH,List.all_eq_true] at c
  unfold cL at a
  simp only [Bool.and_eq_true,decide_eq_true_eq] at a
  obtain ⟨⟨a1,a2,a3,a4⟩,a5⟩:=a
  have r0: ∀ {l:List Cl},l.length=0→RF l:=fun h=>by
   grind [rA]
  rw [RowsT]
  have hfaces:(sys=[]∨sys.all (bX kd dims)=true)∧RF r∧(kd=1→r=[]):=by
   have nosys:cz kd=0→sys=[]:=fun h=>List.length_eq_zero_iff.1 (a4 h)
   by_cases c1:kd=1
   ·rw [if_pos c1] at a5
    simp only [Bool.and_eq_true,decide_eq_true_eq] at a5
    exact ⟨.inl (nosys (by subst c1;decide)),r0 a5.1,fun _=>List.length_eq_zero_iff.1 a5.1⟩
   ·rw [if_neg c1] at a5
    by_cases c2:kd=2
    ·rw [if_pos c2] at a5
     simp only [Bool.and_eq_true,decide_eq_true_eq] at a5
     exact ⟨.inl (nosys (by subst c2;decide)),r0 a5.1,fun h=>absurd h c1⟩
    ·rw [if_neg c2] at a5
     by_cases c3:kd=13∨kd=21∨kd=26
     ·rw [if_pos c3,Bool.and_eq_true] at a5
      exact ⟨.inl (nosys (by rcases c3 with rfl|rfl|rfl<;>decide)),(fF o4).1 a5.1,fun h=>absurd h c1⟩
     ·rw [if_neg c3] at a5
      by_cases c4:kd=14
      ·rw [if_pos c4,Bool.and_eq_true] at a5
       unfold cV at a5
       rw [Bool.and_eq_true] at a5
       exact ⟨.inl (nosys (by subst c4;decide)),(fF o4).1 a5.1.1,fun h=>absurd h c1⟩
      grind
  refine ⟨⟨hfaces.2.1,hfaces.2.2,aed a1⟩,hkids (fun x hx=>ih1 x hx) ok b, ?_⟩
  rw [rowsS_iff]
  intro br hbr
  have hc:=c br hbr
  rw [List.all_eq_true] at hc
  have hob:=hok.br hbr
  refine ⟨?_,fun x hx=>ih2 br hbr x hx (hob.2 x hx) (hc x hx)⟩
  rcases hfaces.1 with h|h<;>grind [bX,cV,fF]
theorem amo {vb db:Int} (t:Tm): ∀ {v d e},acr vb db v d t= .error e→0<e∧e≤1000:=by
 induction t using gq with
 |h kd n nm r ks sys ih1 ih2=>
  intro v d e h
  rw [acr] at h
  split at h
  ·grind
  rcases be h with h|⟨_,_,h⟩
  ·exact Bq h
  have hkids: ∀ {l:List Tm} {i:Nat},(∀x∈l,∀ {v d e},acr vb db v d x= .error e→0<e∧e≤1000)→dm vb db v d kd i l= .error e→0<e∧e≤1000:=by
   intro l
   induction l with
   |nil=>grind [dm]
   |cons t l ih=>
    intro i hl h
    rw [dm] at h
    rcases be h with h|⟨_,_,h⟩
    ·exact hl t (by simp) h
    grind [be]
  have hmore: ∀ {l:List Tm},(∀x∈l,∀ {v d e},acr vb db v d x= .error e→0<e∧e≤1000)→ ∀ {e},alP vb db v d kd l= .error e→0<e∧e≤1000:=by
   intro l
   induction l with
   |nil=>grind [alP]
   |cons t l ih=>
    intro hl e h
    rw [alP] at h
    rcases be h with h|⟨_,_,h⟩
    ·grind
    ·rcases be h with h|⟨_,_,h⟩
     ·exact ih (fun x hx=>hl x (by simp [hx])) h
     simp_all
  have hsys: ∀ {l:List (Br Tm)},(∀b∈l,∀x∈b.kids,∀ {v d e},acr vb db v d x= .error e→0<e∧e≤1000)→alT vb db v d kd l= .error e→0<e∧e≤1000:=by
   intro l
   induction l with
   |nil=>grind [alT]
   |cons b l ih=>
    intro hl h
    rw [alT] at h
    rcases be h with h|⟨_,_,h⟩
    ·cases b with
     |mk f ks'=>
      rw [n8] at h
      rcases be h with h|⟨_,_,h⟩
      ·exact Bq h
      ·rcases be h with h|⟨_,_,h⟩
       ·exact hmore (hl (Br.mk f ks') (by simp)) h
       ·cases h
    grind [be]
  grind [be]
end Go.Proofs.YtfkkpkhfjpaafaaGreatDoor
namespace Go.Proofs.YtfkkpkhfjpaafaaGreatDoor
open Go PI
set_option linter.unusedVariables false
set_option linter.unusedSimpArgs false
variable {S:Type} {k:Nat}
abbrev dC:=Int→List Cl→Except Int (List Cl)
mutual
def ab7 (fo fa:dC) (d:Int):Tm→Except Int Tm
 | .mk kd n nm r ks sys=>bE (if kd=14 then fa d r else fo d r) fun r'=>bE (aig fo fa d kd 0 ks) fun ks'=>bE (acM fo fa d kd sys) fun sys'=> .ok (.mk kd n nm r' ks' sys')
def aig (fo fa:dC) (d kd:Int) (i:Nat):List Tm→Except Int (List Tm)
 |[]=> .ok []
 |t::l=>bE (ab7 fo fa (d+bJ kd i) t) fun t'=>bE (aig fo fa d kd (i+1) l) fun l'=> .ok (t'::l')
def acM (fo fa:dC) (d kd:Int):List (Br Tm)→Except Int (List (Br Tm))
 |[]=> .ok []
 |b::l=>bE (amn fo fa d kd b) fun o=>bE (acM fo fa d kd l) fun l'=> .ok (o++l')
def amn (fo fa:dC) (d kd:Int):Br Tm→Except Int (List (Br Tm))
 | .mk f ks=>bE (fa d f) fun f'=>if f'.length=0 then .ok [] else bE (akP fo fa d kd ks) fun ks'=> .ok [.mk f' ks']
def akP (fo fa:dC) (d kd:Int):List Tm→Except Int (List Tm)
 |[]=> .ok []
 |t::l=>bE (ab7 fo fa (d+av kd) t) fun t'=>bE (akP fo fa d kd l) fun l'=> .ok (t'::l')
end
theorem alf {fo fa:dC} {d kd:Int} {R:Tm→Tm→Prop}: ∀ {l:List Tm} {i:Nat} {l':List Tm},(∀x∈l,∀d x',ab7 fo fa d x= .ok x'→R x x')→aig fo fa d kd i l= .ok l'→F2 R l l':=by
 intro l
 induction l with
 |nil=>intro i l' _ h;rw [aig] at h;injection h with h;subst h;exact .nil
 |cons t l ih=>
  intro i l' hr h
  rw [aig] at h
  obtain ⟨t',h1,h⟩:=sm h
  obtain ⟨m,h2,h⟩:=sm h
  injection h with h;subst h
  exact .cons (hr t (by simp) _ _ h1) (ih (fun x hx=>hr x (by simp [hx])) h2)
theorem alh {fo fa:dC} {d kd:Int} {R:Tm→Tm→Prop}: ∀ {l:List Tm} {l':List Tm},(∀x∈l,∀d x',ab7 fo fa d x= .ok x'→R x x')→akP fo fa d kd l= .ok l'→F2 R l l':=by
 intro l
 induction l with
 |nil=>intro l' _ h;rw [akP] at h;injection h with h;subst h;exact .nil
 |cons t l ih=>
  intro l' hr h
  rw [akP] at h
  obtain ⟨t',h1,h⟩:=sm h
  obtain ⟨m,h2,h⟩:=sm h
  injection h with h;subst h
  exact .cons (hr t (by simp) _ _ h1) (ih (fun x hx=>hr x (by simp [hx])) h2)
def Wk (x x':Tm):Prop:=am x'≤am x∧au x'≤au x∧x'.kind=x.kind∧(OkT x→RowsT x→OkT x'∧RowsT x')
theorem Un {l l':List Tm} (h:F2 Wk l l'):aH l'≤aH l:=by
 induction h with
 |nil=>simp
 |cons h1 _ ih=>rw [aH,aH];have:=h1.1;omega
theorem Uq {l l':List Tm} (h:F2 Wk l l'):ay l'≤ay l:=by
 induction h with
 |nil=>simp
 |cons h1 _ ih=>rw [ay,ay];have:=h1.2.1;omega
theorem Uo {l l':List Tm} (h:F2 Wk l l'):aZ l→dQ l→aZ l'∧dQ l':=by
 induction h with
 |nil=>grind
 |cons h1 _ ih=>
  rw [aZ,aZ,dQ,dQ]
  intro h g
  have a:=h1.2.2.2 h.1 g.1
  grind
theorem alk {fo fa:dC} {d kd:Int} (hfa: ∀d f g,RF f→fa d f= .ok g→RF g): ∀ {l l':List (Br Tm)},(∀b∈l,∀x∈b.kids,∀d x',ab7 fo fa d x= .ok x'→Wk x x')→acM fo fa d kd l= .ok l'→
  aO l'≤aO l∧aI l'≤aI l∧l'.length≤l.length∧(ba l→eA l→ba l'∧eA l'):=by
 intro l
 induction l with
 |nil=>grind [acM]
 |cons b l ih=>
  intro l' hr h
  rw [acM] at h
  obtain ⟨o,h1,h⟩:=sm h
  obtain ⟨m,h2,h⟩:=sm h
  injection h with h;subst h
  obtain ⟨i1,i2,i3,i4⟩:=ih (fun b hb=>hr b (by simp [hb])) h2
  cases b with
  |mk f ks=>
   rw [amn] at h1
   obtain ⟨f',h3,h1⟩:=sm h1
   split at h1
   ·grind [aO,aI,ba,eA]
   ·obtain ⟨ks',h4,h1⟩:=sm h1
    injection h1 with h1;subst h1
    have f2:F2 Wk ks ks':=alh (hr ⟨f,ks⟩ (by simp)) h4
    have hd:=Un f2
    have hs:=Uq f2
    refine ⟨?_, ?_, ?_,fun ho hg=> ?_⟩
    ·grind [aO,eB]
    ·grind [aI,fG]
    ·grind
    ·rw [ba,fc] at ho;rw [eA,mZ] at hg
     have a:=Uo f2 ho.1.2 hg.1.2
     have b:=i4 ho.2 hg.2
     have c:=hfa d f f' hg.1.1 h3
     show ba (Br.mk f' ks'::m)∧eA (Br.mk f' ks'::m)
     rw [ba,fc,eA,mZ]
     exact ⟨⟨⟨⟨c.2,by have:=c.len;omega,by rw [f2.len];simp_all⟩,a.1⟩,b.1⟩,⟨c,a.2⟩,b.2⟩
theorem Uj {fo fa:dC} (hfo: ∀d f g,RF f→fo d f= .ok g→RF g) (hfa: ∀d f g,RF f→fa d f= .ok g→RF g) (h0: ∀d,fo d []= .ok []) (t:Tm): ∀d t',ab7 fo fa d t= .ok t'→Wk t t':=by
 induction t using gq with
 |h kd n nm r ks sys ih1 ih2=>
  intro d t' h
  rw [ab7] at h
  obtain ⟨r',hr,h⟩:=sm h
  obtain ⟨ks',hk,h⟩:=sm h
  obtain ⟨sys',hs,h⟩:=sm h
  injection h with h;subst h
  have fk:F2 Wk ks ks':=alf ih1 hk
  obtain ⟨s1,s2,s3,s4⟩:=alk hfa ih2 hs
  refine ⟨?_, ?_,rfl,fun hok hro=> ?_⟩
  ·rw [am,am];have:=Un fk;omega
  ·rw [au,au];have:=Uq fk;omega
  ·rw [OkT] at hok;rw [RowsT] at hro
   obtain ⟨⟨o1,o2,o3,o4,o5,o6,o7⟩,ok,os⟩:=hok
   obtain ⟨⟨a,b,z⟩,c,e⟩:=hro
   have hk:=Uo fk ok c
   have hs:=s4 os e
   have hrf:RF r':=by
    grind
   rw [OkT,RowsT]
   refine ⟨⟨⟨o1,o2,o3,hrf.2,by have:=hrf.len;omega,by rw [fk.len];exact o6,by omega⟩,hk.1,hs.1⟩,⟨hrf,fun h1=> ?_,z⟩,hk.2,hs.2⟩
   grind
section
variable {fo fa:dC} {G:Int→List Cl→List Cl}
def da (f:dC) (G:Int→List Cl→List Cl):dC:=fun d l=>bE (f d l) fun m=> .ok (G d m)
def n1 (G:Int→List Cl→List Cl):dC:=fun d l=> .ok (G d l)
theorem B5 (t:Tm): ∀d,∃t',ab7 (n1 G) (n1 G) d t= .ok t':=by
 induction t using gq with
 |h kd n nm r ks sys ih1 ih2=>
  intro d
  have hk: ∀ {l:List Tm} {i:Nat},(∀x∈l,∀d,∃t',ab7 (n1 G) (n1 G) d x= .ok t')→ ∃l',aig (n1 G) (n1 G) d kd i l= .ok l':=by
   intro l
   induction l with
   |nil=>simp_all [aig]
   |cons t l ih=>
    intro i h
    obtain ⟨t',e⟩:=h t (by simp) (d+bJ kd i)
    obtain ⟨l',e'⟩:=ih (i:=i+1) fun x hx=>h x (by simp [hx])
    grind [aig,aD]
  have hm: ∀ {l:List Tm},(∀x∈l,∀d,∃t',ab7 (n1 G) (n1 G) d x= .ok t')→ ∃l',akP (n1 G) (n1 G) d kd l= .ok l':=by
   intro l
   induction l with
   |nil=>simp_all [akP]
   |cons t l ih=>
    intro h
    obtain ⟨t',e⟩:=h t (by simp) (d+av kd)
    obtain ⟨l',e'⟩:=ih fun x hx=>h x (by simp [hx])
    grind [akP,aD]
  have hs: ∀ {l:List (Br Tm)},(∀b∈l,∀x∈b.kids,∀d,∃t',ab7 (n1 G) (n1 G) d x= .ok t')→ ∃l',acM (n1 G) (n1 G) d kd l= .ok l':=by
   intro l
   induction l with
   |nil=>simp_all [acM]
   |cons b l ih=>
    intro h
    obtain ⟨l',e'⟩:=ih fun b hb=>h b (by simp [hb])
    cases b with
    |mk f ks=>
     obtain ⟨ks',e⟩:=hm (h ⟨f,ks⟩ (by simp))
     have: ∃o,amn (n1 G) (n1 G) d kd (.mk f ks)= .ok o:=by
      grind [amn,n1,aD]
     grind [acM,aD]
  obtain ⟨ks',ek⟩:=hk (i:=0) ih1
  obtain ⟨sys',es⟩:=hs ih2
  simp_all [n1,ab7,aD]
theorem alg (d kd:Int): ∀ (l:List Tm) (i:Nat),∃l',aig (n1 G) (n1 G) d kd i l= .ok l':=by
 intro l
 induction l with
 |nil=>simp_all [aig]
 |cons t l ih=>
  intro i
  obtain ⟨t',e⟩:=B5 (G:=G) t (d+bJ kd i)
  obtain ⟨l',e'⟩:=ih (i+1)
  grind [aig,aD]
theorem Ui (d kd:Int): ∀ (l:List Tm),∃l',akP (n1 G) (n1 G) d kd l= .ok l':=by
 intro l
 induction l with
 |nil=>simp_all [akP]
 |cons t l ih=>
  obtain ⟨t',e⟩:=B5 (G:=G) t (d+av kd)
  grind [akP,aD]
theorem ale (d kd:Int) (b:Br Tm): ∃o,amn (n1 G) (n1 G) d kd b= .ok o:=by
 cases b with
 |mk f ks=>
  obtain ⟨ks',e⟩:=Ui (G:=G) d kd ks
  rw [amn,n1,aD]
  split<;>simp_all [aD]
theorem alj (d kd:Int): ∀ (l:List (Br Tm)),∃l',acM (n1 G) (n1 G) d kd l= .ok l':=by
 intro l
 induction l with
 |nil=>simp_all [acM]
 |cons b l ih=>
  obtain ⟨l',e'⟩:=ih
  obtain ⟨o,e⟩:=ale (G:=G) d kd b
  grind [acM,aD]
theorem ali (d kd:Int): ∀ (a b:List (Br Tm)),acM fo fa d kd (a++b)=bE (acM fo fa d kd a) fun a'=>bE (acM fo fa d kd b) fun b'=> .ok (a'++b'):=by
 intro a
 induction a with
 |nil=>intro b;rw [List.nil_append,acM,aD];cases acM fo fa d kd b<;>rfl
 |cons x a ih=>
  intro b
  rw [List.cons_append,acM,acM,ih]
  cases amn fo fa d kd x with
  |error e=>rfl
  |ok o=>
   rw [aD,aD]
   cases acM fo fa d kd a with
   |error e=>rfl
   |ok a'=>
    rw [aD,aD]
    cases acM fo fa d kd b with
    |error e=>rfl
    |ok b'=>grind [aD]
theorem alm (hfa: ∀d f g,RF f→fa d f= .ok g→RF g) (hG: ∀d f,RF f→((G d f).length=0↔f.length=0)) (t:Tm): ∀d,RowsT t→bE (ab7 fo fa d t) (ab7 (n1 G) (n1 G) d)=ab7 (da fo G) (da fa G) d t:=by
 induction t using gq with
 |h kd n nm r ks sys ih1 ih2=>
  intro d hrows
  rw [RowsT] at hrows
  obtain ⟨_,hrk,hrs⟩:=hrows
  have hk: ∀ {l:List Tm} {i:Nat},(∀x∈l,∀d,RowsT x→bE (ab7 fo fa d x) (ab7 (n1 G) (n1 G) d)=ab7 (da fo G) (da fa G) d x)→dQ l→bE (aig fo fa d kd i l) (aig (n1 G) (n1 G) d kd i)=aig (da fo G) (da fa G) d kd i l:=by
   intro l
   induction l with
   |nil=>grind [aig,aD]
   |cons t l ih=>
    intro i h hr
    rw [dQ] at hr
    have h1:=h t (by simp) (d+bJ kd i) hr.1
    have h2:=ih (i:=i+1) (fun x hx=>h x (by simp [hx])) hr.2
    rw [aig,aig,←h1,←h2]
    cases ab7 fo fa (d+bJ kd i) t with
    |error e=>rfl
    |ok t'=>
     rw [aD,aD]
     obtain ⟨t'',e⟩:=B5 (G:=G) t' (d+bJ kd i)
     rw [e,aD]
     cases aig fo fa d kd (i+1) l with
     |error e=>rfl
     |ok l'=>
      grind [aD,aig]
  have hm: ∀ {l:List Tm},(∀x∈l,∀d,RowsT x→bE (ab7 fo fa d x) (ab7 (n1 G) (n1 G) d)=ab7 (da fo G) (da fa G) d x)→dQ l→bE (akP fo fa d kd l) (akP (n1 G) (n1 G) d kd)=akP (da fo G) (da fa G) d kd l:=by
   intro l
   induction l with
   |nil=>grind [akP,aD]
   |cons t l ih=>
    intro h hr
    rw [dQ] at hr
    have h1:=h t (by simp) (d+av kd) hr.1
    have h2:=ih (fun x hx=>h x (by simp [hx])) hr.2
    rw [akP,akP,←h1,←h2]
    cases ab7 fo fa (d+av kd) t with
    |error e=>rfl
    |ok t'=>
     rw [aD,aD]
     obtain ⟨t'',e⟩:=B5 (G:=G) t' (d+av kd)
     rw [e,aD]
     cases akP fo fa d kd l with
     |error e=>rfl
     |ok l'=>
      grind [aD,akP]
  have hb: ∀ {b:Br Tm},(∀x∈b.kids,∀d,RowsT x→bE (ab7 fo fa d x) (ab7 (n1 G) (n1 G) d)=ab7 (da fo G) (da fa G) d x)→mZ b→bE (amn fo fa d kd b) (acM (n1 G) (n1 G) d kd)=amn (da fo G) (da fa G) d kd b:=by
   intro b h hr
   cases b with
   |mk f ks'=>
    rw [mZ] at hr
    have h2:=hm h hr.2
    rw [amn,amn]
    show _=bE (bE (fa d f) fun m=> .ok (G d m)) _
    cases hf:fa d f with
    |error e=>rfl
    |ok f'=>
     rw [aD,aD,aD]
     have hg:=hG d f' (hfa d f f' hr.1 hf)
     by_cases h0:f'.length=0
     ·grind [aD,acM]
     ·rw [if_neg h0,if_neg (fun h=>h0 (hg.1 h)),←h2]
      cases akP fo fa d kd ks' with
      |error e=>rfl
      |ok l'=>
       rw [aD,aD,aD,acM,amn]
       show bE (bE (.ok (G d f')) _) _=_
       rw [aD,if_neg (fun h=>h0 (hg.1 h))]
       obtain ⟨l'',e⟩:=Ui (G:=G) d kd l'
       grind [aD,acM]
  have hs: ∀ {l:List (Br Tm)},(∀b∈l,∀x∈b.kids,∀d,RowsT x→bE (ab7 fo fa d x) (ab7 (n1 G) (n1 G) d)=ab7 (da fo G) (da fa G) d x)→eA l→bE (acM fo fa d kd l) (acM (n1 G) (n1 G) d kd)=acM (da fo G) (da fa G) d kd l:=by
   intro l
   induction l with
   |nil=>grind [acM,aD]
   |cons b l ih=>
    intro h hr
    rw [eA] at hr
    have h1:=hb (h b (by simp)) hr.1
    have h2:=ih (fun b hb=>h b (by simp [hb])) hr.2
    rw [acM,acM,←h1,←h2]
    cases amn fo fa d kd b with
    |error e=>rfl
    |ok o=>
     rw [aD,aD]
     obtain ⟨o',e⟩:=alj (G:=G) d kd o
     rw [e,aD]
     cases acM fo fa d kd l with
     |error e=>rfl
     |ok l'=>
      grind [aD,ali]
  rw [ab7,ab7,←hk (i:=0) ih1 hrk,←hs ih2 hrs]
  have hrow:(if kd=14 then da fa G d r else da fo G d r)=bE (if kd=14 then fa d r else fo d r) fun m=> .ok (G d m):=by split<;>rfl
  rw [hrow]
  cases (if kd=14 then fa d r else fo d r) with
  |error e=>rfl
  |ok r'=>
   rw [aD,aD,aD]
   cases aig fo fa d kd 0 ks with
   |error e=>rfl
   |ok ks'=>
    rw [aD,aD]
    obtain ⟨ks'',ek⟩:=alg (G:=G) d kd ks' 0
    rw [ek,aD]
    cases acM fo fa d kd sys with
    |error e=>rfl
    |ok sys'=>
     grind [aD,ab7,n1]
end
end Go.Proofs.YtfkkpkhfjpaafaaGreatDoor
namespace Go.Proofs.YtfkkpkhfjpaafaaGreatDoor
open Go PI
set_option linter.unusedVariables false
set_option linter.unusedSimpArgs false
set_option maxRecDepth 20000
variable {S:Type} {k:Nat}
theorem Ly (kd:Int):(kd<0∨kd>28)∨(∃n:Nat,n<29∧kd=n):=by
 by_cases h:kd<0∨kd>28
 ·omega
 ·exact .inr ⟨kd.toNat,by omega,by omega⟩
theorem aiR (kd:Int) (ret:Int→Option S):zA k kd ret=ret (ct kd):=by
 simp only [zA,TQ]
 rcases Ly kd with h|⟨n,hn,rfl⟩
 ·simp only [cH,beq_iff_eq]
  unfold ct
  rw [if_pos h]
  repeat rw [if_neg (by omega)]
 ·unfold ct
  rw [if_neg (by omega),Int.toNat_natCast]
  match n,hn with
  |0,_=>rfl
  |1,_=>rfl
  |2,_=>rfl
  |3,_=>rfl
  |4,_=>rfl
  |5,_=>rfl
  |6,_=>rfl
  |7,_=>rfl
  |8,_=>rfl
  |9,_=>rfl
  |10,_=>rfl
  |11,_=>rfl
  |12,_=>rfl
  |13,_=>rfl
  |14,_=>rfl
  |15,_=>rfl
  |16,_=>rfl
  |17,_=>rfl
  |18,_=>rfl
  |19,_=>rfl
  |20,_=>rfl
  |21,_=>rfl
  |22,_=>rfl
  |23,_=>rfl
  |24,_=>rfl
  |25,_=>rfl
  |26,_=>rfl
  |27,_=>rfl
  |28,_=>rfl
  |n+29,h=>omega
theorem RL (kd:Int) (ret:Int→Option S):pw k kd ret=ret (ct kd):=by
 simp only [pw,Tr,aY]
 unfold ct
 rcases Ly kd with h|⟨n,hn,rfl⟩
 ·grind
 ·rw [if_neg (by omega),if_neg (by omega),if_neg (by omega),yq (by omega),pU,Int.toNat_natCast]
  simp_all [kidsT]
theorem jE (kd i:Int) (ret:Int×Int→Option S):gI k kd i ret=ret (bz kd i,bJ kd i):=by
 simp only [gI,TN,cH,beq_iff_eq]
 grind [bz,bJ]
theorem anP (hk:Fu k) (kd i:Int) (ret:Int×Int→Option S):am0 k kd i ret=ret (bz kd i,bJ kd i):=by
 obtain ⟨q,rfl⟩: ∃q,k=q+1:=⟨k-1,by omega⟩
 simp only [am0,Im,E8,xK,Am,Dd,cH,beq_iff_eq]
 grind [bz,bJ]
theorem Q8 (kd:Int) (ret:Int→Option S):lJ k kd ret=ret (cz kd):=by
 grind [lJ,TR,cH,cz]
theorem RO (kd:Int) (ret:Int→Option S):px k kd ret=ret (cz kd):=by
 grind [px,Tt,cH,cz]
theorem BE (kd:Int) (ret:Int→Option S):am2 k kd ret=ret (av kd):=by
 grind [am2,Ts,cH,av]
theorem Jq (s t:ByteArray):(s==t)=decide (s=t):=by
 obtain ⟨a⟩:=s;obtain ⟨b⟩:=t
 show (a==b)=_
 grind
theorem FO (s:ByteArray):(s==ByteArray.empty)=decide (s.size=0):=by
 simp_all [Jq]
theorem rN (s:ByteArray):(s.size:Int)=(s.data.toList.length:Int):=by
 rfl
def js (p:List UInt8) (r:List UInt8):Bool:=match p with
 |[]=>oe r
 |_::_=>r.all fun d=>kP d||pG d
theorem NI (p:List UInt8) (x:UInt8) (r:List UInt8):js p (x::r)=((kP x||(decide (p≠[])&&pG x))&&js (p++[x]) r):=by
 cases p<;>grind [js,oe]
theorem NJ {p:List UInt8}:js p []=decide (p.length≠0):=by
 cases p with
 |nil=>rfl
 |cons c l=>rfl
theorem afb (hk:Fu k) (ret:Bool→Option S) {s:ByteArray} (hs:s.size<2147483648):
  ∀ (r p:List UInt8) (m:Nat),s.data.toList=p++r→r.length<m→n7 k ret s m (p.length:Int)=ret (js p r):=by
 obtain ⟨q,rfl⟩: ∃q,k=q+1:=⟨k-1,by omega⟩
 have hs':s.data.toList.length<2147483648:=by simp_all
 intro r
 induction r with
 |nil=>
  grind [km,n7,tv,rN,ad,FO,NJ]
 |cons x r ih=>
  intro p m h hm
  obtain ⟨m,rfl,hm'⟩:=km hm
  obtain ⟨e1,e2,e3,e4⟩:=ln h (by omega)
  have hi:=ih (p++[x]) m e4 hm'
  rw [NI]
  simp only [n7,tv,rN,e1,ae,e2,Option.bind_some,aY,Aq,Dk,e3,hi]
  have hl: ∀b:Bool,b=kP x→ab (!b) (ab (((p.length:Nat):Int)==0) (ret false) (if ((x.toNat:Nat):Int)<48 then ret false else if ((x.toNat:Nat):Int)>57 then ret false else ret (js (p++[x]) r))) (ret (js (p++[x]) r))=ret ((kP x||(decide (p≠[])&&pG x))&&js (p++[x]) r):=by
   grind [cH,List.length_pos_iff,pG]
  grind [kP]
theorem ajo (hk:Fu k) {s:ByteArray} (hs:s.size<2147483648) (ret:Bool→Option S):zC k s ret=ret (oe s.data.toList):=by
 simp only [zC,IY]
 have:=afb hk ret hs s.data.toList [] k rfl (by grind [rN])
 exact this
theorem afQ (hk:Fu k) (ret:Bool→Option S) {s:ByteArray} (hs:s.size<2147483648):
  ∀ (r p:List UInt8) (m:Nat),s.data.toList=p++r→r.length<m→ang k ret s m (p.length:Int)=ret (js p r):=by
 obtain ⟨q,rfl⟩: ∃q,k=q+1:=⟨k-1,by omega⟩
 have hs':s.data.toList.length<2147483648:=by simp_all
 intro r
 induction r with
 |nil=>
  intro p m h hm
  obtain ⟨m,rfl,hm'⟩:=km hm
  simp only [ang,s8,rN,akb h,ad,NJ]
  rw [h,List.append_nil]
  congr 1
  grind
 |cons x r ih=>
  intro p m h hm
  obtain ⟨m,rfl,hm'⟩:=km hm
  obtain ⟨e1,e2,e3,e4⟩:=ln h (by omega)
  have hi:=ih (p++[x]) m e4 hm'
  rw [NI]
  have hb: ∀n:Nat,(((n:Nat):Int)==95)=decide (n=95):=fun n=>by
   grind
  simp only [ang,s8,rN,e1,ae,e2,Option.bind_some,aY,An,De,e3,hi,hb]
  have hlt:kP x=(decide (97≤x.toNat)&&decide (x.toNat≤122)||decide (65≤x.toNat)&&decide (x.toNat≤90)||decide (x.toNat=95)):=rfl
  have hdt:pG x=(decide (48≤x.toNat)&&decide (x.toNat≤57)):=rfl
  generalize js (p++[x]) r=z
  have hj:(ab (!decide (x.toNat=95)) (if ((x.toNat:Nat):Int)<97 then if ((x.toNat:Nat):Int)<65 then ret false else if ((x.toNat:Nat):Int)>90 then ret false else ret z
    else if ((x.toNat:Nat):Int)>122 then if ((x.toNat:Nat):Int)<65 then ret false else if ((x.toNat:Nat):Int)>90 then ret false else ret z else ret z) (ret z))=ret (kP x&&z):=by
   grind [ad,decide_eq_false,ae]
  grind [List.length_pos_iff]
theorem ajV (hk:Fu k) {s:ByteArray} (hs:s.size<2147483648) (ret:Bool→Option S):zo k s ret=ret (oe s.data.toList):=by
 simp only [zo,Iu]
 have:=afQ hk ret hs s.data.toList [] k rfl (by grind [rN])
 exact this
end Go.Proofs.YtfkkpkhfjpaafaaGreatDoor
