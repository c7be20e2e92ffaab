/- Part 4 of a proof: the sources, with their names and remarks, lie in wip/. -/
import Derived.Test.YtfkkpkhfjpaafaaGreatDoorX3
import Derived.KernelRfl
namespace Go.Proofs.YtfkkpkhfjpaafaaGreatDoor
open Go PI
set_option linter.unusedVariables false
set_option maxRecDepth 100000
noncomputable section
def GT {S:Type} (k:Nat):Rw S:=aj eo xn fun f κ=>aa k (ph k f) (az κ)
def WN {S:Type} (k:Nat):Fx S:=fp 9 [(74,Bj k),(125,Qf k)] [] k Tryz.f263 0
theorem Ky {S:Type} (o:Obj) (ho:ai o) (k:Nat):Tl o 263 (GT k:Rw S):=ak (WN k) ⟨Eo o ho k,acq o ho k,trivial⟩ Tryz.func263 (by kernel_rfl) fun f κ x h=>Eq.trans (by kernel_rfl) (al h)
def Qh {S:Type} (k:Nat):Rw S:=aj eo xn fun f κ=>aa k (yQ k f) (az κ)
def WP {S:Type} (k:Nat):Fx S:=fp 15 [(124,Bd k),(263,GT k)] [] k Tryz.f297 0
theorem acs {S:Type} (o:Obj) (ho:ai o) (k:Nat):Tl o 297 (Qh k:Rw S):=ak (WP k) ⟨Ei o ho k,Ky o ho k,trivial⟩ Tryz.func297 (by kernel_rfl) fun f κ x h=>Eq.trans (by kernel_rfl) (al h)
def Qi {S:Type} (k:Nat):Rw S:=aj eo xn fun f κ=>aa k (yI k f) (az κ)
def WQ {S:Type} (k:Nat):Fx S:=fp 18 [(266,GQ k),(297,Qh k)] [] k Tryz.f268 0
theorem act {S:Type} (o:Obj) (ho:ai o) (k:Nat):Tl o 268 (Qi k:Rw S):=ak (WQ k) ⟨Kv o ho k,acs o ho k,trivial⟩ Tryz.func268 (by kernel_rfl) fun f κ x h=>Eq.trans (by kernel_rfl) (al h)
def Qj {S:Type} (k:Nat):Rw S:=aj Aj xn fun f i a_r κ=>aa k (yJ k f i a_r) (az κ)
def sh {S:Type} (k:Nat):Fx S:=fp 92 [(120,ow k),(122,GI k),(214,Ba k),(219,vQ k),(265,P8 k),(266,GQ k),(267,Qb k),(268,Qi k),(269,Qc k)] [(5,aS [1,2,8,27,28,29] [],ap 6 23),(1000018,aS [1,2,8,11,13,27,28,29] [],ap 16 63895)] k Tryz.f222 0
def vn (i:Int) (a_r f:List Cl) (v29:Int) (v8:List Cl):St UU:=⟨[(1,(iI i)),(2,(sC a_r)),(8,(sC v8)),(27,(sC f)),(28,(.int .i64 (f.length:Int))),(29,(iI v29))],[],[],[]⟩
def Nu (i:Int) (a_r f:List Cl) (v29:Int) (v8:List Cl) (g11:List Cl) (v13:Int):St UU:=⟨[(1,(iI i)),(2,(sC a_r)),(8,(sC v8)),(11,(sC g11)),(13,(iI v13)),(27,(sC f)),(28,(.int .i64 (f.length:Int))),(29,(iI v29))],[],[],[]⟩
section
variable {S:Type} (k:Nat) (f:List Cl) (i:Int) (a_r:List Cl) (κ:Out UU→Option S)
theorem Zk (v29 v8 κ0): ∀n g11 v13,(sh k).jn κ 1000018 [κ0] n (Nu i a_r f v29 v8 g11 v13)=p7 k (az κ) (fun v29 v8=>κ0 (vn i a_r f v29 v8)) i a_r f v29 v8 n g11 v13:=Lb (wU k (az κ) i a_r f v29 v8 (fun v29 v8=>κ0 (vn i a_r f v29 v8))) rfl (fun _=>rfl) (fun g11 v13=>by kernel_rfl)
theorem Zj: ∀n v29 v8,(sh k).lp κ 5 [] n (vn i a_r f v29 v8)=lY k (az κ) i a_r f n v29 v8:=aL (fun own=>sr k (az κ) i a_r f (fun v29 v8 g11 v13=>p7 k (az κ) own i a_r f v29 v8 k g11 v13) own) rfl (fun _=>rfl) fun r v29 v8=>Eq.trans (b:=sr k (az κ) i a_r f (fun v29 v8 g11 v13=>(sh k).jn κ 1000018 [r] k (Nu i a_r f v29 v8 g11 v13)) (fun v29 v8=>r (vn i a_r f v29 v8)) v29 v8) (by kernel_rfl) (by simp only [Zk])
end
theorem acu {S:Type} (o:Obj) (ho:ai o) (k:Nat):Tl o 222 (Qj k:Rw S):=ak (sh k) ⟨pL o ho k,Km o ho k,Ef o ho k,zP o ho k,aci o ho k,Kv o ho k,acm o ho k,act o ho k,acn o ho k,trivial⟩ Tryz.func222 (by kernel_rfl) fun f i a_r κ x h=>Eq.trans (b:=HH k (az κ) (fun v29 v8=>(sh k).lp κ 5 [] k (vn i a_r f v29 v8)) f i a_r) (by kernel_rfl) (Eq.trans (by simp only [Zj];rfl) (al h))
def GU {S:Type} (k:Nat):Rw S:=aj E2 alu fun f depth c0 c1 κ=>aa k (tF k f depth c0 c1) (ah9 c0 c1 κ)
def WR {S:Type} (k:Nat):Fx S:=fp 38 [(75,oz k),(158,Bb k),(219,vQ k),(220,GO k),(222,Qj k)] [] k Tryz.f218 3
theorem Kz {S:Type} (o:Obj) (ho:ai o) (k:Nat):Tl o 218 (GU k:Rw S):=ak (WR k) ⟨pN o ho k,Eg o ho k,zP o ho k,Kt o ho k,acu o ho k,trivial⟩ Tryz.func218 (by kernel_rfl) fun f depth c0 c1 κ x h=>Eq.trans (by kernel_rfl) (al h)
def Qk {S:Type} (k:Nat):Rw S:=aj fU xn fun i κ=>aa k (yP k i) (az κ)
def WS {S:Type} (k:Nat):Fx S:=fp 12 [(258,Bg k),(259,vP k)] [] k Tryz.f260 0
theorem acv {S:Type} (o:Obj) (ho:ai o) (k:Nat):Tl o 260 (Qk k:Rw S):=ak (WS k) ⟨Em o ho k,zO o ho k,trivial⟩ Tryz.func260 (by kernel_rfl) fun i κ x h=>Eq.trans (by kernel_rfl) (al h)
def Ql {S:Type} (k:Nat):Rw S:=aj jk xn fun f g κ=>aa k (na k f g) (az κ)
def WT {S:Type} (k:Nat):Fx S:=fp 14 [(129,jz k)] [] k Tryz.f264 0
theorem acw {S:Type} (o:Obj) (ho:ai o) (k:Nat):Tl o 264 (Ql k:Rw S):=ak (WT k) ⟨j_ o ho k,trivial⟩ Tryz.func264 (by kernel_rfl) fun f g κ x h=>Eq.trans (by kernel_rfl) (al h)
def Qm {S:Type} (k:Nat):Rw S:=aj adS wD fun a_have c c0 c1 κ=>aa k (yS k a_have c c0 c1) (vB c0 c1 κ)
def WU {S:Type} (k:Nat):Fx S:=fp 63 [(214,Ba k),(219,vQ k),(262,GS k),(263,GT k),(264,Ql k)] [] k Tryz.f261 2
theorem acx {S:Type} (o:Obj) (ho:ai o) (k:Nat):Tl o 261 (Qm k:Rw S):=ak (WU k) ⟨Ef o ho k,zP o ho k,Kx o ho k,Ky o ho k,acw o ho k,trivial⟩ Tryz.func261 (by kernel_rfl) fun a_have c c0 c1 κ x h=>Eq.trans (by kernel_rfl) (al h)
def Qn {S:Type} (k:Nat):Rw S:=aj adT wD fun l a_from c0 c1 κ=>aa k (DO k l a_from c0 c1) (vB c0 c1 κ)
def C8 {S:Type} (k:Nat):Fx S:=fp 33 [(261,Qm k)] [(2,aS [1,2,13,14,15] [(1000000,1),(1000001,1)],ap 4 5)] k Tryz.f125 2
def Nv (c0:Int) (c1 l:List Cl) (v1:List Cl) (v15:Int):St UU:=⟨[(1,(sC v1)),(2,(.func 261 [] [(pt 1000000),(pt 1000001)])),(13,(sC l)),(14,(.int .i64 (l.length:Int))),(15,(iI v15))],[(1000000,bI c0),(1000001,.cells [(sC c1)])],[],[]⟩
section
variable {S:Type} (k:Nat) (l a_from:List Cl) (c0:Int) (c1:List Cl) (κ:Out UU→Option S)
theorem Zl: ∀n v1 v15,(C8 k).lp κ 2 [] n (Nv c0 c1 l v1 v15)=qc k (vB c0 c1 κ) c0 c1 l n v1 v15:=aL (wZ k (vB c0 c1 κ) c0 c1 l) rfl (fun _=>rfl) fun r v1 v15=>by kernel_rfl
end
theorem acy {S:Type} (o:Obj) (ho:ai o) (k:Nat):Tl o 125 (Qn k:Rw S):=ak (C8 k) ⟨acx o ho k,trivial⟩ Tryz.func125 (by kernel_rfl) fun l a_from c0 c1 κ x h=>Eq.trans (b:=HO k (vB c0 c1 κ) (fun v1 v15=>(C8 k).lp κ 2 [] k (Nv c0 c1 l v1 v15)) l a_from c0 c1) (by kernel_rfl) (Eq.trans (by simp only [Zl];rfl) (al h))
def Qo {S:Type} (k:Nat):Rw S:=aj Aj xn fun f i a_r κ=>aa k (yR k f i a_r) (az κ)
def WV {S:Type} (k:Nat):Fx S:=fp 32 [(124,Bd k),(125,Qn k),(126,GL k),(260,Qk k)] [] k Tryz.f221 0
theorem acz {S:Type} (o:Obj) (ho:ai o) (k:Nat):Tl o 221 (Qo k:Rw S):=ak (WV k) ⟨Ei o ho k,acy o ho k,Kq o ho k,acv o ho k,trivial⟩ Tryz.func221 (by kernel_rfl) fun f i a_r κ x h=>Eq.trans (by kernel_rfl) (al h)
def Qp {S:Type} (k:Nat):Rw S:=aj E2 Uv fun f depth c0 c1 κ=>aa k (yF k f depth c0 c1) (ah_ c0 c1 κ)
def WW {S:Type} (k:Nat):Fx S:=fp 38 [(75,oz k),(158,Bb k),(219,vQ k),(220,GO k),(221,Qo k)] [] k Tryz.f218 3
theorem acA {S:Type} (o:Obj) (ho:ai o) (k:Nat):Tl o 218 (Qp k:Rw S):=ak (WW k) ⟨pN o ho k,Eg o ho k,zP o ho k,Kt o ho k,acz o ho k,trivial⟩ Tryz.func218 (by kernel_rfl) fun f depth c0 c1 κ x h=>Eq.trans (by kernel_rfl) (al h)
def Of {S:Type} (k:Nat):Rw S:=aj E3 Je fun t depth c0 c1 κ=>aa k (yG k t depth c0 c1) (aia c0 c1 κ)
def UC {S:Type} (k:Nat):Fx S:=fp 27 [(218,ol (uy E2 Uv) (Qp k) (GU k))] [] k Tryz.f223 4
theorem aau {S:Type} (o:Obj) (ho:ai o) (k:Nat):Tl o 223 (Of k:Rw S):=ak (UC k) ⟨vw (acA o ho k) (Kz o ho k),trivial⟩ Tryz.func223 (by kernel_rfl) fun t depth c0 c1 κ x h=>Eq.trans (by kernel_rfl) (al h)
def Ga {S:Type} (k:Nat):Rw S:=aj Lm alv fun i c0 κ=>aa k (tG k i c0) (aib c0 κ)
def UD {S:Type} (k:Nat):Fx S:=fp 14 [(36,jA k)] [] k Tryz.f225 1
theorem JS {S:Type} (o:Obj) (ho:ai o) (k:Nat):Tl o 225 (Ga k:Rw S):=ak (UD k) ⟨kc o ho k,trivial⟩ Tryz.func225 (by kernel_rfl) fun i c0 κ x h=>Eq.trans (by kernel_rfl) (al h)
def Gb {S:Type} (k:Nat):Rw S:=aj Lm cu fun p c0 κ=>aa k (tH k p c0) (aic c0 κ)
def UE {S:Type} (k:Nat):Fx S:=fp 5 [] [] k Tryz.f226 1
theorem JT {S:Type} (o:Obj) (ho:ai o) (k:Nat):Tl o 226 (Gb k:Rw S):=ak (UE k) trivial Tryz.func226 (by kernel_rfl) fun p c0 κ x h=>Eq.trans (by kernel_rfl) (al h)
def rn {S:Type} (hd:c8 S):Rw S:=aj E3 Je fun t depth c0 c1 κ=>hd t depth c0 c1 (AT c0 c1 κ)
def Og {S:Type} (hd:c8 S) (k:Nat):Rw S:=aj Ln Uw fun l depth c0 c1 c4 κ=>aa k (DK hd k l depth c0 c1 c4) (AU c0 c1 c4 κ)
def Cf {S:Type} (hd:c8 S) (k:Nat):Fx S:=fp 42 [(163,rn hd),(226,Gb k)] [(3,⟨[(2,.none),(3,.none),(4,.none),(10,some (100010,true)),(15,.none),(16,.none),(17,.none)],[(4,[.none,.none]),(1000000,[.none]),(1000001,[.none]),(1000002,[.none]),(1000003,[.none]),(1000004,[.none])]⟩,ap 5 11)] k Tryz.f224 5
def LS (c0:Int) (c1:List Cl) (c4:Int) (l:List Tm) (depth:Int) (out10:List Tm) (v17:Int):St UU:=⟨[(2,(iI depth)),(3,(.func 226 [] [(pt 1000004)])),(4,(pt 4)),(10,(.own 100010 0)),(15,(sT l)),(16,(.int .i64 (l.length:Int))),(17,(iI v17))],[(4,.cells [(.func 218 [] [(pt 1000000),(pt 1000001),(pt 1000002)]),(.func 218 [] [(pt 1000000),(pt 1000001),(pt 1000003)])]),(1000000,bI c0),(1000001,.cells [(sC c1)]),(1000002,.cells [(.func 221 [] [])]),(1000003,.cells [(.func 222 [] [])]),(1000004,bI c4)],[(100010,⟨0,ET.T,out10⟩)],[(100010,.wr)]⟩
section
variable {S:Type} (hd:c8 S) (k:Nat) (l:List Tm) (depth c0:Int) (c1:List Cl) (c4:Int) (κ:Out UU→Option S)
theorem W6: ∀n out10 v17,(Cf hd k).lp κ 3 [] n (LS c0 c1 c4 l depth out10 v17)=lW hd k (AU c0 c1 c4 κ) c0 c1 c4 l depth n out10 v17:=aL (wQ hd k (AU c0 c1 c4 κ) c0 c1 c4 l depth) rfl (fun _=>rfl) fun r out10 v17=>by kernel_rfl
end
theorem aav {S:Type} (o:Obj) (ho:ai o) (hd:c8 S) (Hd:Tl o 163 (rn hd)) (k:Nat):Tl o 224 (Og hd k:Rw S):=ak (Cf hd k) ⟨Hd,JT o ho k,trivial⟩ Tryz.func224 (by kernel_rfl) fun l depth c0 c1 c4 κ x h=>Eq.trans (b:=HB hd k (AU c0 c1 c4 κ) (fun out10 v17=>(Cf hd k).lp κ 3 [] k (LS c0 c1 c4 l depth out10 v17)) l depth c0 c1 c4) (by kernel_rfl) (Eq.trans (by simp only [W6];rfl) (al h))
def Oh {S:Type} (hd:c8 S) (k:Nat):Rw S:=aj adV alw fun l depth c0 c1 c4 κ=>aa k (DL hd k l depth c0 c1 c4) (AV c0 c1 c4 κ)
def Cg {S:Type} (hd:c8 S) (k:Nat):Fx S:=fp 42 [(163,rn hd),(225,Ga k)] [(3,⟨[(2,.none),(3,.none),(4,.none),(10,some (100010,true)),(15,.none),(16,.none),(17,.none)],[(4,[.none,.none]),(1000000,[.none]),(1000001,[.none]),(1000002,[.none]),(1000003,[.none]),(1000004,[.none,.none,.none,.none,.none,.none])]⟩,ap 5 11)] k Tryz.f224 5
def LU (c0:Int) (c1:List Cl) (c4:Tm) (l:List Tm) (depth:Int) (out10:List Tm) (v17:Int):St UU:=⟨[(2,(iI depth)),(3,(.func 225 [] [(pt 1000004)])),(4,(pt 4)),(10,(.own 100010 0)),(15,(sT l)),(16,(.int .i64 (l.length:Int))),(17,(iI v17))],[(4,.cells [(.func 218 [] [(pt 1000000),(pt 1000001),(pt 1000002)]),(.func 218 [] [(pt 1000000),(pt 1000001),(pt 1000003)])]),(1000000,bI c0),(1000001,.cells [(sC c1)]),(1000002,.cells [(.func 221 [] [])]),(1000003,.cells [(.func 222 [] [])]),(1000004,bT c4)],[(100010,⟨0,ET.T,out10⟩)],[(100010,.wr)]⟩
section
variable {S:Type} (hd:c8 S) (k:Nat) (l:List Tm) (depth c0:Int) (c1:List Cl) (c4:Tm) (κ:Out UU→Option S)
theorem W7: ∀n out10 v17,(Cg hd k).lp κ 3 [] n (LU c0 c1 c4 l depth out10 v17)=lX hd k (AV c0 c1 c4 κ) c0 c1 c4 l depth n out10 v17:=aL (wR hd k (AV c0 c1 c4 κ) c0 c1 c4 l depth) rfl (fun _=>rfl) fun r out10 v17=>by kernel_rfl
end
theorem aaw {S:Type} (o:Obj) (ho:ai o) (hd:c8 S) (Hd:Tl o 163 (rn hd)) (k:Nat):Tl o 224 (Oh hd k:Rw S):=ak (Cg hd k) ⟨Hd,JS o ho k,trivial⟩ Tryz.func224 (by kernel_rfl) fun l depth c0 c1 c4 κ x h=>Eq.trans (b:=HC hd k (AV c0 c1 c4 κ) (fun out10 v17=>(Cg hd k).lp κ 3 [] k (LU c0 c1 c4 l depth out10 v17)) l depth c0 c1 c4) (by kernel_rfl) (Eq.trans (by simp only [W7];rfl) (al h))
def Ce {S:Type} (hd:c8 S) (k:Nat):Fx S:=fp 98 [(218,GU k),(223,Of k),(224,ol (uy Ln Uw) (Og hd k) (Oh hd k))] [(13,⟨[(2,.none),(3,.none),(6,.none),(8,.none),(10,.none),(53,.none),(54,.none),(55,.none)],[(3,[.none,.none]),(6,[.none,.none,.none,some (200387,true),some (200388,true),some (200389,true)]),(8,[.none,.none,.none,.none,.none,some (200517,true)]),(10,[.none]),(1000000,[.none]),(1000001,[.none]),(1000002,[.none]),(1000003,[.none])]⟩,ap 11 767)] k Tryz.f163 4
def LR (c0:Int) (c1:List Cl) (t:Tm) (r1:List Cl×Int) (r2:List Tm×Int) (depth:Int) (b10_0:Int) (b8_5:List (Br Tm)) (v55:Int):St UU:=⟨[(2,(iI depth)),(3,(pt 3)),(6,(pt 6)),(8,(pt 8)),(10,(pt 10)),(53,(sB t.sys)),(54,(.int .i64 (t.sys.length:Int))),(55,(iI v55))],[(3,.cells [(.func 218 [] [(pt 1000000),(pt 1000001),(pt 1000002)]),(.func 218 [] [(pt 1000000),(pt 1000001),(pt 1000003)])]),(6,.cells [(iI 0),(iI 0),(.str ByteArray.empty),(.own 200387 0),(.own 200388 0),(.own 200389 0)]),(8,.cells [(iI t.kind),(iI t.n),(.str t.name),(sC r1.1),(sT r2.1),(.own 200517 0)]),(10,bI b10_0),(1000000,bI c0),(1000001,.cells [(sC c1)]),(1000002,.cells [(.func 221 [] [])]),(1000003,.cells [(.func 222 [] [])])],[(200517,⟨0,ET.B,b8_5⟩),(200389,⟨0,ET.B,([]:List (Br Tm))⟩),(200388,⟨0,ET.T,([]:List Tm)⟩),(200387,⟨0,ET.C,([]:List Cl)⟩)],[(200517,.wr),(200389,.wr),(200388,.wr),(200387,.wr)]⟩
section
variable {S:Type} (hd:c8 S) (k:Nat) (t:Tm) (depth c0:Int) (c1:List Cl) (κ:Out UU→Option S)
theorem W5 (r1 r2): ∀n b10_0 b8_5 v55,(Ce hd k).lp κ 13 [] n (LR c0 c1 t r1 r2 depth b10_0 b8_5 v55)=fV hd k (AT c0 c1 κ) c0 c1 t r1 r2 depth n b10_0 b8_5 v55:=eW (wS hd k (AT c0 c1 κ) c0 c1 t r1 r2 depth) rfl (fun _=>rfl) fun r b10_0 b8_5 v55=>by kernel_rfl
end
theorem EF {S:Type} (o:Obj) (ho:ai o): ∀k:Nat,Tl o 163 (rn (d7 k:c8 S))
 |0=>dz fun t depth c0 c1 κ x h=>by cases h
 |k+1=>ak (Ce (d7 k) k) ⟨Kz o ho k,aau o ho k,vw (aav o ho (d7 k) (EF o ho k) k) (aaw o ho (d7 k) (EF o ho k) k),trivial⟩ Tryz.func163 (by kernel_rfl) fun t depth c0 c1 κ x h=>Eq.trans (b:=HF (d7 k) k (AT c0 c1 κ) (fun r1 r2 b10_0 b8_5 v55=>(Ce (d7 k) k).lp κ 13 [] k (LR c0 c1 t r1 r2 depth b10_0 b8_5 v55)) t depth c0 c1) (by kernel_rfl) (Eq.trans (by simp only [W5];rfl) h)
def Oi {S:Type} (k:Nat):Rw S:=aj fU xn fun i κ=>aa k (DE k i) (aid κ)
def UF {S:Type} (k:Nat):Fx S:=fp 8 [] [] k Tryz.f164 0
theorem aax {S:Type} (o:Obj) (ho:ai o) (k:Nat):Tl o 164 (Oi k:Rw S):=ak (UF k) trivial Tryz.func164 (by kernel_rfl) fun i κ x h=>Eq.trans (by kernel_rfl) (al h)
def Oj {S:Type} (k:Nat):Rw S:=aj lS xn fun s i κ=>aa k (pk k s i) (b_ κ)
def UG {S:Type} (k:Nat):Fx S:=fp 24 [(230,GM k),(257,vL k)] [] k Tryz.f228 0
theorem aay {S:Type} (o:Obj) (ho:ai o) (k:Nat):Tl o 228 (Oj k:Rw S):=ak (UG k) ⟨Kr o ho k,zN o ho k,trivial⟩ Tryz.func228 (by kernel_rfl) fun s i κ x h=>Eq.trans (by kernel_rfl) (al h)
def Gc {S:Type} (k:Nat):Rw S:=aj adW cu fun f depth c0 κ=>aa k (pc k f depth c0) (vC c0 κ)
def Ch {S:Type} (k:Nat):Fx S:=fp 37 [(129,jz k),(228,Oj k)] [(3,⟨[(1,.none),(2,.none),(7,some (100007,true)),(10,.none),(11,.none),(12,.none)],[(1000000,[.none])]⟩,ap 5 11)] k Tryz.f227 1
def LV (c0 depth:Int) (f:List Cl) (v12:Int) (out7:List Cl):St UU:=⟨[(1,(iI depth)),(2,(pt 1000000)),(7,(.own 100007 0)),(10,(sC f)),(11,(.int .i64 (f.length:Int))),(12,(iI v12))],[(1000000,bI c0)],[(100007,⟨0,ET.C,out7⟩)],[(100007,.wr)]⟩
section
variable {S:Type} (k:Nat) (f:List Cl) (depth c0:Int) (κ:Out UU→Option S)
theorem W8: ∀n v12 out7,(Ch k).lp κ 3 [] n (LV c0 depth f v12 out7)=p6 k (vC c0 κ) c0 depth f n v12 out7:=aL (wN k (vC c0 κ) c0 depth f) rfl (fun _=>rfl) fun r v12 out7=>by kernel_rfl
end
theorem JU {S:Type} (o:Obj) (ho:ai o) (k:Nat):Tl o 227 (Gc k:Rw S):=ak (Ch k) ⟨j_ o ho k,aay o ho k,trivial⟩ Tryz.func227 (by kernel_rfl) fun f depth c0 κ x h=>Eq.trans (b:=Hx k (vC c0 κ) (fun v12 out7=>(Ch k).lp κ 3 [] k (LV c0 depth f v12 out7)) f depth c0) (by kernel_rfl) (Eq.trans (by simp only [W8];rfl) (al h))
def Ok {S:Type} (k:Nat):Rw S:=aj Lo cu fun t depth c0 κ=>aa k (yH k t depth c0) (vC c0 κ)
def UH {S:Type} (k:Nat):Fx S:=fp 27 [(227,Gc k)] [] k Tryz.f223 1
theorem aaz {S:Type} (o:Obj) (ho:ai o) (k:Nat):Tl o 223 (Ok k:Rw S):=ak (UH k) ⟨JU o ho k,trivial⟩ Tryz.func223 (by kernel_rfl) fun t depth c0 κ x h=>Eq.trans (by kernel_rfl) (al h)
def rp {S:Type} (hd:c_ S):Rw S:=aj Lo cu fun t depth c0 κ=>hd t depth c0 (AW c0 κ)
def Om {S:Type} (hd:c_ S) (k:Nat):Rw S:=aj Lp B9 fun l depth c0 c1 κ=>aa k (DI hd k l depth c0 c1) (AX c0 c1 κ)
def Cj {S:Type} (hd:c_ S) (k:Nat):Fx S:=fp 42 [(163,rp hd),(226,Gb k)] [(3,⟨[(2,.none),(3,.none),(4,.none),(10,some (100010,true)),(15,.none),(16,.none),(17,.none)],[(4,[.none,.none]),(1000000,[.none]),(1000001,[.none])]⟩,ap 5 11)] k Tryz.f224 2
def LX (c0 c1:Int) (l:List Tm) (depth:Int) (out10:List Tm) (v17:Int):St UU:=⟨[(2,(iI depth)),(3,(.func 226 [] [(pt 1000001)])),(4,(pt 4)),(10,(.own 100010 0)),(15,(sT l)),(16,(.int .i64 (l.length:Int))),(17,(iI v17))],[(4,.cells [(.func 227 [] [(pt 1000000)]),(.func 227 [] [(pt 1000000)])]),(1000000,bI c0),(1000001,bI c1)],[(100010,⟨0,ET.T,out10⟩)],[(100010,.wr)]⟩
section
variable {S:Type} (hd:c_ S) (k:Nat) (l:List Tm) (depth c0 c1:Int) (κ:Out UU→Option S)
theorem W_: ∀n out10 v17,(Cj hd k).lp κ 3 [] n (LX c0 c1 l depth out10 v17)=lU hd k (AX c0 c1 κ) c0 c1 l depth n out10 v17:=aL (wO hd k (AX c0 c1 κ) c0 c1 l depth) rfl (fun _=>rfl) fun r out10 v17=>by kernel_rfl
end
theorem aaB {S:Type} (o:Obj) (ho:ai o) (hd:c_ S) (Hd:Tl o 163 (rp hd)) (k:Nat):Tl o 224 (Om hd k:Rw S):=ak (Cj hd k) ⟨Hd,JT o ho k,trivial⟩ Tryz.func224 (by kernel_rfl) fun l depth c0 c1 κ x h=>Eq.trans (b:=Hz hd k (AX c0 c1 κ) (fun out10 v17=>(Cj hd k).lp κ 3 [] k (LX c0 c1 l depth out10 v17)) l depth c0 c1) (by kernel_rfl) (Eq.trans (by simp only [W_];rfl) (al h))
def On {S:Type} (hd:c_ S) (k:Nat):Rw S:=aj adX alx fun l depth c0 c1 κ=>aa k (DJ hd k l depth c0 c1) (AY c0 c1 κ)
def Ck {S:Type} (hd:c_ S) (k:Nat):Fx S:=fp 42 [(163,rp hd),(225,Ga k)] [(3,⟨[(2,.none),(3,.none),(4,.none),(10,some (100010,true)),(15,.none),(16,.none),(17,.none)],[(4,[.none,.none]),(1000000,[.none]),(1000001,[.none,.none,.none,.none,.none,.none])]⟩,ap 5 11)] k Tryz.f224 2
def LY (c0:Int) (c1:Tm) (l:List Tm) (depth:Int) (out10:List Tm) (v17:Int):St UU:=⟨[(2,(iI depth)),(3,(.func 225 [] [(pt 1000001)])),(4,(pt 4)),(10,(.own 100010 0)),(15,(sT l)),(16,(.int .i64 (l.length:Int))),(17,(iI v17))],[(4,.cells [(.func 227 [] [(pt 1000000)]),(.func 227 [] [(pt 1000000)])]),(1000000,bI c0),(1000001,bT c1)],[(100010,⟨0,ET.T,out10⟩)],[(100010,.wr)]⟩
section
variable {S:Type} (hd:c_ S) (k:Nat) (l:List Tm) (depth c0:Int) (c1:Tm) (κ:Out UU→Option S)
theorem Xa: ∀n out10 v17,(Ck hd k).lp κ 3 [] n (LY c0 c1 l depth out10 v17)=lV hd k (AY c0 c1 κ) c0 c1 l depth n out10 v17:=aL (wP hd k (AY c0 c1 κ) c0 c1 l depth) rfl (fun _=>rfl) fun r out10 v17=>by kernel_rfl
end
theorem aaC {S:Type} (o:Obj) (ho:ai o) (hd:c_ S) (Hd:Tl o 163 (rp hd)) (k:Nat):Tl o 224 (On hd k:Rw S):=ak (Ck hd k) ⟨Hd,JS o ho k,trivial⟩ Tryz.func224 (by kernel_rfl) fun l depth c0 c1 κ x h=>Eq.trans (b:=HA hd k (AY c0 c1 κ) (fun out10 v17=>(Ck hd k).lp κ 3 [] k (LY c0 c1 l depth out10 v17)) l depth c0 c1) (by kernel_rfl) (Eq.trans (by simp only [Xa];rfl) (al h))
def Ci {S:Type} (hd:c_ S) (k:Nat):Fx S:=fp 98 [(223,Ok k),(224,ol (uy Lp B9) (Om hd k) (On hd k)),(227,Gc k)] [(13,⟨[(2,.none),(3,.none),(6,.none),(8,.none),(10,.none),(53,.none),(54,.none),(55,.none)],[(3,[.none,.none]),(6,[.none,.none,.none,some (200387,true),some (200388,true),some (200389,true)]),(8,[.none,.none,.none,.none,.none,some (200517,true)]),(10,[.none]),(1000000,[.none])]⟩,ap 11 767)] k Tryz.f163 1
def LW (c0:Int) (t:Tm) (r1:List Cl×Int) (r2:List Tm×Int) (depth:Int) (b10_0:Int) (b8_5:List (Br Tm)) (v55:Int):St UU:=⟨[(2,(iI depth)),(3,(pt 3)),(6,(pt 6)),(8,(pt 8)),(10,(pt 10)),(53,(sB t.sys)),(54,(.int .i64 (t.sys.length:Int))),(55,(iI v55))],[(3,.cells [(.func 227 [] [(pt 1000000)]),(.func 227 [] [(pt 1000000)])]),(6,.cells [(iI 0),(iI 0),(.str ByteArray.empty),(.own 200387 0),(.own 200388 0),(.own 200389 0)]),(8,.cells [(iI t.kind),(iI t.n),(.str t.name),(sC r1.1),(sT r2.1),(.own 200517 0)]),(10,bI b10_0),(1000000,bI c0)],[(200517,⟨0,ET.B,b8_5⟩),(200389,⟨0,ET.B,([]:List (Br Tm))⟩),(200388,⟨0,ET.T,([]:List Tm)⟩),(200387,⟨0,ET.C,([]:List Cl)⟩)],[(200517,.wr),(200389,.wr),(200388,.wr),(200387,.wr)]⟩
section
variable {S:Type} (hd:c_ S) (k:Nat) (t:Tm) (depth c0:Int) (κ:Out UU→Option S)
theorem W9 (r1 r2): ∀n b10_0 b8_5 v55,(Ci hd k).lp κ 13 [] n (LW c0 t r1 r2 depth b10_0 b8_5 v55)=fW hd k (AW c0 κ) c0 t r1 r2 depth n b10_0 b8_5 v55:=eW (wT hd k (AW c0 κ) c0 t r1 r2 depth) rfl (fun _=>rfl) fun r b10_0 b8_5 v55=>by kernel_rfl
end
theorem EG {S:Type} (o:Obj) (ho:ai o): ∀k:Nat,Tl o 163 (rp (dT k:c_ S))
 |0=>dz fun t depth c0 κ x h=>by cases h
 |k+1=>ak (Ci (dT k) k) ⟨aaz o ho k,vw (aaB o ho (dT k) (EG o ho k) k) (aaC o ho (dT k) (EG o ho k) k),JU o ho k,trivial⟩ Tryz.func163 (by kernel_rfl) fun t depth c0 κ x h=>Eq.trans (b:=HG (dT k) k (AW c0 κ) (fun r1 r2 b10_0 b8_5 v55=>(Ci (dT k) k).lp κ 13 [] k (LW c0 t r1 r2 depth b10_0 b8_5 v55)) t depth c0) (by kernel_rfl) (Eq.trans (by simp only [W9];rfl) h)
def A2 {S:Type} (k:Nat):Rw S:=aj E1 xn fun t i a_r κ=>aa k (m_ k t i a_r) (cM κ)
def UJ {S:Type} (k:Nat):Fx S:=fp 48 [(75,oz k),(161,P4 k),(162,P7 k),(163,ol (uy E3 Je) (rn (d7 k)) (rp (dT k))),(164,Oi k)] [] k Tryz.f123 0
theorem D9 {S:Type} (o:Obj) (ho:ai o) (k:Nat):Tl o 123 (A2 k:Rw S):=ak (UJ k) ⟨pN o ho k,ace o ho k,ach o ho k,vw (EF o ho k) (EG o ho k),aax o ho k,trivial⟩ Tryz.func123 (by kernel_rfl) fun t i a_r κ x h=>Eq.trans (by kernel_rfl) (al h)
def Ge {S:Type} (k:Nat):Rw S:=aj Lq cu fun line a_r c0 κ=>aa k (lr k line a_r c0) (gR κ)
def UK {S:Type} (k:Nat):Fx S:=fp 44 [(54,Bf k),(84,my k),(123,A2 k),(140,oy k)] [] k Tryz.f86 1
theorem JV {S:Type} (o:Obj) (ho:ai o) (k:Nat):Tl o 86 (Ge k:Rw S):=ak (UK k) ⟨Ek o ho k,nq o ho k,D9 o ho k,pM o ho k,trivial⟩ Tryz.func86 (by kernel_rfl) fun line a_r c0 κ x h=>Eq.trans (by kernel_rfl) (al h)
def Oo {S:Type} (k:Nat):Rw S:=aj pX xn fun t a sys κ=>aa k (yy k t a sys) (cM κ)
def Cm {S:Type} (k:Nat):Fx S:=fp 76 [(80,GK k),(81,GJ k),(82,Bc k),(83,PY k),(84,my k),(85,PZ k),(86,Ge k),(87,GN k)] [(4,⟨[(4,.none),(6,.none),(8,.none),(9,.none),(27,.none),(28,.none),(29,.none)],[(4,[.none,.none,.none,.none,.none,.none]),(6,[.none,.none,.none,some (200387,true),some (200388,true),some (200389,true)]),(9,[.none,.none,.none,some (200579,true),.none,some (200581,true)]),(19000,[.none])]⟩,ap 6 23)] k Tryz.f52 0
def LZ (a:Tm) (r5:Int×Int×ByteArray×List Tm) (sys:List (Br Tm)) (b19000_0:Int) (b9_5:List (Br Tm)) (v29:Int):St UU:=⟨[(4,(pt 4)),(6,(pt 6)),(8,(pt 19000)),(9,(pt 9)),(27,(sB sys)),(28,(.int .i64 (sys.length:Int))),(29,(iI v29))],[(4,bT a),(6,.cells [(iI 0),(iI 0),(.str ByteArray.empty),(.own 200387 0),(.own 200388 0),(.own 200389 0)]),(9,.cells [(iI r5.1),(iI r5.2.1),(.str r5.2.2.1),(.own 200579 0),(sT r5.2.2.2),(.own 200581 0)]),(19000,bI b19000_0)],[(200581,⟨0,ET.B,b9_5⟩),(200579,⟨0,ET.C,([]:List Cl)⟩),(200389,⟨0,ET.B,([]:List (Br Tm))⟩),(200388,⟨0,ET.T,([]:List Tm)⟩),(200387,⟨0,ET.C,([]:List Cl)⟩)],[(200581,.wr),(200579,.wr),(200389,.wr),(200388,.wr),(200387,.wr)]⟩
section
variable {S:Type} (k:Nat) (t a:Tm) (sys:List (Br Tm)) (κ:Out UU→Option S)
theorem Xb (r5): ∀n b19000_0 b9_5 v29,(Cm k).lp κ 4 [] n (LZ a r5 sys b19000_0 b9_5 v29)=gM k (cM κ) a r5 sys n b19000_0 b9_5 v29:=eW (oQ k (cM κ) a r5 sys) rfl (fun _=>rfl) fun r b19000_0 b9_5 v29=>by kernel_rfl
end
theorem aaD {S:Type} (o:Obj) (ho:ai o) (k:Nat):Tl o 52 (Oo k:Rw S):=ak (Cm k) ⟨Kp o ho k,Ko o ho k,Eh o ho k,ab8 o ho k,nq o ho k,ab9 o ho k,JV o ho k,Ks o ho k,trivial⟩ Tryz.func52 (by kernel_rfl) fun t a sys κ x h=>Eq.trans (b:=Hr k (cM κ) (fun r5 b19000_0 b9_5 v29=>(Cm k).lp κ 4 [] k (LZ a r5 sys b19000_0 b9_5 v29)) t a sys) (by kernel_rfl) (Eq.trans (by simp only [Xb];rfl) (al h))
def jx {S:Type} (k:Nat):Rw S:=aj Lr cu fun t a_e c0 κ=>aa k (fP k t a_e c0) (gR κ)
def UL {S:Type} (k:Nat):Fx S:=fp 23 [] [] k Tryz.f51 1
theorem j8 {S:Type} (o:Obj) (ho:ai o) (k:Nat):Tl o 51 (jx k:Rw S):=ak (UL k) trivial Tryz.func51 (by kernel_rfl) fun t a_e c0 κ x h=>Eq.trans (by kernel_rfl) (al h)
def Oq {S:Type} (k:Nat):Rw S:=aj Ls cu fun t a sys c0 κ=>aa k (y_ k t a sys c0) (gR κ)
def UM {S:Type} (k:Nat):Fx S:=fp 21 [(50,jB k),(51,jx k),(52,Oo k)] [] k Tryz.f23 1
theorem aaE {S:Type} (o:Obj) (ho:ai o) (k:Nat):Tl o 23 (Oq k:Rw S):=ak (UM k) ⟨ke o ho k,j8 o ho k,aaD o ho k,trivial⟩ Tryz.func23 (by kernel_rfl) fun t a sys c0 κ x h=>Eq.trans (by kernel_rfl) (al h)
def Ot {S:Type} (k:Nat):Rw S:=aj EZ B_ fun c0 c1 c2 κ=>aa k (yY k c0 c1 c2) (N_ c0 c1 c2 κ)
def UN {S:Type} (k:Nat):Fx S:=fp 10 [(90,vO (dk k))] [] k Tryz.f89 3
theorem aaF {S:Type} (o:Obj) (ho:ai o) (k:Nat):Tl o 89 (Ot k:Rw S):=ak (UN k) ⟨Ab o ho k,trivial⟩ Tryz.func89 (by kernel_rfl) fun c0 c1 c2 κ x h=>Eq.trans (by kernel_rfl) (al h)
def Ou {S:Type} (k:Nat):Rw S:=aj adY B_ fun t numbers c0 c1 c2 κ=>aa k (y6 k t numbers c0 c1 c2) (mt c0 c1 c2 κ)
def Cn {S:Type} (k:Nat):Fx S:=⟨⟨30,(fun _=>[]),(fun _=>false),.none,fun|6=>true|7=>true|_=>false⟩,[(21,iJ k),(89,Ot k)],[(5,⟨[(2,.none),(6,.none),(7,.none),(17,.none),(18,.none),(19,.none)],[(1000000,[.none]),(1000001,[.none,.none,.none,.none,.none,.none]),(1000002,[.none]),(5000006,[.none,.none,.none,some (320200387,true),some (320200388,true),some (320200389,true)]),(5000007,[.none])]⟩,ap 5 11)],k,Tryz.f88,false,[],3,some (o9 16 141 Tryz.f141 k)⟩
def L0 (c0:Int) (c1:Tm) (c2:Int) (numbers:List Int) (v19:Int):St UU:=⟨[(2,(.func 89 [] [(pt 1000000),(pt 1000001),(pt 1000002)])),(6,(pt 5000006)),(7,(pt 5000007)),(17,(la numbers .none)),(18,(.int .i64 (numbers.length:Int))),(19,(iI v19))],[(1000000,bI c0),(1000001,bT c1),(1000002,bI c2),(5000006,.cells [(iI 0),(iI 0),(.str ByteArray.empty),(.own 320200387 0),(.own 320200388 0),(.own 320200389 0)]),(5000007,bI 0)],[(320200389,⟨0,ET.B,([]:List (Br Tm))⟩),(320200388,⟨0,ET.T,([]:List Tm)⟩),(320200387,⟨0,ET.C,([]:List Cl)⟩)],[(320200389,.wr),(320200388,.wr),(320200387,.wr)]⟩
section
variable {S:Type} (k:Nat) (t:Tm) (numbers:List Int) (c0:Int) (c1:Tm) (c2:Int) (κ:Out UU→Option S)
theorem Xc: ∀n v19,(Cn k).lp κ 5 [] n (L0 c0 c1 c2 numbers v19)=nD k (mt c0 c1 c2 κ) c0 c1 c2 numbers n v19:=cF (xb k (mt c0 c1 c2 κ) c0 c1 c2 numbers) rfl (fun _=>rfl) fun r v19=>by kernel_rfl
end
theorem aaG {S:Type} (o:Obj) (ho:ai o) (k:Nat):Tl o 88 (Ou k:Rw S):=BZ (Cn k) rfl (yn o Tryz.func141 (by kernel_rfl)) ⟨jh o ho k,aaF o ho k,trivial⟩ Tryz.func88 (by kernel_rfl) fun t numbers c0 c1 c2 κ x h=>Eq.trans (b:=BR k (mt c0 c1 c2 κ) (fun v19=>(Cn k).lp κ 5 [] k (L0 c0 c1 c2 numbers v19)) t numbers c0 c1 c2) (by kernel_rfl) (Eq.trans (by simp only [Xc];rfl) (al h))
def Ow {S:Type} (k:Nat):Rw S:=aj amR xn fun t a_from a_by κ=>aa k (pj k t a_from a_by) (cM κ)
def UP {S:Type} (k:Nat):Fx S:=fp 18 [(88,Ou k)] [] k Tryz.f53 0
theorem aaI {S:Type} (o:Obj) (ho:ai o) (k:Nat):Tl o 53 (Ow k:Rw S):=ak (UP k) ⟨aaG o ho k,trivial⟩ Tryz.func53 (by kernel_rfl) fun t a_from a_by κ x h=>Eq.trans (by kernel_rfl) (al h)
def Ox {S:Type} (k:Nat):Rw S:=aj E0 cu fun t vars dims c0 κ=>aa k (y8 k t vars dims c0) (gR κ)
def UQ {S:Type} (k:Nat):Fx S:=fp 32 [(50,jB k),(51,jx k),(53,Ow k),(54,Bf k)] [] k Tryz.f24 1
theorem aaJ {S:Type} (o:Obj) (ho:ai o) (k:Nat):Tl o 24 (Ox k:Rw S):=ak (UQ k) ⟨ke o ho k,j8 o ho k,aaI o ho k,Ek o ho k,trivial⟩ Tryz.func24 (by kernel_rfl) fun t vars dims c0 κ x h=>Eq.trans (by kernel_rfl) (al h)
def vD {S:Type} (hd:dq S):Rw S:=aj dV xn fun t κ=>hd t (aE κ)
def Oy {S:Type} (hd:dq S) (k:Nat):Rw S:=aj Ah cu fun a_k p p' c0 κ=>aa k (ug hd k a_k p p' c0) (cO κ)
def US {S:Type} (hd:dq S) (k:Nat):Fx S:=fp 12 [(92,vD hd)] [] k Tryz.f143 1
theorem aaK {S:Type} (o:Obj) (ho:ai o) (hd:dq S) (Hd:Tl o 92 (vD hd)) (k:Nat):Tl o 143 (Oy hd k:Rw S):=ak (US hd k) ⟨Hd,trivial⟩ Tryz.func143 (by kernel_rfl) fun a_k p p' c0 κ x h=>Eq.trans (by kernel_rfl) (al h)
def Oz {S:Type} (hd:dq S) (k:Nat):Rw S:=aj adZ cu fun t c0 κ=>aa k (DY hd k t c0) (cO κ)
def mI {S:Type} (hd:dq S) (k:Nat):Fx S:=fp 60 [(36,jA k),(143,Oy hd k)] [(2,aS [1,2,15,16,17] [(2,6),(1000000,1)],ap 4 5),(12,aS [1,9,40,41,42] [(1000000,1)],ap 7 47),(15,aS [1,9,40,41,42,47,48,49] [(1000000,1)],ap 15 13103)] k Tryz.f71 1
def Fr (t:Tm) (e0_0 v17:Int):St UU:=⟨[(1,(.func 143 [] [(pt 1000000)])),(2,(pt 2)),(15,(sT t.kids)),(16,(.int .i64 (t.kids.length:Int))),(17,(iI v17))],[(2,bT t),(1000000,bI e0_0)],[],[]⟩
def uU (t:Tm) (e0_0' v42 more9:Int):St UU:=⟨[(1,(.func 143 [] [(pt 1000000)])),(9,(iI more9)),(40,(sB t.sys)),(41,(.int .i64 (t.sys.length:Int))),(42,(iI v42))],[(1000000,bI e0_0')],[],[]⟩
def L3 (t:Tm) (v42:Int) (x4:(Br Tm)) (more9:Int) (e0_0'' v49:Int):St UU:=⟨[(1,(.func 143 [] [(pt 1000000)])),(9,(iI more9)),(40,(sB t.sys)),(41,(.int .i64 (t.sys.length:Int))),(42,(iI v42)),(47,(sT x4.kids)),(48,(.int .i64 (x4.kids.length:Int))),(49,(iI v49))],[(1000000,bI e0_0'')],[],[]⟩
section
variable {S:Type} (hd:dq S) (k:Nat) (t:Tm) (c0:Int) (κ:Out UU→Option S)
theorem Xf (v42 x4 more9 κ1): ∀n e0_0'' v49,(mI hd k).lp κ 15 [κ1] n (L3 t v42 x4 more9 e0_0'' v49)=n4 hd k (cO κ) (fun e0_0' v42 more9=>κ1 (uU t e0_0' v42 more9)) t v42 x4 more9 n e0_0'' v49:=aL (yj hd k (cO κ) t v42 x4 more9 (fun e0_0' v42 more9=>κ1 (uU t e0_0' v42 more9))) rfl (fun _=>rfl) fun r e0_0'' v49=>by kernel_rfl
theorem Xe: ∀n e0_0' v42 more9,(mI hd k).lp κ 12 [] n (uU t e0_0' v42 more9)=kM hd k (cO κ) t n e0_0' v42 more9:=eW (fun own=>tr hd k (cO κ) t (fun v42 x4 more9 e0_0'' v49=>n4 hd k (cO κ) own t v42 x4 more9 k e0_0'' v49) own) rfl (fun _=>rfl) fun r e0_0' v42 more9=>Eq.trans (b:=tr hd k (cO κ) t (fun v42 x4 more9 e0_0'' v49=>(mI hd k).lp κ 15 [r] k (L3 t v42 x4 more9 e0_0'' v49)) (fun e0_0' v42 more9=>r (uU t e0_0' v42 more9)) e0_0' v42 more9) (by kernel_rfl) (by simp only [Xf])
theorem Xd: ∀n e0_0 v17,(mI hd k).lp κ 2 [] n (Fr t e0_0 v17)=qT hd k (cO κ) t n e0_0 v17:=aL (fun own=>tq hd k (cO κ) t (fun e0_0' v42 more9=>kM hd k (cO κ) t k e0_0' v42 more9) own) rfl (fun _=>rfl) fun r e0_0 v17=>Eq.trans (b:=tq hd k (cO κ) t (fun e0_0' v42 more9=>(mI hd k).lp κ 12 [] k (uU t e0_0' v42 more9)) (fun e0_0 v17=>r (Fr t e0_0 v17)) e0_0 v17) (by kernel_rfl) (by simp only [Xe])
end
theorem aaL {S:Type} (o:Obj) (ho:ai o) (hd:dq S) (Hd:Tl o 92 (vD hd)) (k:Nat):Tl o 71 (Oz hd k:Rw S):=ak (mI hd k) ⟨kc o ho k,aaK o ho hd Hd k,trivial⟩ Tryz.func71 (by kernel_rfl) fun t c0 κ x h=>Eq.trans (b:=IW hd k (cO κ) (fun e0_0 v17=>(mI hd k).lp κ 2 [] k (Fr t e0_0 v17)) t c0) (by kernel_rfl) (Eq.trans (by simp only [Xd];rfl) (al h))
def UR {S:Type} (hd:dq S) (k:Nat):Fx S:=fp 8 [(71,Oz hd k)] [] k Tryz.f92 0
theorem KU {S:Type} (o:Obj) (ho:ai o): ∀k:Nat,Tl o 92 (vD (j6 k:dq S))
 |0=>dz fun t κ x h=>by cases h
 |k+1=>ak (UR (j6 k) k) ⟨aaL o ho (j6 k) (KU o ho k) k,trivial⟩ Tryz.func92 (by kernel_rfl) fun t κ x h=>Eq.trans (by kernel_rfl) h
end
end Go.Proofs.YtfkkpkhfjpaafaaGreatDoor
namespace Go.Proofs.YtfkkpkhfjpaafaaGreatDoor
open Go PI
set_option linter.unusedVariables false
set_option maxRecDepth 100000
noncomputable section
def Gf {S:Type} (hd:fK S):Rw S:=aj pW xn fun t a_n κ=>hd t a_n (aE κ)
def jN {S:Type} (hd:fK S) (k:Nat):Fx S:=fp 68 [(36,jA k),(93,Gf hd)] [(1000003,aS [1,2] [(2,6)],ap 2 3),(5,aS [1,2,5,24,25,26] [(2,6)],ap 6 23),(11,aS [1,5,47,48,49] [],ap 7 47),(14,aS [1,5,47,48,49,54,55,56] [],ap 15 13103)] k Tryz.f93 0
def L4 (t:Tm) (a_n:Int):St UU:=⟨[(1,(iI a_n)),(2,(pt 2))],[(2,bT t)],[],[]⟩
def Fs (t:Tm) (a_n:Int) (v26 sum5:Int):St UU:=⟨[(1,(iI a_n)),(2,(pt 2)),(5,(iI sum5)),(24,(sT t.kids)),(25,(.int .i64 (t.kids.length:Int))),(26,(iI v26))],[(2,bT t)],[],[]⟩
def uV (a_n:Int) (t:Tm) (v49 sum5':Int):St UU:=⟨[(1,(iI a_n)),(5,(iI sum5')),(47,(sB t.sys)),(48,(.int .i64 (t.sys.length:Int))),(49,(iI v49))],[],[],[]⟩
def L5 (a_n:Int) (t:Tm) (v49:Int) (x4:(Br Tm)) (sum5'' v56:Int):St UU:=⟨[(1,(iI a_n)),(5,(iI sum5'')),(47,(sB t.sys)),(48,(.int .i64 (t.sys.length:Int))),(49,(iI v49)),(54,(sT x4.kids)),(55,(.int .i64 (x4.kids.length:Int))),(56,(iI v56))],[],[],[]⟩
section
variable {S:Type} (hd:fK S) (k:Nat) (t:Tm) (a_n:Int) (κ:Out UU→Option S)
theorem Xj (v49 x4 κ2): ∀n sum5'' v56,(jN hd k).lp κ 14 [κ2] n (L5 a_n t v49 x4 sum5'' v56)=nG hd k (aE κ) (fun v49 sum5'=>κ2 (uV a_n t v49 sum5')) a_n t v49 x4 n sum5'' v56:=aL (xh hd k (aE κ) a_n t v49 x4 (fun v49 sum5'=>κ2 (uV a_n t v49 sum5'))) rfl (fun _=>rfl) fun r sum5'' v56=>by kernel_rfl
theorem Xi: ∀n v49 sum5',(jN hd k).lp κ 11 [] n (uV a_n t v49 sum5')=ku hd k (aE κ) a_n t n v49 sum5':=aL (fun own=>sE hd k (aE κ) a_n t (fun v49 x4 sum5'' v56=>nG hd k (aE κ) own a_n t v49 x4 k sum5'' v56) own) rfl (fun _=>rfl) fun r v49 sum5'=>Eq.trans (b:=sE hd k (aE κ) a_n t (fun v49 x4 sum5'' v56=>(jN hd k).lp κ 14 [r] k (L5 a_n t v49 x4 sum5'' v56)) (fun v49 sum5'=>r (uV a_n t v49 sum5')) v49 sum5') (by kernel_rfl) (by simp only [Xj])
theorem Xh: ∀n v26 sum5,(jN hd k).lp κ 5 [] n (Fs t a_n v26 sum5)=nF hd k (aE κ) t a_n n v26 sum5:=aL (fun own=>sD hd k (aE κ) t a_n (fun v49 sum5'=>ku hd k (aE κ) a_n t k v49 sum5') own) rfl (fun _=>rfl) fun r v26 sum5=>Eq.trans (b:=sD hd k (aE κ) t a_n (fun v49 sum5'=>(jN hd k).lp κ 11 [] k (uV a_n t v49 sum5')) (fun v26 sum5=>r (Fs t a_n v26 sum5)) v26 sum5) (by kernel_rfl) (by simp only [Xi])
theorem Xg: ∀n,(jN hd k).jn κ 1000003 [] n (L4 t a_n)=Ak hd k (aE κ) t a_n n:=gL (xg hd k (aE κ) t a_n (fun v26 sum5=>nF hd k (aE κ) t a_n k v26 sum5)) rfl (fun _=>rfl) (Eq.trans (b:=xg hd k (aE κ) t a_n (fun v26 sum5=>(jN hd k).lp κ 5 [] k (Fs t a_n v26 sum5))) (by kernel_rfl) (by simp only [Xh]))
end
theorem KV {S:Type} (o:Obj) (ho:ai o): ∀k:Nat,Tl o 93 (Gf (gz k:fK S))
 |0=>dz fun t a_n κ x h=>by cases h
 |k+1=>ak (jN (gz k) k) ⟨kc o ho k,KV o ho k,trivial⟩ Tryz.func93 (by kernel_rfl) fun t a_n κ x h=>Eq.trans (b:=BU (gz k) k (aE κ) ((jN (gz k) k).jn κ 1000003 [] k (L4 t a_n)) t a_n) (by kernel_rfl) (Eq.trans (by simp only [Xg];rfl) h)
def OA {S:Type} (k:Nat):Rw S:=aj dV xn fun t κ=>aa k (ze k t) (aE κ)
def UT {S:Type} (k:Nat):Fx S:=fp 6 [] [] k Tryz.f144 0
theorem aaM {S:Type} (o:Obj) (ho:ai o) (k:Nat):Tl o 144 (OA k:Rw S):=ak (UT k) trivial Tryz.func144 (by kernel_rfl) fun t κ x h=>Eq.trans (by kernel_rfl) (al h)
def Gg {S:Type} (hd:gX S):Rw S:=aj Lt xn fun t a_n u vars dims κ=>hd t a_n u vars dims (ah κ)
def mJ {S:Type} (hd:gX S) (k:Nat):Fx S:=fp 137 [(36,jA k),(56,Be k),(95,Gg hd),(144,OA k)] [(12,⟨[(1,.none),(3,.none),(4,.none),(5,.none),(7,.none),(10,.none),(13,.none),(66,.none),(67,.none),(68,.none)],[(5,[.none,.none,.none,.none,.none,.none]),(7,[.none,.none,.none,.none,.none,.none]),(10,[.none,.none,.none,some (200643,true),some (200644,true),some (200645,true)]),(13,[.none,.none,.none,some (200835,true),some (200836,true),some (200837,true)])]⟩,ap 6 23),(18,⟨[(1,.none),(3,.none),(4,.none),(5,.none),(7,.none),(10,.none),(13,.none),(97,.none),(98,.none),(99,.none)],[(5,[.none,.none,.none,.none,.none,.none]),(7,[.none,.none,.none,.none,.none,.none]),(10,[.none,.none,.none,some (200643,true),some (200644,true),some (200645,true)]),(13,[.none,.none,.none,some (200835,true),some (200836,true),some (200837,true)])]⟩,ap 7 47),(22,⟨[(1,.none),(3,.none),(4,.none),(5,.none),(7,.none),(10,.none),(13,.none),(20,.none),(97,.none),(98,.none),(99,.none),(108,.none),(109,.none),(110,.none)],[(5,[.none,.none,.none,.none,.none,.none]),(7,[.none,.none,.none,.none,.none,.none]),(10,[.none,.none,.none,some (200643,true),some (200644,true),some (200645,true)]),(13,[.none,.none,.none,some (200835,true),some (200836,true),some (200837,true)]),(20,[some (201280,true),some (201281,true)])]⟩,ap 17 45871)] k Tryz.f95 0
def Ft (t u:Tm) (a_n vars dims:Int) (b13_4:List Tm) (v68:Int):St UU:=⟨[(1,(iI a_n)),(3,(iI vars)),(4,(iI dims)),(5,(pt 5)),(7,(pt 7)),(10,(pt 10)),(13,(pt 13)),(66,(sT t.kids)),(67,(.int .i64 (t.kids.length:Int))),(68,(iI v68))],[(5,bT t),(7,bT u),(10,.cells [(iI 0),(iI 0),(.str ByteArray.empty),(.own 200643 0),(.own 200644 0),(.own 200645 0)]),(13,.cells [(iI t.kind),(iI 0),(.str t.name),(.own 200835 0),(.own 200836 0),(.own 200837 0)])],[(200837,⟨0,ET.B,([]:List (Br Tm))⟩),(200836,⟨0,ET.T,b13_4⟩),(200835,⟨0,ET.C,t.r⟩),(200645,⟨0,ET.B,([]:List (Br Tm))⟩),(200644,⟨0,ET.T,([]:List Tm)⟩),(200643,⟨0,ET.C,([]:List Cl)⟩)],[(200837,.wr),(200836,.wr),(200835,.wr),(200645,.wr),(200644,.wr),(200643,.wr)]⟩
def uW (t:Tm) (b13_4:List Tm) (u:Tm) (a_n vars dims:Int) (b13_5:List (Br Tm)) (v99:Int):St UU:=⟨[(1,(iI a_n)),(3,(iI vars)),(4,(iI dims)),(5,(pt 5)),(7,(pt 7)),(10,(pt 10)),(13,(pt 13)),(97,(sB t.sys)),(98,(.int .i64 (t.sys.length:Int))),(99,(iI v99))],[(5,bT t),(7,bT u),(10,.cells [(iI 0),(iI 0),(.str ByteArray.empty),(.own 200643 0),(.own 200644 0),(.own 200645 0)]),(13,.cells [(iI t.kind),(iI 0),(.str t.name),(.own 200835 0),(.own 200836 0),(.own 200837 0)])],[(200837,⟨0,ET.B,b13_5⟩),(200836,⟨0,ET.T,b13_4⟩),(200835,⟨0,ET.C,t.r⟩),(200645,⟨0,ET.B,([]:List (Br Tm))⟩),(200644,⟨0,ET.T,([]:List Tm)⟩),(200643,⟨0,ET.C,([]:List Cl)⟩)],[(200837,.wr),(200836,.wr),(200835,.wr),(200645,.wr),(200644,.wr),(200643,.wr)]⟩
def L6 (t:Tm) (b13_4:List Tm) (b13_5:List (Br Tm)) (x9:(Br Tm)) (u:Tm) (a_n vars dims v99:Int) (b20_1:List Tm) (v110:Int):St UU:=⟨[(1,(iI a_n)),(3,(iI vars)),(4,(iI dims)),(5,(pt 5)),(7,(pt 7)),(10,(pt 10)),(13,(pt 13)),(20,(pt 20)),(97,(sB t.sys)),(98,(.int .i64 (t.sys.length:Int))),(99,(iI v99)),(108,(sT x9.kids)),(109,(.int .i64 (x9.kids.length:Int))),(110,(iI v110))],[(5,bT t),(7,bT u),(10,.cells [(iI 0),(iI 0),(.str ByteArray.empty),(.own 200643 0),(.own 200644 0),(.own 200645 0)]),(13,.cells [(iI t.kind),(iI 0),(.str t.name),(.own 200835 0),(.own 200836 0),(.own 200837 0)]),(20,.cells [(.own 201280 0),(.own 201281 0)])],[(201281,⟨0,ET.T,b20_1⟩),(201280,⟨0,ET.C,x9.face⟩),(200837,⟨0,ET.B,b13_5⟩),(200836,⟨0,ET.T,b13_4⟩),(200835,⟨0,ET.C,t.r⟩),(200645,⟨0,ET.B,([]:List (Br Tm))⟩),(200644,⟨0,ET.T,([]:List Tm)⟩),(200643,⟨0,ET.C,([]:List Cl)⟩)],[(201281,.wr),(201280,.wr),(200837,.wr),(200836,.wr),(200835,.wr),(200645,.wr),(200644,.wr),(200643,.wr)]⟩
section
variable {S:Type} (hd:gX S) (k:Nat) (t:Tm) (a_n:Int) (u:Tm) (vars dims:Int) (κ:Out UU→Option S)
theorem Xm (b13_4 b13_5 x9 v99 κ1): ∀n b20_1 v110,(mJ hd k).lp κ 22 [κ1] n (L6 t b13_4 b13_5 x9 u a_n vars dims v99 b20_1 v110)=nH hd k (ah κ) (fun b13_5 v99=>κ1 (uW t b13_4 u a_n vars dims b13_5 v99)) t b13_4 b13_5 x9 u a_n vars dims v99 n b20_1 v110:=aL (xj hd k (ah κ) t b13_4 b13_5 x9 u a_n vars dims v99 (fun b13_5 v99=>κ1 (uW t b13_4 u a_n vars dims b13_5 v99))) rfl (fun _=>rfl) fun r b20_1 v110=>by kernel_rfl
theorem Xl (b13_4): ∀n b13_5 v99,(mJ hd k).lp κ 18 [] n (uW t b13_4 u a_n vars dims b13_5 v99)=kw hd k (ah κ) t b13_4 u a_n vars dims n b13_5 v99:=aL (fun own=>sG hd k (ah κ) t b13_4 u a_n vars dims (fun b13_5 x9 v99 b20_1 v110=>nH hd k (ah κ) own t b13_4 b13_5 x9 u a_n vars dims v99 k b20_1 v110) own) rfl (fun _=>rfl) fun r b13_5 v99=>Eq.trans (b:=sG hd k (ah κ) t b13_4 u a_n vars dims (fun b13_5 x9 v99 b20_1 v110=>(mJ hd k).lp κ 22 [r] k (L6 t b13_4 b13_5 x9 u a_n vars dims v99 b20_1 v110)) (fun b13_5 v99=>r (uW t b13_4 u a_n vars dims b13_5 v99)) b13_5 v99) (by kernel_rfl) (by simp only [Xm])
theorem Xk: ∀n b13_4 v68,(mJ hd k).lp κ 12 [] n (Ft t u a_n vars dims b13_4 v68)=qj hd k (ah κ) t u a_n vars dims n b13_4 v68:=aL (fun own=>sF hd k (ah κ) t u a_n vars dims (fun b13_4 b13_5 v99=>kw hd k (ah κ) t b13_4 u a_n vars dims k b13_5 v99) own) rfl (fun _=>rfl) fun r b13_4 v68=>Eq.trans (b:=sF hd k (ah κ) t u a_n vars dims (fun b13_4 b13_5 v99=>(mJ hd k).lp κ 18 [] k (uW t b13_4 u a_n vars dims b13_5 v99)) (fun b13_4 v68=>r (Ft t u a_n vars dims b13_4 v68)) b13_4 v68) (by kernel_rfl) (by simp only [Xl])
end
theorem KW {S:Type} (o:Obj) (ho:ai o): ∀k:Nat,Tl o 95 (Gg (gA k:gX S))
 |0=>dz fun t a_n u vars dims κ x h=>by cases h
 |k+1=>ak (mJ (gA k) k) ⟨kc o ho k,Ej o ho k,KW o ho k,aaM o ho k,trivial⟩ Tryz.func95 (by kernel_rfl) fun t a_n u vars dims κ x h=>Eq.trans (b:=H2 (gA k) k (ah κ) (fun b13_4 v68=>(mJ (gA k) k).lp κ 12 [] k (Ft t u a_n vars dims b13_4 v68)) t a_n u vars dims) (by kernel_rfl) (Eq.trans (by simp only [Xk];rfl) h)
def vE {S:Type} (hd:dp S):Rw S:=aj dV xn fun t κ=>hd t (aE κ)
def OB {S:Type} (hd:dp S) (k:Nat):Rw S:=aj Ah cu fun a_k p p' c0 κ=>aa k (uf hd k a_k p p' c0) (cO κ)
def UW {S:Type} (hd:dp S) (k:Nat):Fx S:=fp 12 [(96,vE hd)] [] k Tryz.f145 1
theorem aaN {S:Type} (o:Obj) (ho:ai o) (hd:dp S) (Hd:Tl o 96 (vE hd)) (k:Nat):Tl o 145 (OB hd k:Rw S):=ak (UW hd k) ⟨Hd,trivial⟩ Tryz.func145 (by kernel_rfl) fun a_k p p' c0 κ x h=>Eq.trans (by kernel_rfl) (al h)
def OD {S:Type} (hd:dp S) (k:Nat):Rw S:=aj ad0 cu fun t c0 κ=>aa k (DZ hd k t c0) (cO κ)
def mK {S:Type} (hd:dp S) (k:Nat):Fx S:=fp 60 [(36,jA k),(145,OB hd k)] [(2,aS [1,2,15,16,17] [(2,6),(1000000,1)],ap 4 5),(12,aS [1,9,40,41,42] [(1000000,1)],ap 7 47),(15,aS [1,9,40,41,42,47,48,49] [(1000000,1)],ap 15 13103)] k Tryz.f71 1
def Fv (t:Tm) (e0_0 v17:Int):St UU:=⟨[(1,(.func 145 [] [(pt 1000000)])),(2,(pt 2)),(15,(sT t.kids)),(16,(.int .i64 (t.kids.length:Int))),(17,(iI v17))],[(2,bT t),(1000000,bI e0_0)],[],[]⟩
def uX (t:Tm) (e0_0' v42 more9:Int):St UU:=⟨[(1,(.func 145 [] [(pt 1000000)])),(9,(iI more9)),(40,(sB t.sys)),(41,(.int .i64 (t.sys.length:Int))),(42,(iI v42))],[(1000000,bI e0_0')],[],[]⟩
def L7 (t:Tm) (v42:Int) (x4:(Br Tm)) (more9:Int) (e0_0'' v49:Int):St UU:=⟨[(1,(.func 145 [] [(pt 1000000)])),(9,(iI more9)),(40,(sB t.sys)),(41,(.int .i64 (t.sys.length:Int))),(42,(iI v42)),(47,(sT x4.kids)),(48,(.int .i64 (x4.kids.length:Int))),(49,(iI v49))],[(1000000,bI e0_0'')],[],[]⟩
section
variable {S:Type} (hd:dp S) (k:Nat) (t:Tm) (c0:Int) (κ:Out UU→Option S)
theorem Xp (v42 x4 more9 κ1): ∀n e0_0'' v49,(mK hd k).lp κ 15 [κ1] n (L7 t v42 x4 more9 e0_0'' v49)=n5 hd k (cO κ) (fun e0_0' v42 more9=>κ1 (uX t e0_0' v42 more9)) t v42 x4 more9 n e0_0'' v49:=aL (yk hd k (cO κ) t v42 x4 more9 (fun e0_0' v42 more9=>κ1 (uX t e0_0' v42 more9))) rfl (fun _=>rfl) fun r e0_0'' v49=>by kernel_rfl
theorem Xo: ∀n e0_0' v42 more9,(mK hd k).lp κ 12 [] n (uX t e0_0' v42 more9)=kN hd k (cO κ) t n e0_0' v42 more9:=eW (fun own=>tu hd k (cO κ) t (fun v42 x4 more9 e0_0'' v49=>n5 hd k (cO κ) own t v42 x4 more9 k e0_0'' v49) own) rfl (fun _=>rfl) fun r e0_0' v42 more9=>Eq.trans (b:=tu hd k (cO κ) t (fun v42 x4 more9 e0_0'' v49=>(mK hd k).lp κ 15 [r] k (L7 t v42 x4 more9 e0_0'' v49)) (fun e0_0' v42 more9=>r (uX t e0_0' v42 more9)) e0_0' v42 more9) (by kernel_rfl) (by simp only [Xp])
theorem Xn: ∀n e0_0 v17,(mK hd k).lp κ 2 [] n (Fv t e0_0 v17)=qU hd k (cO κ) t n e0_0 v17:=aL (fun own=>tt hd k (cO κ) t (fun e0_0' v42 more9=>kN hd k (cO κ) t k e0_0' v42 more9) own) rfl (fun _=>rfl) fun r e0_0 v17=>Eq.trans (b:=tt hd k (cO κ) t (fun e0_0' v42 more9=>(mK hd k).lp κ 12 [] k (uX t e0_0' v42 more9)) (fun e0_0 v17=>r (Fv t e0_0 v17)) e0_0 v17) (by kernel_rfl) (by simp only [Xo])
end
theorem aaP {S:Type} (o:Obj) (ho:ai o) (hd:dp S) (Hd:Tl o 96 (vE hd)) (k:Nat):Tl o 71 (OD hd k:Rw S):=ak (mK hd k) ⟨kc o ho k,aaN o ho hd Hd k,trivial⟩ Tryz.func71 (by kernel_rfl) fun t c0 κ x h=>Eq.trans (b:=IX hd k (cO κ) (fun e0_0 v17=>(mK hd k).lp κ 2 [] k (Fv t e0_0 v17)) t c0) (by kernel_rfl) (Eq.trans (by simp only [Xn];rfl) (al h))
def UV {S:Type} (hd:dp S) (k:Nat):Fx S:=fp 9 [(71,OD hd k)] [] k Tryz.f96 0
theorem KX {S:Type} (o:Obj) (ho:ai o): ∀k:Nat,Tl o 96 (vE (j5 k:dp S))
 |0=>dz fun t κ x h=>by cases h
 |k+1=>ak (UV (j5 k) k) ⟨aaP o ho (j5 k) (KX o ho k) k,trivial⟩ Tryz.func96 (by kernel_rfl) fun t κ x h=>Eq.trans (by kernel_rfl) h
def OE {S:Type} (k:Nat):Rw S:=aj Lu xn fun t a_n u κ=>aa k (zd k t a_n u) (cM κ)
def UY {S:Type} (k:Nat):Fx S:=⟨⟨49,(fun _=>[]),(fun _=>false),.none,fun|6=>true|7=>true|_=>false⟩,[(21,iJ k),(92,vD (j6 k)),(93,Gf (gz k)),(95,Gg (gA k)),(96,vE (j5 k))],[],k,Tryz.f55,false,[],0,some (o9 16 94 Tryz.f94 k)⟩
theorem aaQ {S:Type} (o:Obj) (ho:ai o) (k:Nat):Tl o 55 (OE k:Rw S):=BZ (UY k) rfl (yn o Tryz.func94 (by kernel_rfl)) ⟨jh o ho k,KU o ho k,KV o ho k,KW o ho k,KX o ho k,trivial⟩ Tryz.func55 (by kernel_rfl) fun t a_n u κ x h=>Eq.trans (by kernel_rfl) (al h)
def OF {S:Type} (k:Nat):Rw S:=aj ad1 cu fun t u c0 κ=>aa k (za k t u c0) (gR κ)
def UZ {S:Type} (k:Nat):Fx S:=fp 18 [(50,jB k),(51,jx k),(55,OE k)] [] k Tryz.f25 1
theorem aaR {S:Type} (o:Obj) (ho:ai o) (k:Nat):Tl o 25 (OF k:Rw S):=ak (UZ k) ⟨ke o ho k,j8 o ho k,aaQ o ho k,trivial⟩ Tryz.func25 (by kernel_rfl) fun t u c0 κ x h=>Eq.trans (by kernel_rfl) (al h)
def OG {S:Type} (k:Nat):Rw S:=aj E0 cu fun t vars dims c0 κ=>aa k (zb k t vars dims c0) (gR κ)
def U0 {S:Type} (k:Nat):Fx S:=fp 21 [(50,jB k),(51,jx k),(56,Be k)] [] k Tryz.f27 1
theorem aaS {S:Type} (o:Obj) (ho:ai o) (k:Nat):Tl o 27 (OG k:Rw S):=ak (U0 k) ⟨ke o ho k,j8 o ho k,Ej o ho k,trivial⟩ Tryz.func27 (by kernel_rfl) fun t vars dims c0 κ x h=>Eq.trans (by kernel_rfl) (al h)
def OH {S:Type} (k:Nat):Rw S:=aj Ag xn fun kind kids κ=>aa k (zc k kind kids) (F9 κ)
def U1 {S:Type} (k:Nat):Fx S:=fx 8 (fun _=>[]) (fun _=>false) [] [] k Tryz.f28 true [] 0
theorem aaT {S:Type} (o:Obj) (ho:ai o) (k:Nat):Tl o 28 (OH k:Rw S):=ak (U1 k) trivial Tryz.func28 (by kernel_rfl) fun kind kids κ x h=>Eq.trans (by kernel_rfl) (al h)
def OI {S:Type} (k:Nat):Rw S:=aj ad2 aly fun p a_by a_x c0 c1 c3 κ=>aa k (nc k p a_by a_x c0 c1 c3) (AZ c0 c1 κ)
def Co {S:Type} (k:Nat):Fx S:=fx 42 (fun _=>[]) (fun _=>false) [(27,OG k),(28,OH k)] [(3,⟨[(1,.none),(3,.none),(5,.none),(8,.none),(9,.none),(10,some (100010,false)),(18,.none),(19,.none),(20,.none)],[(8,[.none,.none,.none,.none,.none,.none]),(9,[.none,.none,.none,some (200579,true),some (200580,true),some (200581,true)]),(1000000,[.none,.none,.none,.none,.none,.none]),(1000001,[.none]),(1000002,[.none]),(1000003,[.none])]⟩,ap 5 11)] k Tryz.f26 true [] 4
def L8 (c0:Tm) (c1:Int) (a_x:Tm) (a_by:Int) (e3_0:Int) (kids10:List Tm) (v20:Int):St UU:=⟨[(1,(iI a_by)),(3,(pt 1000000)),(5,(pt 1000002)),(8,(pt 8)),(9,(pt 9)),(10,(.own 100010 0)),(18,(dO (List.drop (Int.toNat 1) (List.take (Int.toNat c1) c0.kids)) .none)),(19,(.int .i64 ((List.drop (Int.toNat 1) (List.take (Int.toNat c1) c0.kids)).length:Int))),(20,(iI v20))],[(8,bT a_x),(9,.cells [(iI 0),(iI 0),(.str ByteArray.empty),(.own 200579 0),(.own 200580 0),(.own 200581 0)]),(1000000,bT c0),(1000001,bI c1),(1000002,.cells [(pt 1000003)]),(1000003,bI e3_0)],[(200581,⟨0,ET.B,([]:List (Br Tm))⟩),(200580,⟨0,ET.T,([]:List Tm)⟩),(200579,⟨0,ET.C,([]:List Cl)⟩),(100010,⟨0,ET.T,kids10⟩)],[(200581,.wr),(200580,.wr),(200579,.wr),(100010,.app)]⟩
section
variable {S:Type} (k:Nat) (p:Tm) (a_by:Int) (a_x c0:Tm) (c1 c3:Int) (κ:Out UU→Option S)
theorem Xq: ∀n e3_0 kids10 v20,(Co k).lp κ 3 [] n (L8 c0 c1 a_x a_by e3_0 kids10 v20)=kq k (AZ c0 c1 κ) c0 c1 a_x a_by n e3_0 kids10 v20:=eW (oS k (AZ c0 c1 κ) c0 c1 a_x a_by) rfl (fun _=>rfl) fun r e3_0 kids10 v20=>by kernel_rfl
end
theorem aaU {S:Type} (o:Obj) (ho:ai o) (k:Nat):Tl o 26 (OI k:Rw S):=ak (Co k) ⟨aaS o ho k,aaT o ho k,trivial⟩ Tryz.func26 (by kernel_rfl) fun p a_by a_x c0 c1 c3 κ x h=>Eq.trans (b:=BP k (AZ c0 c1 κ) (fun e3_0 kids10 v20=>(Co k).lp κ 3 [] k (L8 c0 c1 a_x a_by e3_0 kids10 v20)) p a_by a_x c0 c1 c3) (by kernel_rfl) (Eq.trans (by simp only [Xq];rfl) (al h))
def Gi {S:Type} (k:Nat):Rw S:=aj ad4 xn fun f kids κ=>aa k (nf k f kids) (aie κ)
def U2 {S:Type} (k:Nat):Fx S:=fp 8 [] [] k Tryz.f29 0
theorem JW {S:Type} (o:Obj) (ho:ai o) (k:Nat):Tl o 29 (Gi k:Rw S):=ak (U2 k) trivial Tryz.func29 (by kernel_rfl) fun f kids κ x h=>Eq.trans (by kernel_rfl) (al h)
def OJ {S:Type} (k:Nat):Rw S:=aj Ai cu fun line c0 κ=>aa k (yz k line c0) (gR κ)
def U3 {S:Type} (k:Nat):Fx S:=fp 25 [(74,Bj k),(84,my k),(123,A2 k),(140,oy k)] [] k Tryz.f98 1
theorem aaV {S:Type} (o:Obj) (ho:ai o) (k:Nat):Tl o 98 (OJ k:Rw S):=ak (U3 k) ⟨Eo o ho k,nq o ho k,D9 o ho k,pM o ho k,trivial⟩ Tryz.func98 (by kernel_rfl) fun line c0 κ x h=>Eq.trans (by kernel_rfl) (al h)
def OK {S:Type} (k:Nat):Rw S:=aj pX xn fun line a sys κ=>aa k (yx k line a sys) (cM κ)
def Cp {S:Type} (k:Nat):Fx S:=fp 78 [(22,ox (dJ k)),(80,GK k),(81,GJ k),(82,Bc k),(84,my k),(86,Ge k),(87,GN k),(98,OJ k)] [(5,⟨[(3,.none),(6,.none),(8,.none),(9,.none),(36,.none),(37,.none),(38,.none)],[(3,[.none,.none,.none,.none,.none,.none]),(6,[.none,.none,.none,some (200387,true),some (200388,true),some (200389,true)]),(9,[.none,.none,.none,some (200579,true),.none,some (200581,true)]),(19000,[.none])]⟩,ap 7 47)] k Tryz.f57 0
def L9 (r3:Tm) (r9:Int×Int×ByteArray×List Tm) (r6:Tm) (b19000_0:Int) (b9_5:List (Br Tm)) (v38:Int):St UU:=⟨[(3,(pt 3)),(6,(pt 6)),(8,(pt 19000)),(9,(pt 9)),(36,(sB r6.sys)),(37,(.int .i64 (r6.sys.length:Int))),(38,(iI v38))],[(3,bT r3),(6,.cells [(iI 0),(iI 0),(.str ByteArray.empty),(.own 200387 0),(.own 200388 0),(.own 200389 0)]),(9,.cells [(iI r9.1),(iI r9.2.1),(.str r9.2.2.1),(.own 200579 0),(sT r9.2.2.2),(.own 200581 0)]),(19000,bI b19000_0)],[(200581,⟨0,ET.B,b9_5⟩),(200579,⟨0,ET.C,([]:List Cl)⟩),(200389,⟨0,ET.B,([]:List (Br Tm))⟩),(200388,⟨0,ET.T,([]:List Tm)⟩),(200387,⟨0,ET.C,([]:List Cl)⟩)],[(200581,.wr),(200579,.wr),(200389,.wr),(200388,.wr),(200387,.wr)]⟩
section
variable {S:Type} (k:Nat) (line a:Tm) (sys:List (Br Tm)) (κ:Out UU→Option S)
theorem Xr (r3 r9 r6): ∀n b19000_0 b9_5 v38,(Cp k).lp κ 5 [] n (L9 r3 r9 r6 b19000_0 b9_5 v38)=ko k (cM κ) r3 r9 r6 n b19000_0 b9_5 v38:=eW (oP k (cM κ) r3 r9 r6) rfl (fun _=>rfl) fun r b19000_0 b9_5 v38=>by kernel_rfl
end
theorem aaW {S:Type} (o:Obj) (ho:ai o) (k:Nat):Tl o 57 (OK k:Rw S):=ak (Cp k) ⟨uD o ho k,Kp o ho k,Ko o ho k,Eh o ho k,nq o ho k,JV o ho k,Ks o ho k,aaV o ho k,trivial⟩ Tryz.func57 (by kernel_rfl) fun line a sys κ x h=>Eq.trans (b:=Hq k (cM κ) (fun r3 r9 r6 b19000_0 b9_5 v38=>(Cp k).lp κ 5 [] k (L9 r3 r9 r6 b19000_0 b9_5 v38)) line a sys) (by kernel_rfl) (Eq.trans (by simp only [Xr];rfl) (al h))
def OL {S:Type} (k:Nat):Rw S:=aj Ls cu fun line a sys c0 κ=>aa k (y9 k line a sys c0) (gR κ)
def U4 {S:Type} (k:Nat):Fx S:=fp 21 [(50,jB k),(51,jx k),(57,OK k)] [] k Tryz.f31 1
theorem aaX {S:Type} (o:Obj) (ho:ai o) (k:Nat):Tl o 31 (OL k:Rw S):=ak (U4 k) ⟨ke o ho k,j8 o ho k,aaW o ho k,trivial⟩ Tryz.func31 (by kernel_rfl) fun line a sys c0 κ x h=>Eq.trans (by kernel_rfl) (al h)
def Gj {S:Type} (k:Nat):Rw S:=aj Ai cu fun t c0 κ=>aa k (ly k t c0) (aif κ)
def U5 {S:Type} (k:Nat):Fx S:=fp 20 [(21,iJ k),(22,ox (dJ k)),(50,jB k),(51,jx k)] [] k Tryz.f30 1
theorem JX {S:Type} (o:Obj) (ho:ai o) (k:Nat):Tl o 30 (Gj k:Rw S):=ak (U5 k) ⟨jh o ho k,uD o ho k,ke o ho k,j8 o ho k,trivial⟩ Tryz.func30 (by kernel_rfl) fun t c0 κ x h=>Eq.trans (by kernel_rfl) (al h)
def Gk {S:Type} (k:Nat):Rw S:=aj dV xn fun t κ=>aa k (tL k t) (fC κ)
def rV {S:Type} (k:Nat):Fx S:=fp 119 [(21,iJ k),(22,ox (dJ k)),(23,Oq k),(24,Ox k),(25,OF k),(26,OI k),(29,Gi k),(30,Gj k),(31,OL k)] [(1000007,⟨[(1,.none),(2,.none),(6,.none)],[(1,[.none,.none,.none,.none,.none,.none]),(2,[.none,.none,.none,some (200131,true),some (200132,true),some (200133,true)]),(6,[.none])]⟩,ap 4 15),(17,⟨[(2,.none),(8,.none),(10,.none),(11,.none),(12,.none),(13,.none),(14,some (100014,true)),(88,.none),(89,.none),(90,.none)],[(1,[.none,.none,.none,.none,.none,.none]),(2,[.none,.none,.none,some (200131,true),some (200132,true),some (200133,true)]),(6,[.none]),(8,[.none]),(10,[.none,.none,.none,.none,.none,.none]),(11,[.none,.none,.none,.none,.none,.none]),(13,[.none,.none,.none,some (200835,true),.none,some (200837,true)]),(53,[.none])]⟩,ap 16 24575)] k Tryz.f9 0
def L_ (t:Tm):St UU:=⟨[(1,(pt 1)),(2,(pt 2)),(6,(pt 6))],[(1,bT t),(2,.cells [(iI 0),(iI 0),(.str ByteArray.empty),(.own 200131 0),(.own 200132 0),(.own 200133 0)]),(6,.cells [(.int .i64 (IntKind.wrap .i64 ((t.kids.length:Int)-1)))])],[(200133,⟨0,ET.B,([]:List (Br Tm))⟩),(200132,⟨0,ET.T,([]:List Tm)⟩),(200131,⟨0,ET.C,([]:List Cl)⟩)],[(200133,.wr),(200132,.wr),(200131,.wr)]⟩
def Ma (r3:Tm) (r9 r10:Tm×Int) (r13:Int×Int×ByteArray×List Tm×Int) (t x4:Tm) (b53_0:Int) (sys14:List (Br Tm)) (v90:Int):St UU:=⟨[(2,(pt 2)),(8,(pt 8)),(10,(pt 10)),(11,(pt 11)),(12,(.func 26 [] [(pt 1),(pt 6),(pt 8)])),(13,(pt 13)),(14,(.own 100014 0)),(88,(sB x4.sys)),(89,(.int .i64 (x4.sys.length:Int))),(90,(iI v90))],[(1,bT r3),(2,.cells [(iI 0),(iI 0),(.str ByteArray.empty),(.own 200131 0),(.own 200132 0),(.own 200133 0)]),(6,.cells [(.int .i64 (IntKind.wrap .i64 ((t.kids.length:Int)-1)))]),(8,.cells [(pt 53)]),(10,bT r9.1),(11,bT r10.1),(13,.cells [(iI r13.1),(iI r13.2.1),(.str r13.2.2.1),(.own 200835 0),(sT r13.2.2.2.1),(.own 200837 0)]),(53,bI b53_0)],[(200837,⟨0,ET.B,([]:List (Br Tm))⟩),(200835,⟨0,ET.C,([]:List Cl)⟩),(200133,⟨0,ET.B,([]:List (Br Tm))⟩),(200132,⟨0,ET.T,([]:List Tm)⟩),(200131,⟨0,ET.C,([]:List Cl)⟩),(100014,⟨0,ET.B,sys14⟩)],[(200837,.wr),(200835,.wr),(200133,.wr),(200132,.wr),(200131,.wr),(100014,.wr)]⟩
section
variable {S:Type} (k:Nat) (t:Tm) (κ:Out UU→Option S)
theorem Xt (r3 r9 r10 r13 x4): ∀n b53_0 sys14 v90,(rV k).lp κ 17 [] n (Ma r3 r9 r10 r13 t x4 b53_0 sys14 v90)=fX k (fC κ) r3 r9 r10 r13 t x4 n b53_0 sys14 v90:=eW (oR k (fC κ) r3 r9 r10 r13 t x4) rfl (fun _=>rfl) fun r b53_0 sys14 v90=>by kernel_rfl
theorem Xs: ∀n,(rV k).jn κ 1000007 [] n (L_ t)=l6 k (fC κ) t n:=gL (w_ k (fC κ) t (fun r3 r9 r10 r13 x4 b53_0 sys14 v90=>fX k (fC κ) r3 r9 r10 r13 t x4 k b53_0 sys14 v90)) rfl (fun _=>rfl) (Eq.trans (b:=w_ k (fC κ) t (fun r3 r9 r10 r13 x4 b53_0 sys14 v90=>(rV k).lp κ 17 [] k (Ma r3 r9 r10 r13 t x4 b53_0 sys14 v90))) (by kernel_rfl) (by simp only [Xt]))
end
theorem JY {S:Type} (o:Obj) (ho:ai o) (k:Nat):Tl o 9 (Gk k:Rw S):=ak (rV k) ⟨jh o ho k,uD o ho k,aaE o ho k,aaJ o ho k,aaR o ho k,aaU o ho k,JW o ho k,JX o ho k,aaX o ho k,trivial⟩ Tryz.func9 (by kernel_rfl) fun t κ x h=>Eq.trans (b:=HU k (fC κ) ((rV k).jn κ 1000007 [] k (L_ t)) t) (by kernel_rfl) (Eq.trans (by simp only [Xs];rfl) (al h))
def ON {S:Type} (k:Nat):Rw S:=aj ad5 xn fun kind a_r kids κ=>aa k (tO k kind a_r kids) (aih κ)
def U6 {S:Type} (k:Nat):Fx S:=fx 11 (fun _=>[]) (fun _=>false) [] [] k Tryz.f39 true [] 0
theorem aaZ {S:Type} (o:Obj) (ho:ai o) (k:Nat):Tl o 39 (ON k:Rw S):=ak (U6 k) trivial Tryz.func39 (by kernel_rfl) fun kind a_r kids κ x h=>Eq.trans (by kernel_rfl) (al h)
def OO {S:Type} (k:Nat):Rw S:=aj Lq cu fun t a_r c0 κ=>aa k (JL k t a_r c0) (gR κ)
def U7 {S:Type} (k:Nat):Fx S:=fp 18 [(50,jB k),(51,jx k),(123,A2 k)] [] k Tryz.f73 1
theorem aa0 {S:Type} (o:Obj) (ho:ai o) (k:Nat):Tl o 73 (OO k:Rw S):=ak (U7 k) ⟨ke o ho k,j8 o ho k,D9 o ho k,trivial⟩ Tryz.func73 (by kernel_rfl) fun t a_r c0 κ x h=>Eq.trans (by kernel_rfl) (al h)
def OP {S:Type} (k:Nat):Rw S:=aj Ai cu fun t c0 κ=>aa k (JI k t c0) (gR κ)
def U8 {S:Type} (k:Nat):Fx S:=fp 9 [(73,OO k),(74,Bj k)] [] k Tryz.f40 1
theorem aa1 {S:Type} (o:Obj) (ho:ai o) (k:Nat):Tl o 40 (OP k:Rw S):=ak (U8 k) ⟨aa0 o ho k,Eo o ho k,trivial⟩ Tryz.func40 (by kernel_rfl) fun t c0 κ x h=>Eq.trans (by kernel_rfl) (al h)
def OQ {S:Type} (k:Nat):Rw S:=aj ad6 cu fun f a_by c0 κ=>aa k (JK k f a_by c0) (N9 κ)
def U9 {S:Type} (k:Nat):Fx S:=fp 23 [(50,jB k),(51,jx k),(75,oz k)] [] k Tryz.f41 1
theorem aa2 {S:Type} (o:Obj) (ho:ai o) (k:Nat):Tl o 41 (OQ k:Rw S):=ak (U9 k) ⟨ke o ho k,j8 o ho k,pN o ho k,trivial⟩ Tryz.func41 (by kernel_rfl) fun f a_by c0 κ x h=>Eq.trans (by kernel_rfl) (al h)
def OR {S:Type} (k:Nat):Rw S:=aj Lr cu fun t a_by c0 κ=>aa k (JJ k t a_by c0) (gR κ)
def U_ {S:Type} (k:Nat):Fx S:=fp 18 [(50,jB k),(51,jx k),(54,Bf k)] [] k Tryz.f42 1
theorem aa3 {S:Type} (o:Obj) (ho:ai o) (k:Nat):Tl o 42 (OR k:Rw S):=ak (U_ k) ⟨ke o ho k,j8 o ho k,Ek o ho k,trivial⟩ Tryz.func42 (by kernel_rfl) fun t a_by c0 κ x h=>Eq.trans (by kernel_rfl) (al h)
def OS {S:Type} (k:Nat):Rw S:=aj ad7 xn fun kind l kids κ=>aa k (JM k kind l kids) (N7 κ)
def Va {S:Type} (k:Nat):Fx S:=fx 11 (fun _=>[]) (fun _=>false) [] [] k Tryz.f43 true [] 0
theorem aa4 {S:Type} (o:Obj) (ho:ai o) (k:Nat):Tl o 43 (OS k:Rw S):=ak (Va k) trivial Tryz.func43 (by kernel_rfl) fun kind l kids κ x h=>Eq.trans (by kernel_rfl) (al h)
def OT {S:Type} (k:Nat):Rw S:=aj dV xn fun t κ=>aa k (JG k t) (fC κ)
def Cq {S:Type} (k:Nat):Fx S:=fp 133 [(21,iJ k),(22,ox (dJ k)),(29,Gi k),(30,Gj k),(39,ON k),(40,OP k),(41,OQ k),(42,OR k),(43,OS k)] [(20,⟨[(1,.none),(2,.none),(6,.none),(8,.none),(9,.none),(10,.none),(11,some (100011,true)),(94,.none),(95,.none),(96,.none)],[(1,[.none,.none,.none,.none,.none,.none]),(2,[.none,.none,.none,some (200131,true),some (200132,true),some (200133,true)]),(6,[.none,.none,.none,.none,.none,.none]),(9,[.none,.none,.none,.none,.none,.none]),(10,[.none,.none,.none,.none,.none,some (200645,true)]),(44,[.none])]⟩,ap 21 769727)] k Tryz.f14 0
def Mb (r3:Tm) (r15:Int×Int×ByteArray×List Cl×List Tm) (x4:Tm) (r13:Tm×Int) (x5:Tm) (b44_0:Int) (sys11:List (Br Tm)) (v96:Int):St UU:=⟨[(1,(pt 1)),(2,(pt 2)),(6,(pt 6)),(8,(pt 44)),(9,(pt 9)),(10,(pt 10)),(11,(.own 100011 0)),(94,(sB x5.sys)),(95,(.int .i64 (x5.sys.length:Int))),(96,(iI v96))],[(1,bT r3),(2,.cells [(iI 0),(iI 0),(.str ByteArray.empty),(.own 200131 0),(.own 200132 0),(.own 200133 0)]),(6,bT x4),(9,bT r13.1),(10,.cells [(iI r15.1),(iI r15.2.1),(.str r15.2.2.1),(sC r15.2.2.2.1),(sT r15.2.2.2.2),(.own 200645 0)]),(44,bI b44_0)],[(200645,⟨0,ET.B,([]:List (Br Tm))⟩),(200133,⟨0,ET.B,([]:List (Br Tm))⟩),(200132,⟨0,ET.T,([]:List Tm)⟩),(200131,⟨0,ET.C,([]:List Cl)⟩),(100011,⟨0,ET.B,sys11⟩)],[(200645,.wr),(200133,.wr),(200132,.wr),(200131,.wr),(100011,.wr)]⟩
section
variable {S:Type} (k:Nat) (t:Tm) (κ:Out UU→Option S)
theorem Xu (r3 r15 x4 r13 x5): ∀n b44_0 sys11 v96,(Cq k).lp κ 20 [] n (Mb r3 r15 x4 r13 x5 b44_0 sys11 v96)=E7 k (fC κ) r3 r15 x4 r13 x5 n b44_0 sys11 v96:=eW (Jp k (fC κ) r3 r15 x4 r13 x5) rfl (fun _=>rfl) fun r b44_0 sys11 v96=>by kernel_rfl
end
theorem aa5 {S:Type} (o:Obj) (ho:ai o) (k:Nat):Tl o 14 (OT k:Rw S):=ak (Cq k) ⟨jh o ho k,uD o ho k,JW o ho k,JX o ho k,aaZ o ho k,aa1 o ho k,aa2 o ho k,aa3 o ho k,aa4 o ho k,trivial⟩ Tryz.func14 (by kernel_rfl) fun t κ x h=>Eq.trans (b:=SP k (fC κ) (fun r3 r15 x4 r13 x5 b44_0 sys11 v96=>(Cq k).lp κ 20 [] k (Mb r3 r15 x4 r13 x5 b44_0 sys11 v96)) t) (by kernel_rfl) (Eq.trans (by simp only [Xu];rfl) (al h))
def A3 {S:Type} (k:Nat):Rw S:=aj jk xn fun a b κ=>aa k (jY k a b) (aA κ)
def Cr {S:Type} (k:Nat):Fx S:=fp 26 [] [(4,aS [0,1,5] [],ap 5 11)] k Tryz.f15 0
def Mc (a b:List Cl) (i5:Int):St UU:=⟨[(0,(sC a)),(1,(sC b)),(5,(iI i5))],[],[],[]⟩
section
variable {S:Type} (k:Nat) (a b:List Cl) (κ:Out UU→Option S)
theorem Xv: ∀n i5,(Cr k).lp κ 4 [] n (Mc a b i5)=ky k (aA κ) a b n i5:=cF (oT k (aA κ) a b) rfl (fun _=>rfl) fun r i5=>by kernel_rfl
end
theorem D_ {S:Type} (o:Obj) (ho:ai o) (k:Nat):Tl o 15 (A3 k:Rw S):=ak (Cr k) trivial Tryz.func15 (by kernel_rfl) fun a b κ x h=>Eq.trans (b:=BV k (aA κ) (fun i5=>(Cr k).lp κ 4 [] k (Mc a b i5)) a b) (by kernel_rfl) (Eq.trans (by simp only [Xv];rfl) (al h))
def vF {S:Type} (hd:eN S):Rw S:=aj Lv xn fun a b κ=>hd a b (aA κ)
def OV {S:Type} (hd:eN S) (k:Nat):Rw S:=aj ad8 xn fun a b κ=>aa k (tX hd k a b) (aA κ)
def Cu {S:Type} (hd:eN S) (k:Nat):Fx S:=fp 27 [(11,vF hd)] [(4,aS [0,1,5] [],ap 5 11)] k Tryz.f35 0
def Mf (a b:List Tm) (i5:Int):St UU:=⟨[(0,(sT a)),(1,(sT b)),(5,(iI i5))],[],[],[]⟩
section
variable {S:Type} (hd:eN S) (k:Nat) (a b:List Tm) (κ:Out UU→Option S)
theorem Xz: ∀n i5,(Cu hd k).lp κ 4 [] n (Mf a b i5)=qH hd k (aA κ) a b n i5:=cF (xQ hd k (aA κ) a b) rfl (fun _=>rfl) fun r i5=>by kernel_rfl
end
theorem aa7 {S:Type} (o:Obj) (ho:ai o) (hd:eN S) (Hd:Tl o 11 (vF hd)) (k:Nat):Tl o 35 (OV hd k:Rw S):=ak (Cu hd k) ⟨Hd,trivial⟩ Tryz.func35 (by kernel_rfl) fun a b κ x h=>Eq.trans (b:=It hd k (aA κ) (fun i5=>(Cu hd k).lp κ 4 [] k (Mf a b i5)) a b) (by kernel_rfl) (Eq.trans (by simp only [Xz];rfl) (al h))
def Ct {S:Type} (hd:eN S) (k:Nat):Fx S:=fp 87 [(15,A3 k),(35,OV hd k)] [(4,aS [2,3,5] [(2,6),(3,6)],ap 5 11)] k Tryz.f11 0
def Me (a b:Tm) (i5:Int):St UU:=⟨[(2,(pt 2)),(3,(pt 3)),(5,(iI i5))],[(2,bT a),(3,bT b)],[],[]⟩
section
variable {S:Type} (hd:eN S) (k:Nat) (a b:Tm) (κ:Out UU→Option S)
theorem Xy: ∀n i5,(Ct hd k).lp κ 4 [] n (Me a b i5)=qF hd k (aA κ) a b n i5:=cF (xO hd k (aA κ) a b) rfl (fun _=>rfl) fun r i5=>by kernel_rfl
end
theorem EH {S:Type} (o:Obj) (ho:ai o): ∀k:Nat,Tl o 11 (vF (d8 k:eN S))
 |0=>dz fun a b κ x h=>by cases h
 |k+1=>ak (Ct (d8 k) k) ⟨D_ o ho k,aa7 o ho (d8 k) (EH o ho k) k,trivial⟩ Tryz.func11 (by kernel_rfl) fun a b κ x h=>Eq.trans (b:=Ir (d8 k) k (aA κ) (fun i5=>(Ct (d8 k) k).lp κ 4 [] k (Me a b i5)) a b) (by kernel_rfl) (Eq.trans (by simp only [Xy];rfl) h)
def OW {S:Type} (k:Nat):Rw S:=aj cn xn fun κ=>aa k (tM k) (aA κ)
def Vc {S:Type} (k:Nat):Fx S:=fp 127 [(9,Gk k),(11,vF (d8 k)),(14,OT k),(15,A3 k),(20,Pe k)] [] k Tryz.f7 0
theorem aa8 {S:Type} (o:Obj) (ho:ai o) (k:Nat):Tl o 7 (OW k:Rw S):=ak (Vc k) ⟨JY o ho k,EH o ho k,aa5 o ho k,D_ o ho k,eX2 o ho k,trivial⟩ Tryz.func7 (by kernel_rfl) fun κ x h=>Eq.trans (by kernel_rfl) (al h)
end
end Go.Proofs.YtfkkpkhfjpaafaaGreatDoor
namespace Go.Proofs.YtfkkpkhfjpaafaaGreatDoor
open Go PI
set_option linter.unusedVariables false
set_option maxRecDepth 100000
noncomputable section
section
variable {S:Type} (hd:gZ S) (k:Nat) (t:Tm) (κ:Out UU→Option S)
end
section
variable {S:Type} (hd:g4 S) (k:Nat) (t:Tm) (κ:Out UU→Option S)
end
section
variable {S:Type} (hd:g5 S) (k:Nat) (t:Tm) (κ:Out UU→Option S)
end
section
variable {S:Type} (k:Nat) (s:ByteArray) (κ:Out UU→Option S)
end
section
variable {S:Type} (k:Nat) (a_n:Int) (κ:Out UU→Option S)
end
section
variable {S:Type} (k:Nat) (l:List Cl) (c:Cl) (κ:Out UU→Option S)
end
section
variable {S:Type} (k:Nat) (l:List Cl) (κ:Out UU→Option S)
end
section
variable {S:Type} (k:Nat) (l:List Int) (κ:Out UU→Option S)
end
section
variable {S:Type} (k:Nat) (f:List Cl) (κ:Out UU→Option S)
end
section
variable {S:Type} (k:Nat) (s:Int) (κ:Out UU→Option S)
end
section
variable {S:Type} (k:Nat) (kind kid:Int) (κ:Out UU→Option S)
end
section
variable {S:Type} (k:Nat) (c:Cl) (κ:Out UU→Option S)
end
section
variable {S:Type} (k:Nat) (f:List Cl) (κ:Out UU→Option S)
end
section
variable {S:Type} (hd:dP S) (k:Nat) (t:Tm) (vars dims:Int) (bound:Bool) (κ:Out UU→Option S)
end
section
variable {S:Type} (k:Nat) (kind:Int) (l:List (Br Tm)) (κ:Out UU→Option S)
end
section
variable {S:Type} (k:Nat) (l:List Tm) (κ:Out UU→Option S)
end
section
variable {S:Type} (k:Nat) (s a_from a_by:Int) (κ:Out UU→Option S)
end
end
end Go.Proofs.YtfkkpkhfjpaafaaGreatDoor
namespace Go.Proofs.YtfkkpkhfjpaafaaGreatDoor
open Go PI
set_option linter.unusedVariables false
set_option maxRecDepth 100000
noncomputable section
section
variable {S:Type} (k:Nat) (f:List Cl) (a_from a_by:Int) (κ:Out UU→Option S)
end
section
variable {S:Type} (hd:fL S) (k:Nat) (t:Tm) (v vby d dby:Int) (κ:Out UU→Option S)
end
section
variable {S:Type} (k:Nat) (kind:Int) (kids:List Tm) (κ:Out UU→Option S)
end
section
variable {S:Type} (k:Nat) (s i:Int) (κ:Out UU→Option S)
end
section
variable {S:Type} (k:Nat) (l:List Cl) (κ:Out UU→Option S)
end
section
variable {S:Type} (k:Nat) (c:Cl) (κ:Out UU→Option S)
end
section
variable {S:Type} (k:Nat) (a b:Int) (κ:Out UU→Option S)
end
section
variable {S:Type} (k:Nat) (f g:List Cl) (κ:Out UU→Option S)
end
section
variable {S:Type} (k:Nat) (f:List Cl) (κ:Out UU→Option S)
end
section
variable {S:Type} (k:Nat) (f g:List Cl) (κ:Out UU→Option S)
end
section
variable {S:Type} (k:Nat) (f:List Cl) (i:Int) (a_r:List Cl) (κ:Out UU→Option S)
end
section
variable {S:Type} (k:Nat) (f:List Cl) (i:Int) (a_r:List Cl) (κ:Out UU→Option S)
end
section
variable {S:Type} (k:Nat) (s i:Int) (κ:Out UU→Option S)
end
section
variable {S:Type} (k:Nat) (f:List Cl) (i:Int) (κ:Out UU→Option S)
end
section
variable {S:Type} (hd:g6 S) (k:Nat) (t:Tm) (i:Int) (a_r:List Cl) (depth:Int) (drop:Bool) (κ:Out UU→Option S)
end
end
end Go.Proofs.YtfkkpkhfjpaafaaGreatDoor
namespace Go.Proofs.YtfkkpkhfjpaafaaGreatDoor
open Go PI
set_option linter.unusedVariables false
set_option maxRecDepth 100000
noncomputable section
section
variable {S:Type} (k:Nat) (t a:Tm) (sys:List (Br Tm)) (κ:Out UU→Option S)
end
section
variable {S:Type} (hd:fM S) (k:Nat) (t:Tm) (a_n:Int) (κ:Out UU→Option S)
end
section
variable {S:Type} (k:Nat) (t:Tm) (a_from a_by:Int) (κ:Out UU→Option S)
end
section
variable {S:Type} (k:Nat) (t:Tm) (vars dims:Int) (κ:Out UU→Option S)
end
section
variable {S:Type} (hd:eO S) (k:Nat) (t:Tm) (a_n:Int) (u:Tm) (vars dims:Int) (κ:Out UU→Option S)
end
section
variable {S:Type} (k:Nat) (line a:Tm) (sys:List (Br Tm)) (κ:Out UU→Option S)
end
section
variable {S:Type} (k:Nat) (t:Tm) (κ:Out UU→Option S)
end
def aoz {S:Type} (hd:WX S):Rw S:=aj dV xn fun t κ=>hd t (aE κ)
def ir {S:Type} (hd:WX S) (k:Nat):Fx S:=fp 56 [(12,aoz hd),(36,jA k)] [(3,aS [1,3,13,14,15] [(1,6)],ap 5 11),(9,aS [3,35,36,37] [],ap 6 23),(12,aS [3,35,36,37,42,43,44] [],ap 14 6551)] k Tryz.f12 0
def aox (t:Tm) (v15 sum3:Int):St UU:=⟨[(1,(pt 1)),(3,(iI sum3)),(13,(sT t.kids)),(14,(.int .i64 (t.kids.length:Int))),(15,(iI v15))],[(1,bT t)],[],[]⟩
def aob (t:Tm) (sum3' v37:Int):St UU:=⟨[(3,(iI sum3')),(35,(sB t.sys)),(36,(.int .i64 (t.sys.length:Int))),(37,(iI v37))],[],[],[]⟩
def oE (t:Tm) (v37:Int) (x4:(Br Tm)) (sum3'' v44:Int):St UU:=⟨[(3,(iI sum3'')),(35,(sB t.sys)),(36,(.int .i64 (t.sys.length:Int))),(37,(iI v37)),(42,(sT x4.kids)),(43,(.int .i64 (x4.kids.length:Int))),(44,(iI v44))],[],[],[]⟩
section
variable {S:Type} (hd:WX S) (k:Nat) (t:Tm) (κ:Out UU→Option S)
theorem qC (v37 x4 κ1): ∀n sum3'' v44,(ir hd k).lp κ 12 [κ1] n (oE t v37 x4 sum3'' v44)=iM hd k (aE κ) (fun sum3' v37=>κ1 (aob t sum3' v37)) t v37 x4 n sum3'' v44:=aL (lG hd k (aE κ) t v37 x4 (fun sum3' v37=>κ1 (aob t sum3' v37))) rfl (fun _=>rfl) fun r sum3'' v44=>by kernel_rfl
theorem qB: ∀n sum3' v37,(ir hd k).lp κ 9 [] n (aob t sum3' v37)=hZ hd k (aE κ) t n sum3' v37:=aL (fun own=>j9 hd k (aE κ) t (fun v37 x4 sum3'' v44=>iM hd k (aE κ) own t v37 x4 k sum3'' v44) own) rfl (fun _=>rfl) fun r sum3' v37=>Eq.trans (b:=j9 hd k (aE κ) t (fun v37 x4 sum3'' v44=>(ir hd k).lp κ 12 [r] k (oE t v37 x4 sum3'' v44)) (fun sum3' v37=>r (aob t sum3' v37)) sum3' v37) (by kernel_rfl) (by simp only [qC])
theorem qA: ∀n v15 sum3,(ir hd k).lp κ 3 [] n (aox t v15 sum3)=jm hd k (aE κ) t n v15 sum3:=aL (fun own=>j4 hd k (aE κ) t (fun sum3' v37=>hZ hd k (aE κ) t k sum3' v37) own) rfl (fun _=>rfl) fun r v15 sum3=>Eq.trans (b:=j4 hd k (aE κ) t (fun sum3' v37=>(ir hd k).lp κ 9 [] k (aob t sum3' v37)) (fun v15 sum3=>r (aox t v15 sum3)) v15 sum3) (by kernel_rfl) (by simp only [qB])
end
theorem nU {S:Type} (o:Obj) (ho:ai o): ∀k:Nat,Tl o 12 (aoz (fH k:WX S))
 |0=>dz fun t κ x h=>by cases h
 |k+1=>ak (ir (fH k) k) ⟨nU o ho k,kc o ho k,trivial⟩ Tryz.func12 (by kernel_rfl) fun t κ x h=>Eq.trans (b:=aoC (fH k) k (aE κ) (fun v15 sum3=>(ir (fH k) k).lp κ 3 [] k (aox t v15 sum3)) t) (by kernel_rfl) (Eq.trans (by simp only [qA];rfl) h)
def aoK {S:Type} (k:Nat):Rw S:=aj amR xn fun t vars dims κ=>aa k (anX k t vars dims) (aE κ)
def qz {S:Type} (k:Nat):Fx S:=fp 28 [(37,Ol k),(38,vM (ic k))] [] k Tryz.f13 0
theorem apj {S:Type} (o:Obj) (ho:ai o) (k:Nat):Tl o 13 (aoK k:Rw S):=ak (qz k) ⟨aaA o ho k,K5 o ho k,trivial⟩ Tryz.func13 (by kernel_rfl) fun t vars dims κ x h=>Eq.trans (by kernel_rfl) (al h)
def aoj {S:Type} (k:Nat):Rw S:=aj amR xn fun t vars many κ=>aa k (l_ k t vars many) (aA κ)
def gT {S:Type} (k:Nat):Fx S:=fp 149 [(6,Od k),(7,OW k),(9,Gk k),(11,vF (d8 k)),(12,aoz (fH k)),(13,aoK k),(14,OT k),(15,A3 k)] [(1000009,aS [3,7,8,10,11] [(3,6),(7,6),(10,6)],ap 6 63),(1000011,aS [3,7,8,10,11] [(3,6),(7,6),(10,6)],ap 7 127),(1000019,aS [13,14] [(13,6),(14,6)],ap 12 4095),(20,aS [13,14,130,131] [(13,6),(14,6)],ap 15 12287)] k Tryz.f4 0
def oF (r6:Tm×Bool×Int) (t:Tm) (r5:Tm×Bool×Int):St UU:=⟨[(3,(pt 3)),(7,(pt 7)),(8,(.bool r5.2.1)),(10,(pt 10)),(11,(.bool r6.2.1))],[(3,bT t),(7,bT r5.1),(10,bT r6.1)],[],[]⟩
def aoH (r6:Tm×Bool×Int) (t:Tm) (r5:Tm×Bool×Int):St UU:=⟨[(3,(pt 3)),(7,(pt 7)),(8,(.bool r5.2.1)),(10,(pt 10)),(11,(.bool r6.2.1))],[(3,bT t),(7,bT r5.1),(10,bT r6.1)],[],[]⟩
def aoI (x11:Tm) (b14:Tm):St UU:=⟨[(13,(pt 13)),(14,(pt 14))],[(13,bT x11),(14,bT b14)],[],[]⟩
def aoJ (x11 b14:Tm) (v131:Int):St UU:=⟨[(13,(pt 13)),(14,(pt 14)),(130,(.int .i64 (x11.sys.length:Int))),(131,(iI v131))],[(13,bT x11),(14,bT b14)],[],[]⟩
section
variable {S:Type} (k:Nat) (t:Tm) (vars many:Int) (κ:Out UU→Option S)
theorem qI (x11 b14): ∀n v131,(gT k).lp κ 20 [] n (aoJ x11 b14 v131)=iz k (aA κ) x11 b14 n v131:=cF (lE k (aA κ) x11 b14) rfl (fun _=>rfl) fun r v131=>by kernel_rfl
theorem qG (x11): ∀n b14,(gT k).jn κ 1000019 [] n (aoI x11 b14)=an6 k (aA κ) x11 n b14:=nx (lD k (aA κ) x11 (fun b14 v131=>iz k (aA κ) x11 b14 k v131)) rfl (fun _=>rfl) (fun b14=>Eq.trans (b:=lD k (aA κ) x11 (fun b14 v131=>(gT k).lp κ 20 [] k (aoJ x11 b14 v131)) b14) (by kernel_rfl) (by simp only [qI]))
theorem qE (r6 r5): ∀n,(gT k).jn κ 1000011 [] n (aoH r6 t r5)=an5 k (aA κ) r6 t r5 n:=gL (lA k (aA κ) r6 t r5 (fun x11 b14=>an6 k (aA κ) x11 k b14)) rfl (fun _=>rfl) (Eq.trans (b:=lA k (aA κ) r6 t r5 (fun x11 b14=>(gT k).jn κ 1000019 [] k (aoI x11 b14))) (by kernel_rfl) (by simp only [qG]))
theorem qD (r6 r5): ∀n,(gT k).jn κ 1000009 [] n (oF r6 t r5)=anV k (aA κ) r6 t r5 n:=gL (lz k (aA κ) r6 t r5 (an5 k (aA κ) r6 t r5 k)) rfl (fun _=>rfl) (Eq.trans (b:=lz k (aA κ) r6 t r5 ((gT k).jn κ 1000011 [] k (aoH r6 t r5))) (by kernel_rfl) (by simp only [qE]))
end
theorem apk {S:Type} (o:Obj) (ho:ai o) (k:Nat):Tl o 4 (aoj k:Rw S):=ak (gT k) ⟨eX1 o ho k,aa8 o ho k,JY o ho k,EH o ho k,nU o ho k,apj o ho k,aa5 o ho k,D_ o ho k,trivial⟩ Tryz.func4 (by kernel_rfl) fun t vars many κ x h=>Eq.trans (b:=aoB k (aA κ) (fun r6 r5=>(gT k).jn κ 1000009 [] k (oF r6 t r5)) t vars many) (by kernel_rfl) (Eq.trans (by simp only [qD];rfl) (al h))
section
variable {S:Type} (k:Nat) (t:Tm) (κ:Out UU→Option S)
end
end
end Go.Proofs.YtfkkpkhfjpaafaaGreatDoor
namespace Go.Proofs.YtfkkpkhfjpaafaaGreatDoor
open Go PI
set_option linter.unusedVariables false
set_option maxRecDepth 100000
noncomputable section
section
variable {S:Type} (k:Nat) (s:List (Br Tm)) (κ:Out UU→Option S)
end
section
variable {S:Type} (k:Nat) (defs:List Df) (t:Tm) (κ:Out UU→Option S)
end
section
variable {S:Type} (k:Nat) (defs:List Df) (t:Tm) (κ:Out UU→Option S)
end
section
variable {S:Type} (k:Nat) (l:List (List Cl)) (κ:Out UU→Option S)
end
theorem aqq {S:Type} (o:Obj) (ho:ai o) (k:Nat):Tl o 4 (aoj k:Rw S):=apk o ho k
end
end Go.Proofs.YtfkkpkhfjpaafaaGreatDoor
namespace Go.Proofs.YtfkkpkhfjpaafaaGreatDoor
open Go PI
set_option linter.unusedVariables false
set_option linter.unusedSimpArgs false
variable {S:Type} {k:Nat}
def bE {α β:Type} (x:Except Int α) (f:α→Except Int β):Except Int β:=match x with
 | .error e=> .error e
 | .ok a=>f a
theorem aD {α β:Type} (a:α) (f:α→Except Int β):bE (.ok a) f=f a:=rfl
theorem lk {α β:Type} (e:Int) (f:α→Except Int β):bE (.error e) f= .error e:=rfl
theorem i8 {α β:Type} {x:Except Int α} {f:α→Except Int β} {b:β} (h:bE x f= .ok b): ∃a,x= .ok a∧f a= .ok b:=by
 cases x with
 |error e=>cases h
 |ok a=>exact ⟨a,rfl,h⟩
theorem be {α β:Type} {x:Except Int α} {f:α→Except Int β} {e:Int} (h:bE x f= .error e):x= .error e∨ ∃a,x= .ok a∧f a= .error e:=by
 cases x with
 |error e=>injection h with h;grind
 |ok a=>exact .inr ⟨a,rfl,h⟩
def toE (x:List Cl×Int):Except Int (List Cl):=if x.2=0 then .ok x.1 else .error x.2
theorem jF {x:List Cl×Int} (h:x.2=0):toE x= .ok x.1:=if_pos h
theorem iO {x:List Cl×Int} (h:x.2≠0):toE x= .error x.2:=if_neg h
theorem rR {x:List Cl×Int} {l:List Cl} (h:toE x= .ok l):x.2=0∧x.1=l:=by
 grind [toE]
theorem B0 {x:List Cl×Int} {e:Int} (h:toE x= .error e):x.2≠0∧x.2=e:=by
 grind [toE]
def EN (e:Int):Prop:=0≤e∧e≤1000
theorem uq:EN 0:=by unfold EN;omega
theorem lO:EN 2:=by unfold EN;omega
theorem en3:EN 3:=by unfold EN;omega
theorem acI:EN 10:=by unfold EN;omega
theorem qW (l:List Cl):EN (bp l).2:=by
 grind [bp,en3,uq,lO]
theorem z8 {step:List Cl→Cl→List Cl×Int} (hs: ∀h c,EN (step h c).2): ∀ {r h:List Cl},EN (adU step h r).2:=by
 intro r
 induction r<;>grind [uq,adU]
theorem agu (s i b:Int):EN (alS s i b).2:=by
 grind [alS,lO,amc,uq,acI]
theorem agk (c:Cl) (i b:Int):EN (dw c i b).2:=by
 grind [dw,agu,lO]
theorem q_ (f:List Cl) (i b:Int):EN (agS f i b).2:=by
 unfold agS
 split
 ·split
  ·exact qW _
  ·exact z8 fun h c=>agk c i b
 ·exact lO
theorem T8 {n b x y:Nat} (h:up1 n b x=up1 n b y):x=y:=by
 grind [up1]
theorem ak2 (n b:Nat) {l:List Nat} (h:l.Nodup):(l.map (up1 n b)).Nodup:=
 List.Pairwise.map (S:=fun a b=>a≠b) (R:=fun a b=>a≠b) _ (fun x y hxy h=>hxy (T8 h)) h
theorem ags {m n b:Nat} (h:(amc m n b).2=0) (j:Nat):(amc m n b).1.testBit j=true↔ ∃x,x<24∧m.testBit x=true∧up1 n b x=j:=by
 rw [Fg] at h ⊢
 split<;>grind [oG,ak2,oY,mem_bitsN]
theorem ZC {m:Nat} (h:m<16777216):m&&&M24=m:=by
 apply Nat.eq_of_testBit_eq
 grind [g8,oZ]
theorem acY {i b:Int}: ∀ {r h:List Cl},(adU (dK i b) h r).2=0→(∀c∈r,(dw c i b).2=0)∧(adU (dK i b) h r).1=h++r.map fun c=>(dw c i b).1:=by
 intro r
 induction r<;>grind [adU,dK]
theorem agn {f:List Cl} {i b:Int} (h:(agS f i b).2=0): ∀c∈(agS f i b).1,∃d∈f,(dw d i b).2=0∧c=(dw d i b).1:=by
 grind [agS,acY,bp,mem_mins]
theorem ZY {c:Cl}:bS c=false↔ ∀j,¬ (c.pos.toNat.testBit j=true∧c.neg.toNat.testBit j=true):=by
 unfold bS
 rw [Bool.not_eq_false',decide_eq_true_eq]
 constructor
 ·intro h j ⟨h1,h2⟩
  have:(c.pos.toNat&&&c.neg.toNat).testBit j=true:=by grind
  grind
 ·intro h
  apply Nat.eq_of_testBit_eq
  grind
theorem agt {s i b:Int} (h:(alS s i b).2=0) {j:Nat} (hj:(alS s i b).1.toNat.testBit j=true): ∃x,s.toNat.testBit x=true∧up1 i.toNat b.toNat x=j:=by
 unfold alS at h hj
 split at h
 ·cases h
 ·next hn=>
  rw [if_neg hn] at hj
  have h':(amc s.toNat i.toNat b.toNat).2=0:=by
   omega
  obtain ⟨x,_,h2,h3⟩:=(ags h' j).1 hj
  grind
theorem agj {c:Cl} {i b:Int} (h:(dw c i b).2=0) (hc:bS c=false):bS (dw c i b).1=false:=by
 grind [ZY,dw,agt,T8]
def alN (d b:Int) (f:List Cl):Except Int (List Cl):=if b=0∨d≥24 then .ok f else toE (agS f d b)
theorem GY {d b:Int} {f g:List Cl} (hf:RF f) (h:alN d b f= .ok g):RF g:=by
 grind [alN,rR,kQ]
theorem Bq {d b:Int} {f:List Cl} {e:Int} (h:alN d b f= .error e):0<e∧e≤1000:=by
 grind [alN,B0,q_,EN]
theorem aiw {d b:Int} {f g:List Cl} (hf:f.all (fun c=> !bS c)=true) (h:alN d b f= .ok g):g.all (fun c=> !bS c)=true:=by
 grind [alN,rR,agn,agj]
theorem Bt (d b:Int):alN d b []= .ok []:=by
 unfold alN
 split
 all_goals rfl
mutual
def acr (vb db v d:Int):Tm→Except Int Tm
 | .mk kd n nm r ks sys=>
  if kd=1∧n≥v∧n>1000000000-vb then .error 100
  else bE (alN d db r) fun r'=>bE (dm vb db v d kd 0 ks) fun ks'=>bE (alT vb db v d kd sys) fun sys'=> .ok (.mk kd (if kd=1∧n≥v then n+vb else n) nm r' ks' sys')
def dm (vb db v d kd:Int) (i:Nat):List Tm→Except Int (List Tm)
 |[]=> .ok []
 |t::l=>bE (acr vb db (v+bz kd i) (d+bJ kd i) t) fun t'=>bE (dm vb db v d kd (i+1) l) fun l'=> .ok (t'::l')
def alT (vb db v d kd:Int):List (Br Tm)→Except Int (List (Br Tm))
 |[]=> .ok []
 |b::l=>bE (n8 vb db v d kd b) fun b'=>bE (alT vb db v d kd l) fun l'=> .ok (b'::l')
def n8 (vb db v d kd:Int):Br Tm→Except Int (Br Tm)
 | .mk f ks=>bE (alN d db f) fun f'=>bE (alP vb db v d kd ks) fun ks'=> .ok (.mk f' ks')
def alP (vb db v d kd:Int):List Tm→Except Int (List Tm)
 |[]=> .ok []
 |t::l=>bE (acr vb db v (d+av kd) t) fun t'=>bE (alP vb db v d kd l) fun l'=> .ok (t'::l')
end
mutual
def RowsT:Tm→Prop
 | .mk kd n nm r ks sys=>(RF r∧(kd=1→r=[])∧0≤kd)∧dQ ks∧eA sys
def dQ:List Tm→Prop
 |[]=>True
 |t::l=>RowsT t∧dQ l
def eA:List (Br Tm)→Prop
 |[]=>True
 |b::l=>mZ b∧eA l
def mZ:Br Tm→Prop
 | .mk f ks=>RF f∧dQ ks
end
theorem rowsK_iff: ∀ {l:List Tm},dQ l↔ ∀t∈l,RowsT t:=by
 intro l
 induction l<;>grind [dQ]
theorem G3 {b:Br Tm}:mZ b↔RF b.face∧ ∀t∈b.kids,RowsT t:=by cases b;rw [mZ,rowsK_iff]
theorem rowsS_iff: ∀ {l:List (Br Tm)},eA l↔ ∀b∈l,RF b.face∧ ∀t∈b.kids,RowsT t:=by
 intro l
 induction l<;>grind [eA,G3]
end Go.Proofs.YtfkkpkhfjpaafaaGreatDoor
namespace Go.Proofs.YtfkkpkhfjpaafaaGreatDoor
open Go PI
set_option linter.unusedVariables false
set_option linter.unusedSimpArgs false
variable {S:Type} {k:Nat}
inductive F2 {α β:Type} (R:α→β→Prop):List α→List β→Prop
 |nil:F2 R [] []
 |cons {a:α} {b:β} {l:List α} {m:List β}:R a b→F2 R l m→F2 R (a::l) (b::m)
theorem F2.len {α β:Type} {R:α→β→Prop} {l:List α} {m:List β} (h:F2 R l m):m.length=l.length:=by
 induction h<;>grind
theorem F2.imp {α β:Type} {R Q:α→β→Prop} {l:List α} {m:List β} (h:F2 R l m) (hq: ∀a b,R a b→Q a b):F2 Q l m:=by
 induction h<;>grind [nil,cons]
theorem ago {vb db v d kd:Int} {R:Tm→Tm→Prop}: ∀ {l:List Tm} {i:Nat} {l':List Tm},(∀x∈l,∀v d x',acr vb db v d x= .ok x'→R x x')→dm vb db v d kd i l= .ok l'→F2 R l l':=by
 intro l
 induction l with
 |nil=>intro i l' _ h;rw [dm] at h;injection h with h;subst h;exact .nil
 |cons t l ih=>
  intro i l' hr h
  rw [dm] at h
  obtain ⟨t',h1,h⟩:=i8 h
  obtain ⟨m,h2,h⟩:=i8 h
  injection h with h;subst h
  exact .cons (hr t (by simp) _ _ _ h1) (ih (fun x hx=>hr x (by simp [hx])) h2)
theorem agp {vb db v d kd:Int} {R:Tm→Tm→Prop}: ∀ {l:List Tm} {l':List Tm},(∀x∈l,∀v d x',acr vb db v d x= .ok x'→R x x')→alP vb db v d kd l= .ok l'→F2 R l l':=by
 intro l
 induction l with
 |nil=>intro l' _ h;rw [alP] at h;injection h with h;subst h;exact .nil
 |cons t l ih=>
  intro l' hr h
  rw [alP] at h
  obtain ⟨t',h1,h⟩:=i8 h
  obtain ⟨m,h2,h⟩:=i8 h
  injection h with h;subst h
  exact .cons (hr t (by simp) _ _ _ h1) (ih (fun x hx=>hr x (by simp [hx])) h2)
theorem agv {vb db v d kd:Int} {R:Tm→Tm→Prop}: ∀ {l l':List (Br Tm)},(∀b∈l,∀x∈b.kids,∀v d x',acr vb db v d x= .ok x'→R x x')→alT vb db v d kd l= .ok l'→
  F2 (fun b b'=>alN d db b.face= .ok b'.face∧F2 R b.kids b'.kids) l l':=by
 intro l
 induction l with
 |nil=>intro l' _ h;rw [alT] at h;injection h with h;subst h;exact .nil
 |cons b l ih=>
  intro l' hr h
  rw [alT] at h
  obtain ⟨b',h1,h⟩:=i8 h
  obtain ⟨m,h2,h⟩:=i8 h
  injection h with h;subst h
  cases b with
  |mk f ks=>
   rw [n8] at h1
   obtain ⟨f',h3,h1⟩:=i8 h1
   obtain ⟨ks',h4,h1⟩:=i8 h1
   injection h1 with h1;subst h1
   exact .cons ⟨h3,agp (hr ⟨f,ks⟩ (by simp)) h4⟩ (ih (fun b hb=>hr b (by simp [hb])) h2)
theorem Av {f:List Cl} {d:Int} (h:24≤d):dg f d=true:=by
 grind [dg,mem_bitsN]
def Up (x x':Tm):Prop:=am x'=am x∧au x'=au x∧x'.kind=x.kind∧(OkT x→OkT x'∧(RowsT x→RowsT x')∧ ∀dd dd',24≤dd→24≤dd'→a6 false (-1) dd x=true→a6 false (-1) dd' x'=true)
theorem Ua {l l':List Tm} (h:F2 Up l l'):aH l'=aH l:=by
 induction h with
 |nil=>rfl
 |cons h1 _ ih=>rw [aH,aH,h1.1,ih]
theorem Ud {l l':List Tm} (h:F2 Up l l'):ay l'=ay l:=by
 induction h with
 |nil=>rfl
 |cons h1 _ ih=>rw [ay,ay,h1.2.1,ih]
theorem ala {l l':List (Br Tm)} (h:F2 (fun b b':Br Tm=>F2 Up b.kids b'.kids) l l'):aO l'=aO l:=by
 induction h with
 |nil=>rfl
 |cons h1 _ ih=>grind [aO,pD,Ua]
theorem alb {l l':List (Br Tm)} (h:F2 (fun b b':Br Tm=>F2 Up b.kids b'.kids) l l'):aI l'=aI l:=by
 induction h with
 |nil=>rfl
 |cons h1 _ ih=>grind [aI,kZ,Ud]
theorem Ub {l l':List Tm} (h:F2 Up l l'):aZ l→aZ l':=by
 induction h with
 |nil=>exact id
 |cons h1 _ ih=>rw [aZ,aZ];exact fun h=>⟨(h1.2.2.2 h.1).1,ih h.2⟩
theorem Uc {l l':List Tm} (h:F2 Up l l'):aZ l→dQ l→dQ l':=by
 induction h with
 |nil=>simp
 |cons h1 _ ih=>rw [aZ,dQ,dQ];exact fun h g=>⟨(h1.2.2.2 h.1).2.1 g.1,ih h.2 g.2⟩
theorem B2 (v:Int):cQ (-1) v= -1:=by rfl
theorem ak9 {kd dd dd':Int} (h1:24≤dd) (h2:24≤dd') {l l':List Tm} (h:F2 Up l l'): ∀ {i:Nat},aZ l→bO false (-1) dd kd i l=true→bO false (-1) dd' kd i l'=true:=by
 induction h with
 |nil=>exact fun _ h=>h
 |cons h3 _ ih=>
  intro i
  rw [aZ,bO,bO,Bool.and_eq_true,Bool.and_eq_true,B2]
  have:=gr kd i
  exact fun h g=>⟨(h3.2.2.2 h.1).2.2 _ _ (by omega) (by omega) g.1,ih h.2 g.2⟩
theorem ak_ {kd dd dd':Int} (h1:24≤dd) (h2:24≤dd') {l l':List Tm} (h:F2 Up l l'):aZ l→ca false (-1) dd kd l=true→ca false (-1) dd' kd l'=true:=by
 induction h with
 |nil=>exact fun _ h=>h
 |cons h3 _ ih=>
  rw [aZ,ca,ca,Bool.and_eq_true,Bool.and_eq_true]
  have:=dy kd
  exact fun h g=>⟨(h3.2.2.2 h.1).2.2 _ _ (by omega) (by omega) g.1,ih h.2 g.2⟩
def oN (d db:Int) (b b':Br Tm):Prop:=alN d db b.face= .ok b'.face∧F2 Up b.kids b'.kids
theorem QG {d db:Int} {f g:List Cl} (h:alN d db f= .ok g) (hf:aq f) (hl:f.length<1073741824):aq g∧g.length<1073741824:=by
 unfold alN at h
 split at h
 ·grind
 ·obtain ⟨h1,rfl⟩:=rR h
  have:=kQ h1
  exact ⟨this.2,by have:=this.len;omega⟩
theorem QH {d db:Int} {f g:List Cl} (h:alN d db f= .ok g) (hf:aq f) (hr:bF f=true):bF g=true:=(GY ((fF hf).1 hr) h).right
theorem QF {d db:Int} {f g:List Cl} (h:alN d db f= .ok g) (hf:aq f) (hr:cV f=true):cV g=true:=by
 grind [cV,QH,aiw]
theorem aiv {d db:Int} {f g:List Cl} (h:alN d db f= .ok g) (hf:f.length=0):g.length=0:=by
 grind [Bt]
theorem ak6 {d db:Int} {l l':List (Br Tm)} (h:F2 (oN d db) l l'):ba l→ba l':=by
 induction h with
 |nil=>exact id
 |cons h1 _ ih=>
  rw [ba,ba,oh,oh]
  intro h
  have h3:=QG h1.1 h.1.1.1 h.1.1.2.1
  exact ⟨⟨⟨h3.1,h3.2,by have:=h1.2.len;omega⟩,okK_iff.1 (Ub h1.2 (okK_iff.2 h.1.2))⟩,ih h.2⟩
theorem ak8 {d db:Int} {l l':List (Br Tm)} (h:F2 (oN d db) l l'):ba l→eA l→eA l':=by
 induction h with
 |nil=>simp
 |cons h1 _ ih=>
  rw [ba,oh,eA,eA,G3,G3]
  intro h g
  exact ⟨⟨GY g.1.1 h1.1,rowsK_iff.1 (Uc h1.2 (okK_iff.2 h.1.2) (rowsK_iff.2 g.1.2))⟩,ih h.2 g.2⟩
theorem ak5 {d db kd dd dd':Int} (h1:24≤dd) (h2:24≤dd') {l l':List (Br Tm)} (h:F2 (oN d db) l l'):ba l→ck false (-1) dd kd l=true→ck false (-1) dd' kd l'=true:=by
 induction h with
 |nil=>exact fun _ h=>h
 | @cons a b _ _ h3 _ ih=>
  rw [ba,oh,ck,ck,Bool.and_eq_true,Bool.and_eq_true]
  intro h g
  refine ⟨?_,ih h.2 g.2⟩
  cases a;cases b
  have g1:=g.1
  rw [jT] at g1 ⊢
  exact ak_ h1 h2 h3.2 (okK_iff.2 h.1.2) g1
theorem ak7 {d db kd dd dd':Int} (h1:24≤dd) (h2:24≤dd') {l l':List (Br Tm)} (h:F2 (oN d db) l l'):ba l→l.all (bX kd dd)=true→l'.all (bX kd dd')=true:=by
 induction h with
 |nil=>simp
 | @cons a b _ _ h3 _ ih=>
  rw [ba,oh,List.all_cons,List.all_cons,Bool.and_eq_true,Bool.and_eq_true]
  intro h g
  refine ⟨?_,ih h.2 g.2⟩
  have g1:=g.1
  unfold bX at g1 ⊢
  rw [Bool.and_eq_true,Bool.and_eq_true,decide_eq_true_eq] at g1 ⊢
  rw [h3.2.len]
  exact ⟨g1.1,QF h3.1 h.1.1.1 g1.2.1,Av h2⟩
theorem T_ {d db:Int} {l l':List (Br Tm)} (h:F2 (oN d db) l l'):F2 (fun b b':Br Tm=>F2 Up b.kids b'.kids) l l':=h.imp fun _ _ h=>h.2
theorem uP {vb db:Int} (hvb:0≤vb) (hvb':vb≤1000000000) (t:Tm): ∀v d t',acr vb db v d t= .ok t'→Up t t':=by
 induction t using gq with
 |h kd n nm r ks sys ih1 ih2=>
  intro v d t' h
  rw [acr] at h
  split at h
  ·cases h
  next hv=>
  obtain ⟨r',hr,h⟩:=i8 h
  obtain ⟨ks',hk,h⟩:=i8 h
  obtain ⟨sys',hs,h⟩:=i8 h
  injection h with h;subst h
  have fk:F2 Up ks ks':=ago (fun x hx v d x'=>ih1 x hx v d x') hk
  have fs:F2 (oN d db) sys sys':=agv (fun b hb x hx v d x'=>ih2 b hb x hx v d x') hs
  refine ⟨?_, ?_,rfl,fun hok=> ?_⟩
  ·grind [am,Ua,ala,T_]
  ·grind [au,Ud,alb,T_]
  ·obtain ⟨o1,o2,o3,o4,o5,o6,o7⟩:=hok.node
   have hok':=hok
   rw [OkT] at hok'
   obtain ⟨_,ok,os⟩:=hok'
   have hr':=QG hr o4 o5
   have o2':=o2
   unfold aG at o2'
   refine ⟨?_, ?_, ?_⟩
   ·rw [OkT]
    refine ⟨⟨o1, ?_,o3,hr'.1,hr'.2,by rw [fk.len];exact o6,by rw [fs.len];exact o7⟩,Ub fk ok,ak6 fs os⟩
    grind [aG]
   ·grind [RowsT,GY,Uc,ak8,Bt]
   ·intro dd dd' h1 h2
    rw [a6,a6]
    simp only [Bool.false_and,Bool.not_false,Bool.true_and,Bool.and_eq_true]
    rintro ⟨a,b,c⟩
    refine ⟨?_,ak9 h1 h2 fk ok b,ak5 h1 h2 fs os c⟩
    unfold cL at a ⊢
    simp only [Bool.and_eq_true,decide_eq_true_eq,fk.len,fs.len] at a ⊢
    grind [aiv,QH,Av,QF,ak7]
theorem aed {kd:Int} {n:Nat} (h:ct kd=n):0≤kd:=by
 grind [ct]
theorem ZA {bd:Bool} (t:Tm): ∀ {vars dims:Int},OkT t→a6 bd vars dims t=true→RowsT t:=by
 induction t using gq with
 |h kd n nm r ks sys ih1 ih2=>
  intro vars dims hok h
  rw [a6,Bool.and_eq_true,Bool.and_eq_true,Bool.and_eq_true] at h
  obtain ⟨_,a,b,c⟩:=h
  obtain ⟨o1,o2,o3,o4,o5,o6,o7⟩:=hok.node
  have hok':=hok
  rw [OkT] at hok'
  obtain ⟨_,ok,os⟩:=hok'
  have hkids: ∀ {l:List Tm} {i:Nat},(∀x∈l,∀ {vars dims:Int},OkT x→a6 bd vars dims x=true→RowsT x)→aZ l→bO bd vars dims kd i l=true→dQ l:=by
   intro l
   induction l<;>grind [dQ,bO,aZ]
  rw [wH,List.all_eq_true] at c
  unfold cL at a
  simp only [Bool.and_eq_true,decide_eq_true_eq] at a
  obtain ⟨⟨a1,a2,a3,a4⟩,a5⟩:=a
  have r0: ∀ {l:List Cl},l.length=0→RF l:=fun h=>by
   grind [rA]
  rw [RowsT]
  have hfaces:(sys=[]∨sys.all (bX kd dims)=true)∧RF r∧(kd=1→r=[]):=by
   have nosys:cz kd=0→sys=[]:=fun h=>List.length_eq_zero_iff.1 (a4 h)
   by_cases c1:kd=1
   ·rw [if_pos c1] at a5
    simp only [Bool.and_eq_true,decide_eq_true_eq] at a5
    exact ⟨.inl (nosys (by subst c1;decide)),r0 a5.1,fun _=>List.length_eq_zero_iff.1 a5.1⟩
   ·rw [if_neg c1] at a5
    by_cases c2:kd=2
    ·rw [if_pos c2] at a5
     simp only [Bool.and_eq_true,decide_eq_true_eq] at a5
     exact ⟨.inl (nosys (by subst c2;decide)),r0 a5.1,fun h=>absurd h c1⟩
    ·rw [if_neg c2] at a5
     by_cases c3:kd=13∨kd=21∨kd=26
     ·rw [if_pos c3,Bool.and_eq_true] at a5
      exact ⟨.inl (nosys (by rcases c3 with rfl|rfl|rfl<;>decide)),(fF o4).1 a5.1,fun h=>absurd h c1⟩
     ·rw [if_neg c3] at a5
      by_cases c4:kd=14
      ·rw [if_pos c4,Bool.and_eq_true] at a5
       unfold cV at a5
       rw [Bool.and_eq_true] at a5
       exact ⟨.inl (nosys (by subst c4;decide)),(fF o4).1 a5.1.1,fun h=>absurd h c1⟩
      grind
  refine ⟨⟨hfaces.2.1,hfaces.2.2,aed a1⟩,hkids (fun x hx=>ih1 x hx) ok b, ?_⟩
  rw [rowsS_iff]
  intro br hbr
  have hc:=c br hbr
  rw [List.all_eq_true] at hc
  have hob:=hok.br hbr
  refine ⟨?_,fun x hx=>ih2 br hbr x hx (hob.2 x hx) (hc x hx)⟩
  rcases hfaces.1 with h|h<;>grind [bX,cV,fF]
theorem amo {vb db:Int} (t:Tm): ∀ {v d e},acr vb db v d t= .error e→0<e∧e≤1000:=by
 induction t using gq with
 |h kd n nm r ks sys ih1 ih2=>
  intro v d e h
  rw [acr] at h
  split at h
  ·grind
  rcases be h with h|⟨_,_,h⟩
  ·exact Bq h
  have hkids: ∀ {l:List Tm} {i:Nat},(∀x∈l,∀ {v d e},acr vb db v d x= .error e→0<e∧e≤1000)→dm vb db v d kd i l= .error e→0<e∧e≤1000:=by
   intro l
   induction l with
   |nil=>grind [dm]
   |cons t l ih=>
    intro i hl h
    rw [dm] at h
    rcases be h with h|⟨_,_,h⟩
    ·exact hl t (by simp) h
    grind [be]
  have hmore: ∀ {l:List Tm},(∀x∈l,∀ {v d e},acr vb db v d x= .error e→0<e∧e≤1000)→ ∀ {e},alP vb db v d kd l= .error e→0<e∧e≤1000:=by
   intro l
   induction l with
   |nil=>grind [alP]
   |cons t l ih=>
    intro hl e h
    rw [alP] at h
    rcases be h with h|⟨_,_,h⟩
    ·grind
    ·rcases be h with h|⟨_,_,h⟩
     ·exact ih (fun x hx=>hl x (by simp [hx])) h
     simp_all
  have hsys: ∀ {l:List (Br Tm)},(∀b∈l,∀x∈b.kids,∀ {v d e},acr vb db v d x= .error e→0<e∧e≤1000)→alT vb db v d kd l= .error e→0<e∧e≤1000:=by
   intro l
   induction l with
   |nil=>grind [alT]
   |cons b l ih=>
    intro hl h
    rw [alT] at h
    rcases be h with h|⟨_,_,h⟩
    ·cases b with
     |mk f ks'=>
      rw [n8] at h
      rcases be h with h|⟨_,_,h⟩
      ·exact Bq h
      ·rcases be h with h|⟨_,_,h⟩
       ·exact hmore (hl (Br.mk f ks') (by simp)) h
       ·cases h
    grind [be]
  grind [be]
end Go.Proofs.YtfkkpkhfjpaafaaGreatDoor
namespace Go.Proofs.YtfkkpkhfjpaafaaGreatDoor
open Go PI
set_option linter.unusedVariables false
set_option linter.unusedSimpArgs false
variable {S:Type} {k:Nat}
abbrev dC:=Int→List Cl→Except Int (List Cl)
mutual
def ab7 (fo fa:dC) (d:Int):Tm→Except Int Tm
 | .mk kd n nm r ks sys=>bE (if kd=14 then fa d r else fo d r) fun r'=>bE (aig fo fa d kd 0 ks) fun ks'=>bE (acM fo fa d kd sys) fun sys'=> .ok (.mk kd n nm r' ks' sys')
def aig (fo fa:dC) (d kd:Int) (i:Nat):List Tm→Except Int (List Tm)
 |[]=> .ok []
 |t::l=>bE (ab7 fo fa (d+bJ kd i) t) fun t'=>bE (aig fo fa d kd (i+1) l) fun l'=> .ok (t'::l')
def acM (fo fa:dC) (d kd:Int):List (Br Tm)→Except Int (List (Br Tm))
 |[]=> .ok []
 |b::l=>bE (amn fo fa d kd b) fun o=>bE (acM fo fa d kd l) fun l'=> .ok (o++l')
def amn (fo fa:dC) (d kd:Int):Br Tm→Except Int (List (Br Tm))
 | .mk f ks=>bE (fa d f) fun f'=>if f'.length=0 then .ok [] else bE (akP fo fa d kd ks) fun ks'=> .ok [.mk f' ks']
def akP (fo fa:dC) (d kd:Int):List Tm→Except Int (List Tm)
 |[]=> .ok []
 |t::l=>bE (ab7 fo fa (d+av kd) t) fun t'=>bE (akP fo fa d kd l) fun l'=> .ok (t'::l')
end
theorem alf {fo fa:dC} {d kd:Int} {R:Tm→Tm→Prop}: ∀ {l:List Tm} {i:Nat} {l':List Tm},(∀x∈l,∀d x',ab7 fo fa d x= .ok x'→R x x')→aig fo fa d kd i l= .ok l'→F2 R l l':=by
 intro l
 induction l with
 |nil=>intro i l' _ h;rw [aig] at h;injection h with h;subst h;exact .nil
 |cons t l ih=>
  intro i l' hr h
  rw [aig] at h
  obtain ⟨t',h1,h⟩:=i8 h
  obtain ⟨m,h2,h⟩:=i8 h
  injection h with h;subst h
  exact .cons (hr t (by simp) _ _ h1) (ih (fun x hx=>hr x (by simp [hx])) h2)
theorem alh {fo fa:dC} {d kd:Int} {R:Tm→Tm→Prop}: ∀ {l:List Tm} {l':List Tm},(∀x∈l,∀d x',ab7 fo fa d x= .ok x'→R x x')→akP fo fa d kd l= .ok l'→F2 R l l':=by
 intro l
 induction l with
 |nil=>intro l' _ h;rw [akP] at h;injection h with h;subst h;exact .nil
 |cons t l ih=>
  intro l' hr h
  rw [akP] at h
  obtain ⟨t',h1,h⟩:=i8 h
  obtain ⟨m,h2,h⟩:=i8 h
  injection h with h;subst h
  exact .cons (hr t (by simp) _ _ h1) (ih (fun x hx=>hr x (by simp [hx])) h2)
def Wk (x x':Tm):Prop:=am x'≤am x∧au x'≤au x∧x'.kind=x.kind∧(OkT x→RowsT x→OkT x'∧RowsT x')
theorem Un {l l':List Tm} (h:F2 Wk l l'):aH l'≤aH l:=by
 induction h with
 |nil=>simp
 |cons h1 _ ih=>rw [aH,aH];have:=h1.1;omega
theorem Uq {l l':List Tm} (h:F2 Wk l l'):ay l'≤ay l:=by
 induction h with
 |nil=>simp
 |cons h1 _ ih=>rw [ay,ay];have:=h1.2.1;omega
theorem Uo {l l':List Tm} (h:F2 Wk l l'):aZ l→dQ l→aZ l'∧dQ l':=by
 induction h with
 |nil=>grind
 |cons h1 _ ih=>
  rw [aZ,aZ,dQ,dQ]
  intro h g
  have a:=h1.2.2.2 h.1 g.1
  grind
theorem alk {fo fa:dC} {d kd:Int} (hfa: ∀d f g,RF f→fa d f= .ok g→RF g): ∀ {l l':List (Br Tm)},(∀b∈l,∀x∈b.kids,∀d x',ab7 fo fa d x= .ok x'→Wk x x')→acM fo fa d kd l= .ok l'→
  aO l'≤aO l∧aI l'≤aI l∧l'.length≤l.length∧(ba l→eA l→ba l'∧eA l'):=by
 intro l
 induction l with
 |nil=>grind [acM]
 |cons b l ih=>
  intro l' hr h
  rw [acM] at h
  obtain ⟨o,h1,h⟩:=i8 h
  obtain ⟨m,h2,h⟩:=i8 h
  injection h with h;subst h
  obtain ⟨i1,i2,i3,i4⟩:=ih (fun b hb=>hr b (by simp [hb])) h2
  cases b with
  |mk f ks=>
   rw [amn] at h1
   obtain ⟨f',h3,h1⟩:=i8 h1
   split at h1
   ·grind [aO,aI,ba,eA]
   ·obtain ⟨ks',h4,h1⟩:=i8 h1
    injection h1 with h1;subst h1
    have f2:F2 Wk ks ks':=alh (hr ⟨f,ks⟩ (by simp)) h4
    have hd:=Un f2
    have hs:=Uq f2
    refine ⟨?_, ?_, ?_,fun ho hg=> ?_⟩
    ·grind [aO,eB]
    ·grind [aI,fG]
    ·grind
    ·rw [ba,fc] at ho;rw [eA,mZ] at hg
     have a:=Uo f2 ho.1.2 hg.1.2
     have b:=i4 ho.2 hg.2
     have c:=hfa d f f' hg.1.1 h3
     show ba (Br.mk f' ks'::m)∧eA (Br.mk f' ks'::m)
     rw [ba,fc,eA,mZ]
     exact ⟨⟨⟨⟨c.2,by have:=c.len;omega,by rw [f2.len];simp_all⟩,a.1⟩,b.1⟩,⟨c,a.2⟩,b.2⟩
theorem Uj {fo fa:dC} (hfo: ∀d f g,RF f→fo d f= .ok g→RF g) (hfa: ∀d f g,RF f→fa d f= .ok g→RF g) (h0: ∀d,fo d []= .ok []) (t:Tm): ∀d t',ab7 fo fa d t= .ok t'→Wk t t':=by
 induction t using gq with
 |h kd n nm r ks sys ih1 ih2=>
  intro d t' h
  rw [ab7] at h
  obtain ⟨r',hr,h⟩:=i8 h
  obtain ⟨ks',hk,h⟩:=i8 h
  obtain ⟨sys',hs,h⟩:=i8 h
  injection h with h;subst h
  have fk:F2 Wk ks ks':=alf ih1 hk
  obtain ⟨s1,s2,s3,s4⟩:=alk hfa ih2 hs
  refine ⟨?_, ?_,rfl,fun hok hro=> ?_⟩
  ·rw [am,am];have:=Un fk;omega
  ·rw [au,au];have:=Uq fk;omega
  ·rw [OkT] at hok;rw [RowsT] at hro
   obtain ⟨⟨o1,o2,o3,o4,o5,o6,o7⟩,ok,os⟩:=hok
   obtain ⟨⟨a,b,z⟩,c,e⟩:=hro
   have hk:=Uo fk ok c
   have hs:=s4 os e
   have hrf:RF r':=by
    grind
   rw [OkT,RowsT]
   refine ⟨⟨⟨o1,o2,o3,hrf.2,by have:=hrf.len;omega,by rw [fk.len];exact o6,by omega⟩,hk.1,hs.1⟩,⟨hrf,fun h1=> ?_,z⟩,hk.2,hs.2⟩
   grind
section
variable {fo fa:dC} {G:Int→List Cl→List Cl}
def da (f:dC) (G:Int→List Cl→List Cl):dC:=fun d l=>bE (f d l) fun m=> .ok (G d m)
def j0 (G:Int→List Cl→List Cl):dC:=fun d l=> .ok (G d l)
theorem B5 (t:Tm): ∀d,∃t',ab7 (j0 G) (j0 G) d t= .ok t':=by
 induction t using gq with
 |h kd n nm r ks sys ih1 ih2=>
  intro d
  have hk: ∀ {l:List Tm} {i:Nat},(∀x∈l,∀d,∃t',ab7 (j0 G) (j0 G) d x= .ok t')→ ∃l',aig (j0 G) (j0 G) d kd i l= .ok l':=by
   intro l
   induction l with
   |nil=>simp_all [aig]
   |cons t l ih=>
    intro i h
    obtain ⟨t',e⟩:=h t (by simp) (d+bJ kd i)
    obtain ⟨l',e'⟩:=ih (i:=i+1) fun x hx=>h x (by simp [hx])
    grind [aig,aD]
  have hm: ∀ {l:List Tm},(∀x∈l,∀d,∃t',ab7 (j0 G) (j0 G) d x= .ok t')→ ∃l',akP (j0 G) (j0 G) d kd l= .ok l':=by
   intro l
   induction l with
   |nil=>simp_all [akP]
   |cons t l ih=>
    intro h
    obtain ⟨t',e⟩:=h t (by simp) (d+av kd)
    obtain ⟨l',e'⟩:=ih fun x hx=>h x (by simp [hx])
    grind [akP,aD]
  have hs: ∀ {l:List (Br Tm)},(∀b∈l,∀x∈b.kids,∀d,∃t',ab7 (j0 G) (j0 G) d x= .ok t')→ ∃l',acM (j0 G) (j0 G) d kd l= .ok l':=by
   intro l
   induction l with
   |nil=>simp_all [acM]
   |cons b l ih=>
    intro h
    obtain ⟨l',e'⟩:=ih fun b hb=>h b (by simp [hb])
    cases b with
    |mk f ks=>
     obtain ⟨ks',e⟩:=hm (h ⟨f,ks⟩ (by simp))
     have: ∃o,amn (j0 G) (j0 G) d kd (.mk f ks)= .ok o:=by
      grind [amn,j0,aD]
     grind [acM,aD]
  obtain ⟨ks',ek⟩:=hk (i:=0) ih1
  obtain ⟨sys',es⟩:=hs ih2
  simp_all [j0,ab7,aD]
theorem alg (d kd:Int): ∀ (l:List Tm) (i:Nat),∃l',aig (j0 G) (j0 G) d kd i l= .ok l':=by
 intro l
 induction l with
 |nil=>simp_all [aig]
 |cons t l ih=>
  intro i
  obtain ⟨t',e⟩:=B5 (G:=G) t (d+bJ kd i)
  obtain ⟨l',e'⟩:=ih (i+1)
  grind [aig,aD]
theorem Ui (d kd:Int): ∀ (l:List Tm),∃l',akP (j0 G) (j0 G) d kd l= .ok l':=by
 intro l
 induction l with
 |nil=>simp_all [akP]
 |cons t l ih=>
  obtain ⟨t',e⟩:=B5 (G:=G) t (d+av kd)
  grind [akP,aD]
theorem ale (d kd:Int) (b:Br Tm): ∃o,amn (j0 G) (j0 G) d kd b= .ok o:=by
 cases b with
 |mk f ks=>
  obtain ⟨ks',e⟩:=Ui (G:=G) d kd ks
  rw [amn,j0,aD]
  split<;>simp_all [aD]
theorem alj (d kd:Int): ∀ (l:List (Br Tm)),∃l',acM (j0 G) (j0 G) d kd l= .ok l':=by
 intro l
 induction l with
 |nil=>simp_all [acM]
 |cons b l ih=>
  obtain ⟨l',e'⟩:=ih
  obtain ⟨o,e⟩:=ale (G:=G) d kd b
  grind [acM,aD]
theorem ali (d kd:Int): ∀ (a b:List (Br Tm)),acM fo fa d kd (a++b)=bE (acM fo fa d kd a) fun a'=>bE (acM fo fa d kd b) fun b'=> .ok (a'++b'):=by
 intro a
 induction a with
 |nil=>intro b;rw [List.nil_append,acM,aD];cases acM fo fa d kd b<;>rfl
 |cons x a ih=>
  intro b
  rw [List.cons_append,acM,acM,ih]
  cases amn fo fa d kd x with
  |error e=>rfl
  |ok o=>
   rw [aD,aD]
   cases acM fo fa d kd a with
   |error e=>rfl
   |ok a'=>
    rw [aD,aD]
    cases acM fo fa d kd b with
    |error e=>rfl
    |ok b'=>grind [aD]
theorem alm (hfa: ∀d f g,RF f→fa d f= .ok g→RF g) (hG: ∀d f,RF f→((G d f).length=0↔f.length=0)) (t:Tm): ∀d,RowsT t→bE (ab7 fo fa d t) (ab7 (j0 G) (j0 G) d)=ab7 (da fo G) (da fa G) d t:=by
 induction t using gq with
 |h kd n nm r ks sys ih1 ih2=>
  intro d hrows
  rw [RowsT] at hrows
  obtain ⟨_,hrk,hrs⟩:=hrows
  have hk: ∀ {l:List Tm} {i:Nat},(∀x∈l,∀d,RowsT x→bE (ab7 fo fa d x) (ab7 (j0 G) (j0 G) d)=ab7 (da fo G) (da fa G) d x)→dQ l→bE (aig fo fa d kd i l) (aig (j0 G) (j0 G) d kd i)=aig (da fo G) (da fa G) d kd i l:=by
   intro l
   induction l with
   |nil=>grind [aig,aD]
   |cons t l ih=>
    intro i h hr
    rw [dQ] at hr
    have h1:=h t (by simp) (d+bJ kd i) hr.1
    have h2:=ih (i:=i+1) (fun x hx=>h x (by simp [hx])) hr.2
    rw [aig,aig,←h1,←h2]
    cases ab7 fo fa (d+bJ kd i) t with
    |error e=>rfl
    |ok t'=>
     rw [aD,aD]
     obtain ⟨t'',e⟩:=B5 (G:=G) t' (d+bJ kd i)
     rw [e,aD]
     cases aig fo fa d kd (i+1) l with
     |error e=>rfl
     |ok l'=>
      grind [aD,aig]
  have hm: ∀ {l:List Tm},(∀x∈l,∀d,RowsT x→bE (ab7 fo fa d x) (ab7 (j0 G) (j0 G) d)=ab7 (da fo G) (da fa G) d x)→dQ l→bE (akP fo fa d kd l) (akP (j0 G) (j0 G) d kd)=akP (da fo G) (da fa G) d kd l:=by
   intro l
   induction l with
   |nil=>grind [akP,aD]
   |cons t l ih=>
    intro h hr
    rw [dQ] at hr
    have h1:=h t (by simp) (d+av kd) hr.1
    have h2:=ih (fun x hx=>h x (by simp [hx])) hr.2
    rw [akP,akP,←h1,←h2]
    cases ab7 fo fa (d+av kd) t with
    |error e=>rfl
    |ok t'=>
     rw [aD,aD]
     obtain ⟨t'',e⟩:=B5 (G:=G) t' (d+av kd)
     rw [e,aD]
     cases akP fo fa d kd l with
     |error e=>rfl
     |ok l'=>
      grind [aD,akP]
  have hb: ∀ {b:Br Tm},(∀x∈b.kids,∀d,RowsT x→bE (ab7 fo fa d x) (ab7 (j0 G) (j0 G) d)=ab7 (da fo G) (da fa G) d x)→mZ b→bE (amn fo fa d kd b) (acM (j0 G) (j0 G) d kd)=amn (da fo G) (da fa G) d kd b:=by
   intro b h hr
   cases b with
   |mk f ks'=>
    rw [mZ] at hr
    have h2:=hm h hr.2
    rw [amn,amn]
    show _=bE (bE (fa d f) fun m=> .ok (G d m)) _
    cases hf:fa d f with
    |error e=>rfl
    |ok f'=>
     rw [aD,aD,aD]
     have hg:=hG d f' (hfa d f f' hr.1 hf)
     by_cases h0:f'.length=0
     ·grind [aD,acM]
     ·rw [if_neg h0,if_neg (fun h=>h0 (hg.1 h)),←h2]
      cases akP fo fa d kd ks' with
      |error e=>rfl
      |ok l'=>
       rw [aD,aD,aD,acM,amn]
       show bE (bE (.ok (G d f')) _) _=_
       rw [aD,if_neg (fun h=>h0 (hg.1 h))]
       obtain ⟨l'',e⟩:=Ui (G:=G) d kd l'
       grind [aD,acM]
  have hs: ∀ {l:List (Br Tm)},(∀b∈l,∀x∈b.kids,∀d,RowsT x→bE (ab7 fo fa d x) (ab7 (j0 G) (j0 G) d)=ab7 (da fo G) (da fa G) d x)→eA l→bE (acM fo fa d kd l) (acM (j0 G) (j0 G) d kd)=acM (da fo G) (da fa G) d kd l:=by
   intro l
   induction l with
   |nil=>grind [acM,aD]
   |cons b l ih=>
    intro h hr
    rw [eA] at hr
    have h1:=hb (h b (by simp)) hr.1
    have h2:=ih (fun b hb=>h b (by simp [hb])) hr.2
    rw [acM,acM,←h1,←h2]
    cases amn fo fa d kd b with
    |error e=>rfl
    |ok o=>
     rw [aD,aD]
     obtain ⟨o',e⟩:=alj (G:=G) d kd o
     rw [e,aD]
     cases acM fo fa d kd l with
     |error e=>rfl
     |ok l'=>
      grind [aD,ali]
  rw [ab7,ab7,←hk (i:=0) ih1 hrk,←hs ih2 hrs]
  have hrow:(if kd=14 then da fa G d r else da fo G d r)=bE (if kd=14 then fa d r else fo d r) fun m=> .ok (G d m):=by split<;>rfl
  rw [hrow]
  cases (if kd=14 then fa d r else fo d r) with
  |error e=>rfl
  |ok r'=>
   rw [aD,aD,aD]
   cases aig fo fa d kd 0 ks with
   |error e=>rfl
   |ok ks'=>
    rw [aD,aD]
    obtain ⟨ks'',ek⟩:=alg (G:=G) d kd ks' 0
    rw [ek,aD]
    cases acM fo fa d kd sys with
    |error e=>rfl
    |ok sys'=>
     grind [aD,ab7,j0]
end
end Go.Proofs.YtfkkpkhfjpaafaaGreatDoor
namespace Go.Proofs.YtfkkpkhfjpaafaaGreatDoor
open Go PI
set_option linter.unusedVariables false
set_option linter.unusedSimpArgs false
set_option maxRecDepth 20000
variable {S:Type} {k:Nat}
theorem Ly (kd:Int):(kd<0∨kd>28)∨(∃n:Nat,n<29∧kd=n):=by
 by_cases h:kd<0∨kd>28
 ·omega
 ·exact .inr ⟨kd.toNat,by omega,by omega⟩
theorem aiR (kd:Int) (ret:Int→Option S):zA k kd ret=ret (ct kd):=by
 simp only [zA,TQ]
 rcases Ly kd with h|⟨n,hn,rfl⟩
 ·simp only [cH,beq_iff_eq]
  unfold ct
  rw [if_pos h]
  repeat rw [if_neg (by omega)]
 ·unfold ct
  rw [if_neg (by omega),Int.toNat_natCast]
  match n,hn with
  |0,_=>rfl
  |1,_=>rfl
  |2,_=>rfl
  |3,_=>rfl
  |4,_=>rfl
  |5,_=>rfl
  |6,_=>rfl
  |7,_=>rfl
  |8,_=>rfl
  |9,_=>rfl
  |10,_=>rfl
  |11,_=>rfl
  |12,_=>rfl
  |13,_=>rfl
  |14,_=>rfl
  |15,_=>rfl
  |16,_=>rfl
  |17,_=>rfl
  |18,_=>rfl
  |19,_=>rfl
  |20,_=>rfl
  |21,_=>rfl
  |22,_=>rfl
  |23,_=>rfl
  |24,_=>rfl
  |25,_=>rfl
  |26,_=>rfl
  |27,_=>rfl
  |28,_=>rfl
  |n+29,h=>omega
theorem jE (kd i:Int) (ret:Int×Int→Option S):gI k kd i ret=ret (bz kd i,bJ kd i):=by
 simp only [gI,TN,cH,beq_iff_eq]
 grind [bz,bJ]
theorem Q8 (kd:Int) (ret:Int→Option S):lJ k kd ret=ret (cz kd):=by
 grind [lJ,TR,cH,cz]
theorem Jq (s t:ByteArray):(s==t)=decide (s=t):=by
 obtain ⟨a⟩:=s;obtain ⟨b⟩:=t
 show (a==b)=_
 grind
theorem FO (s:ByteArray):(s==ByteArray.empty)=decide (s.size=0):=by
 simp_all [Jq]
theorem rN (s:ByteArray):(s.size:Int)=(s.data.toList.length:Int):=by
 rfl
def js (p:List UInt8) (r:List UInt8):Bool:=match p with
 |[]=>oe r
 |_::_=>r.all fun d=>kP d||pG d
theorem NI (p:List UInt8) (x:UInt8) (r:List UInt8):js p (x::r)=((kP x||(decide (p≠[])&&pG x))&&js (p++[x]) r):=by
 cases p<;>grind [js,oe]
theorem NJ {p:List UInt8}:js p []=decide (p.length≠0):=by
 cases p with
 |nil=>rfl
 |cons c l=>rfl
theorem afb (hk:Fu k) (ret:Bool→Option S) {s:ByteArray} (hs:s.size<2147483648):
  ∀ (r p:List UInt8) (m:Nat),s.data.toList=p++r→r.length<m→n7 k ret s m (p.length:Int)=ret (js p r):=by
 obtain ⟨q,rfl⟩: ∃q,k=q+1:=⟨k-1,by omega⟩
 have hs':s.data.toList.length<2147483648:=by simp_all
 intro r
 induction r with
 |nil=>
  grind [i9,n7,tv,rN,ad,FO,NJ]
 |cons x r ih=>
  intro p m h hm
  obtain ⟨m,rfl,hm'⟩:=i9 hm
  obtain ⟨e1,e2,e3,e4⟩:=j3 h (by omega)
  have hi:=ih (p++[x]) m e4 hm'
  rw [NI]
  simp only [n7,tv,rN,e1,ae,e2,Option.bind_some,aY,Aq,Dk,e3,hi]
  have hl: ∀b:Bool,b=kP x→ab (!b) (ab (((p.length:Nat):Int)==0) (ret false) (if ((x.toNat:Nat):Int)<48 then ret false else if ((x.toNat:Nat):Int)>57 then ret false else ret (js (p++[x]) r))) (ret (js (p++[x]) r))=ret ((kP x||(decide (p≠[])&&pG x))&&js (p++[x]) r):=by
   grind [cH,List.length_pos_iff,pG]
  grind [kP]
theorem ajo (hk:Fu k) {s:ByteArray} (hs:s.size<2147483648) (ret:Bool→Option S):zC k s ret=ret (oe s.data.toList):=by
 simp only [zC,IY]
 have:=afb hk ret hs s.data.toList [] k rfl (by grind [rN])
 exact this
end Go.Proofs.YtfkkpkhfjpaafaaGreatDoor
namespace Go.Proofs.YtfkkpkhfjpaafaaGreatDoor
open Go PI
set_option linter.unusedVariables false
set_option linter.unusedSimpArgs false
set_option maxRecDepth 20000
variable {S:Type} {k:Nat}
theorem qY (n:Nat):(((n:Nat):Int)==0)=decide (n=0):=by grind
theorem aff (hk:Fu k) (ret:Bool→Option S) {t:Tm} {dims:Int} (hd:0≤dims) (hd':dims<9223372036854775808) (hs: ∀b∈t.sys,aq b.face∧b.face.length<1073741824) (hlen:t.sys.length<1073741824):
  ∀ (r p:List (Br Tm)) (m:Nat),t.sys=p++r→r.length<m→kO k ret t dims m (p.length:Int)=ret (r.all (bX t.kind dims)&&decide (t.r.length=0)):=by
 intro r
 induction r with
 |nil=>
  grind [i9,kO,yl,ad,qY]
 |cons x r ih=>
  intro p m h hm
  obtain ⟨m,rfl,hm'⟩:=i9 hm
  obtain ⟨e1,e2,e3,e4⟩:=j3 h (by omega)
  have hx:=hs x (by grind)
  have hb:((x.kids.length:Int)==cz t.kind)=decide ((x.kids.length:Int)=cz t.kind):=by rfl
  simp only [kO,yl,e1,ae,e2,Option.bind_some,ag hk,Q8,Hb hk hx.1 (show x.face.length<2147483648 by omega),RZ hk hx.1 (show x.face.length<4294967296 by omega) hd hd',e3,ih (p++[x]) m e4 hm',List.all_cons,hb]
  grind [bX,decide,Int,cV,ae,ad]
theorem aj4 {S:Type} (b c:Bool) (ret:Bool→Option S):ab b (ret c) (ret false)=ret (b&&c):=by
 cases b<;>rfl
def om (vars dims:Int) (t:Tm):Bool:=
 if t.kind=1 then decide (t.r.length=0)&&(decide (0≤t.n)&&decide (vars<0∨t.n<vars))
   else if t.kind=2 then decide (t.r.length=0)&&oe t.name.data.toList
   else if t.kind=13∨t.kind=21∨t.kind=26 then bF t.r&&dg t.r dims
   else if t.kind=14 then cV t.r&&dg t.r dims
   else t.sys.all (bX t.kind dims)&&decide (t.r.length=0)
theorem NY (vars dims:Int) (t:Tm):cL vars dims t=((decide (ct t.kind=t.kids.length)&&(decide (t.kind=1∨t.n=0)&&(decide (t.kind=2∨t.name.size=0)&&decide (cz t.kind=0→t.sys.length=0))))&&om vars dims t):=by
 cases t;rfl
def Zm (t:Tm):Prop:=aG t.kind∧aG t.n∧t.name.size<1073741824∧aq t.r∧t.r.length<1073741824∧t.kids.length<1073741824∧t.sys.length<1073741824
theorem OkT.no {t:Tm} (h:OkT t):Zm t:=by cases t;exact h.node
theorem OkT.ki {t x:Tm} (h:OkT t) (hx:x∈t.kids):OkT x:=by cases t;exact h.kid hx
theorem OkT.bi {t:Tm} {b:Br Tm} (h:OkT t) (hb:b∈t.sys):(aq b.face∧b.face.length<1073741824∧b.kids.length<1073741824)∧ ∀t∈b.kids,OkT t:=by cases t;exact h.br hb
theorem aju (hk:Fu k) {t:Tm} (ht:OkT t) {vars dims:Int} (hd:0≤dims) (hd':dims<9223372036854775808) (ret:Bool→Option S):Ar k ret t vars dims k=ret (om vars dims t):=by
 obtain ⟨o1,o2,o3,o4,o5,o6,o7⟩:=ht.no
 have hb:=fun b hb=>(ht.bi (b:=b) hb).1
 obtain ⟨q,hq⟩: ∃q,k=q+1:=⟨k-1,by omega⟩
 have: ∀j,j=q+1→Ar k ret t vars dims j=tw k ret t vars dims (fun v109=>kO k ret t dims k v109):=by rintro j rfl;rfl
 rw [this k hq]
 have hl:=aff hk ret hd hd' (fun b h=>⟨(hb b h).1,(hb b h).2.1⟩) o7 t.sys [] k rfl (by omega)
 have hl:kO k ret t dims k 0=_:=hl
 simp only [tw,ag hk,ajo hk (show t.name.size<2147483648 by omega),rH hk o4 (show t.r.length<2147483648 by omega),Hb hk o4 (show t.r.length<2147483648 by omega),RZ hk o4 (show t.r.length<4294967296 by omega) hd hd',hl,qY,aj4]
 grind [cH,om]
theorem ajt (hk:Fu k) {t:Tm} (ht:OkT t) {vars dims:Int} (hd:0≤dims) (hd':dims<9223372036854775808) (ret:Bool→Option S):uj k t vars dims ret=ret (cL vars dims t):=by
 have hq:(ct t.kind==(t.kids.length:Int))=decide (ct t.kind=t.kids.length):=by rfl
 have hp:(cz t.kind==0)=decide (cz t.kind=0):=bG _
 simp only [uj,IZ,ag hk,aiR,Q8,aju hk ht hd hd',FO,hq,hp,bG,NY]
 have hsy:ab (decide (cz t.kind=0)) (ab (decide (((t.sys.length:Nat):Int)>0)) (ret false) (ret (om vars dims t))) (ret (om vars dims t))=ret (decide (cz t.kind=0→t.sys.length=0)&&om vars dims t):=by
  rw [aY,aY]
  by_cases h1:cz t.kind=0
  ·rw [if_pos h1]
   by_cases h2:t.sys.length=0<;>grind
  grind
 grind [ae,ad,decide_eq_false]
end Go.Proofs.YtfkkpkhfjpaafaaGreatDoor
namespace Go.Proofs.YtfkkpkhfjpaafaaGreatDoor
open Go PI
set_option linter.unusedVariables false
set_option linter.unusedSimpArgs false
set_option maxRecDepth 20000
variable {S:Type} {k:Nat}
abbrev Fd (k n:Nat):Prop:=4294967296+n≤k
theorem Fd.fu {n:Nat} (h:Fd k n):Fu k:=by omega
theorem Fd.pos {n:Nat} (h:Fd k n): ∃q,k=q+1∧ ∀j,j+1≤n→Fd q j:=⟨k-1,by omega,fun j hj=>by omega⟩
theorem Fd.pos' {n:Nat} (h:Fd k n) (hn:1≤n): ∃q,k=q+1∧Fu q∧ ∀j,j+1≤n→Fd q j:=⟨k-1,by omega,by omega,fun j hj=>by omega⟩
theorem alF (t:Tm):1≤am t:=by cases t;rw [am];omega
theorem pF (t:Tm):am t=max (aH t.kids) (aO t.sys)+1:=by cases t;rfl
theorem rM (t:Tm):au t=1+ay t.kids+aI t.sys:=by cases t;rfl
theorem bY {t x:Tm} (h:x∈t.kids):am x+1≤am t:=by rw [pF t];have:=D0 h;omega
theorem b8 {t:Tm} {b:Br Tm} {x:Tm} (hb:b∈t.sys) (h:x∈b.kids):am x+1≤am t:=by rw [pF t];have:=D0 h;have:=JP hb;omega
theorem c7 {Q:Tm→Prop} (h: ∀t,(∀x∈t.kids,Q x)→(∀b∈t.sys,∀x∈b.kids,Q x)→Q t) (t:Tm):Q t:=gq (fun kd n nm r ks sys h1 h2=>h (.mk kd n nm r ks sys) h1 h2) t
theorem Hi {α:Type} (b c:Bool) (x y:α):ab (!b) y (if c then x else y)=if b&&c then x else y:=by cases b<;>cases c<;>rfl
theorem kY {S:Type} (b c:Bool) (ret:Bool→Option S):ab (!b) (ret false) (ret c)=ret (b&&c):=by cases b<;>rfl
theorem aaf {n:Int} (h1: -9223372036854775808≤n) (h2:n<9223372036854775808):IntKind.wrap .i64 n=n:=alX h1 h2
section
variable {hd:Tm→Int→(Bool→Option S)→Option S} {c0:Int} {t:Tm} {Q:Tm→Bool}
theorem aeL (hk:Fu k) (ret:Bool→Option S) (rec1:Int→Int→Option S) (hc: -9223372036854775807≤c0) (hc':c0<9223372036854775808) {v more:Int} {x:Br Tm} (hQ: ∀y∈x.kids,∀g,hd y (c0-1) g=g (Q y)) (hl:x.kids.length<1073741824):
  ∀ (r p:List Tm) (m:Nat),x.kids=p++r→r.length<m→anh hd k ret rec1 c0 t v x more m (p.length:Int)=if r.all Q then rec1 (IntKind.wrap .i64 (v+1)) more else ret false:=by
 intro r
 induction r with
 |nil=>
  grind [i9,anh,yi,ad]
 |cons y r ih=>
  intro p m h hm
  obtain ⟨m,rfl,hm'⟩:=i9 hm
  obtain ⟨e1,e2,e3,e4⟩:=j3 h (by omega)
  have hy:=hQ y (by grind)
  simp only [anh,yi,e1,ae,e2,Option.bind_some,ag hk,uk,I0,ar,aaf (show-9223372036854775808≤c0-1 by omega) (by omega),hy,e3,ih (p++[y]) m e4 hm',Hi]
  rfl
theorem aeK (hk:Fu k) (ret:Bool→Option S) (hc: -9223372036854775807≤c0) (hc':c0<9223372036854775808) {more:Int} (hQ: ∀b∈t.sys,∀y∈b.kids,∀g,hd y (c0-1) g=g (Q y)) (hl:t.sys.length<1073741824) (hl': ∀b∈t.sys,b.kids.length<1073741824):
  ∀ (r p:List (Br Tm)) (m:Nat),t.sys=p++r→r.length<m→jp hd k ret c0 t m (p.length:Int) more=ret (r.all fun b=>b.kids.all Q):=by
 intro r
 induction r with
 |nil=>
  grind [i9,jp,tp,ad]
 |cons x r ih=>
  intro p m h hm
  obtain ⟨m,rfl,hm'⟩:=i9 hm
  obtain ⟨e1,e2,e3,e4⟩:=j3 h (by omega)
  have hx:x∈t.sys:=by grind
  have hlx:=hl' x hx
  have:=aeL (t:=t) hk ret (jp hd k ret c0 t m) (v:=(p.length:Int)) (more:=more) hc hc' (hQ x hx) hlx x.kids [] k rfl (by omega)
  simp only [jp,tp,e1,ae,e2,Option.bind_some,List.all_cons]
  refine Eq.trans this ?_
  rw [e3,ih (p++[x]) m e4 hm']
  cases x.kids.all Q<;>rfl
theorem aeJ (hk:Fu k) (ret:Bool→Option S) (hc: -9223372036854775807≤c0) (hc':c0<9223372036854775808) (hQ: ∀y∈t.kids,∀g,hd y (c0-1) g=g (Q y)) (hQ': ∀b∈t.sys,∀y∈b.kids,∀g,hd y (c0-1) g=g (Q y)) (ht:OkT t):
  ∀ (r p:List Tm) (m:Nat),t.kids=p++r→r.length<m→qS hd k ret c0 t m (p.length:Int)=ret (r.all Q&&t.sys.all fun b=>b.kids.all Q):=by
 obtain ⟨o1,o2,o3,o4,o5,o6,o7⟩:=ht.no
 intro r
 induction r with
 |nil=>
  intro p m h hm
  obtain ⟨m,rfl,hm'⟩:=i9 hm
  have hs: ∀more:Int,jp hd k ret c0 t k 0 more=_:=fun more=>aeK hk ret hc hc' (more:=more) hQ' o7 (fun b hb=>(ht.bi hb).1.2.2) t.sys [] k rfl (by omega)
  simp only [qS,tn,akb h,ad,hs]
  cases (t.kind==15)<;>rfl
 |cons y r ih=>
  intro p m h hm
  obtain ⟨m,rfl,hm'⟩:=i9 hm
  obtain ⟨e1,e2,e3,e4⟩:=j3 h (by omega)
  have hy:=hQ y (by grind)
  simp only [qS,tn,e1,ae,e2,Option.bind_some,ag hk,jE,uk,I0,ar,aaf (show-9223372036854775808≤c0-1 by omega) (by omega),hy,e3,ih (p++[y]) m e4 hm',kY,List.all_cons,Bool.and_assoc]
end
theorem JN {n:Int} (hn:0≤n): ∀ {l:List Tm},(l.all fun x=>decide ((am x:Int)≤n))=decide ((aH l:Int)≤n):=by
 intro l
 induction l<;>grind [aH]
theorem aah {n:Int} (hn:0≤n): ∀ {l:List (Br Tm)},(l.all fun b=>b.kids.all fun x=>decide ((am x:Int)≤n))=decide ((aO l:Int)≤n):=by
 intro l
 induction l with
 |nil=>rw [aO];simp [hn]
 |cons b l ih=>rw [List.all_cons,ih,JN hn,aO,pD,Bool.eq_iff_iff];grind
theorem ajY (t:Tm):OkT t→ ∀ {k:Nat} {left:Int} (ret:Bool→Option S),Fd k (am t)→ -4611686018427387904≤left→left<4611686018427387904→jf k t left ret=ret (decide ((am t:Int)≤left)):=by
 induction t using c7 with
 |h t ih1 ih2=>
  intro ht k left ret hk h1 h2
  obtain ⟨q,rfl,hq,hf⟩:=hk.pos' (alF t)
  simp only [jf,TV,aY,ar,ag hq]
  by_cases h0:left>0
  ·rw [if_pos h0]
   have hQ: ∀y∈t.kids,∀g:Bool→Option S,jf q y (left-1) g=g (decide ((am y:Int)≤left-1)):=fun y hy g=>ih1 y hy (ht.ki hy) g (hf _ (bY hy)) (by omega) (by omega)
   have hQ': ∀b∈t.sys,∀y∈b.kids,∀g:Bool→Option S,jf q y (left-1) g=g (decide ((am y:Int)≤left-1)):=fun b hb y hy g=>ih2 b hb y hy ((ht.bi hb).2 y hy) g (hf _ (b8 hb hy)) (by omega) (by omega)
   have:=aeJ (Q:=fun y=>decide ((am y:Int)≤left-1)) hq ret (by omega) (by omega) hQ hQ' ht t.kids [] q rfl (by have:=ht.no.2.2.2.2.2.1;omega)
   simp only [DX,IV]
   refine Eq.trans this ?_
   rw [JN (by omega),aah (by omega),pF]
   congr 1
   rw [Bool.eq_iff_iff];simp;omega
  grind [alF]
section
variable {hd:Tm→Int→(Bool×Int→Option S)→Option S} {t:Tm}
def rT (hd:Tm→Int→(Bool×Int→Option S)→Option S) (k:Nat) (y:Tm):Prop:= ∀ (c:Int) (g:Bool×Int→Option S),0≤c→c<4611686018427387904→
 ∃v,pB hd k y c g=g (decide ((au y:Int)≤c),v)∧((au y:Int)≤c→v=c-au y)
theorem aeI (hk:Fu k) (ret:Bool×Int→Option S) (rec1:Int→Int→Int→Option S) {v more:Int} {x:Br Tm} (hQ: ∀y∈x.kids,rT hd k y) (hl:x.kids.length<1073741824):
  ∀ (r p:List Tm) (m:Nat) (c:Int),0≤c→c<4611686018427387904→x.kids=p++r→r.length<m→
  ((ay r:Int)≤c→kL hd k ret rec1 t v x more m c (p.length:Int)=rec1 (c-ay r) (IntKind.wrap .i64 (v+1)) more)∧(¬ (ay r:Int)≤c→ ∃w,kL hd k ret rec1 t v x more m c (p.length:Int)=ret (false,w)):=by
 intro r
 induction r with
 |nil=>
  grind [i9,kL,yg,ad,ay]
 |cons y r ih=>
  intro p m c h0 h1 h hm
  obtain ⟨m,rfl,hm'⟩:=i9 hm
  obtain ⟨e1,e2,e3,e4⟩:=j3 h (by omega)
  have hy:=hQ y (by grind)
  obtain ⟨w,hw,hw'⟩:=hy c (fun r1=>(fun r6:Bool×Int=>ab (!r6.1) (ret (false,r6.2)) (kL hd k ret rec1 t v x more m r6.2 (((p++[y]).length:Nat):Int))) (r1.1,r1.2)) h0 h1
  simp only [kL,yg,e1,ae,e2,Option.bind_some,ag hk,ul,I1,ar,e3,ay]
  rw [hw]
  by_cases hs:(au y:Int)≤c
  ·grind [ad]
  grind [ae]
theorem aeH (hk:Fu k) (ret:Bool×Int→Option S) {more:Int} (hQ: ∀b∈t.sys,∀y∈b.kids,rT hd k y) (hl:t.sys.length<1073741824) (hl': ∀b∈t.sys,b.kids.length<1073741824):
  ∀ (r p:List (Br Tm)) (m:Nat) (c:Int),0≤c→c<4611686018427387904→t.sys=p++r→r.length<m→
  ((aI r:Int)≤c→iA hd k ret t m c (p.length:Int) more=ret (true,c-aI r))∧(¬ (aI r:Int)≤c→ ∃w,iA hd k ret t m c (p.length:Int) more=ret (false,w)):=by
 intro r
 induction r with
 |nil=>
  grind [i9,iA,tj,ad,aI]
 |cons x r ih=>
  intro p m c h0 h1 h hm
  obtain ⟨m,rfl,hm'⟩:=i9 hm
  obtain ⟨e1,e2,e3,e4⟩:=j3 h (by omega)
  have hx:x∈t.sys:=by grind
  have hlx:=hl' x hx
  have:=aeI (t:=t) hk ret (iA hd k ret t m) (v:=(p.length:Int)) (more:=more) (hQ x hx) hlx x.kids [] k c h0 h1 rfl (by omega)
  simp only [iA,tj,e1,ae,e2,Option.bind_some,aI,kZ]
  obtain ⟨t1,t2⟩:=this
  rw [show (((([]:List Tm).length:Nat):Int))=0 from rfl] at t1 t2
  by_cases hs:(ay x.kids:Int)≤c
  ·obtain ⟨i1,i2⟩:=ih (p++[x]) m (c-ay x.kids) (by omega) (by omega) e4 hm'
   rw [t1 hs,e3]
   refine ⟨fun h=> ?_,fun h=>i2 (by omega)⟩
   rw [i1 (by omega),show c-(ay x.kids:Int)-(aI r:Int)=c-((ay x.kids+aI r:Nat):Int) by omega]
  ·exact ⟨fun h=>absurd (by omega) hs,fun _=>t2 hs⟩
theorem aeG (hk:Fu k) (ret:Bool×Int→Option S) (hQ: ∀y∈t.kids,rT hd k y) (hQ': ∀b∈t.sys,∀y∈b.kids,rT hd k y) (ht:OkT t):
  ∀ (r p:List Tm) (m:Nat) (c:Int),0≤c→c<4611686018427387904→t.kids=p++r→r.length<m→
  ∃w,nY hd k ret t m c (p.length:Int)=ret (decide (((ay r+aI t.sys:Nat):Int)≤c),w)∧(((ay r+aI t.sys:Nat):Int)≤c→w=c-((ay r+aI t.sys:Nat):Int)):=by
 obtain ⟨o1,o2,o3,o4,o5,o6,o7⟩:=ht.no
 intro r
 induction r with
 |nil=>
  intro p m c h0 h1 h hm
  obtain ⟨m,rfl,hm'⟩:=i9 hm
  have hs: ∀more:Int,_:=fun more=>aeH hk ret (more:=more) hQ' o7 (fun b hb=>(ht.bi hb).1.2.2) t.sys [] k c h0 h1 rfl (by omega)
  have key: ∀more:Int,∃w,iA hd k ret t k c 0 more=ret (decide (((aI t.sys:Nat):Int)≤c),w)∧(((aI t.sys:Nat):Int)≤c→w=c-((aI t.sys:Nat):Int)):=fun more=>by
   by_cases hc:(aI t.sys:Int)≤c
   ·simp_all
   ·obtain ⟨w,e⟩:=(hs more).2 hc
    grind
  have hz:ay []+aI t.sys=aI t.sys:=by rw [ay,Nat.zero_add]
  rw [hz]
  simp only [nY,ti,akb h,ad]
  cases (t.kind==15) with
  |true=>exact key 1
  |false=>exact key 0
 |cons y r ih=>
  intro p m c h0 h1 h hm
  obtain ⟨m,rfl,hm'⟩:=i9 hm
  obtain ⟨e1,e2,e3,e4⟩:=j3 h (by omega)
  have hy:=hQ y (by grind)
  obtain ⟨w,hw,hw'⟩:=hy c (fun r1=>(fun r3:Bool×Int=>ab (!r3.1) (ret (false,r3.2)) (nY hd k ret t m r3.2 (((p++[y]).length:Nat):Int))) (r1.1,r1.2)) h0 h1
  have hz:ay (y::r)+aI t.sys=au y+ay r+aI t.sys:=by rw [ay]
  rw [hz]
  simp only [nY,ti,e1,ae,e2,Option.bind_some,ag hk,jE,ul,I1,ar,e3]
  rw [hw]
  by_cases hs:(au y:Int)≤c
  ·have:=hw' hs
   subst this
   obtain ⟨u,i1,i2⟩:=ih (p++[y]) m (c-au y) (by omega) (by omega) e4 hm'
   grind [ad]
  grind [ae,decide_eq_false]
end
theorem ai5 (t:Tm):OkT t→ ∀ {k:Nat} (c:Int) (ret:Bool×Int→Option S),Fd k (am t)→0≤c→c<4611686018427387904→
  ∃w,fg k t c ret=ret (decide ((au t:Int)-1≤c),w)∧((au t:Int)-1≤c→w=c-((au t:Int)-1)):=by
 induction t using c7 with
 |h t ih1 ih2=>
  intro ht k c ret hk h1 h2
  obtain ⟨q,rfl,hq,hf⟩:=hk.pos' (alF t)
  have cnt: ∀y,(∀ {k:Nat} (c:Int) (ret:Bool×Int→Option S),Fd k (am y)→0≤c→c<4611686018427387904→ ∃w,fg k y c ret=ret (decide ((au y:Int)-1≤c),w)∧((au y:Int)-1≤c→w=c-((au y:Int)-1)))→
    Fd q (am y)→rT (S:=S) (fg q) q y:=by
   intro y hy hfy c g h0 h1
   simp only [pB,I2,ar,aaf (show-9223372036854775808≤c-1 by omega) (by omega),aY]
   have:=mB y
   by_cases hc:c-1≥0
   ·rw [if_pos hc]
    obtain ⟨w,e,e'⟩:=hy (c-1) (fun r1=>g (r1.1,r1.2)) hfy (by omega) (by omega)
    grind
   ·rw [if_neg hc]
    exact ⟨c-1,by grind,fun h=>by omega⟩
  obtain ⟨w,e,e'⟩:=aeG hq ret (fun y hy=>cnt y (fun c ret=>ih1 y hy (ht.ki hy) c ret) (hf _ (bY hy))) (fun b hb y hy=>cnt y (fun c ret=>ih2 b hb y hy ((ht.bi hb).2 y hy) c ret) (hf _ (b8 hb hy))) ht t.kids [] q c h1 h2 rfl (by have:=ht.no.2.2.2.2.2.1;omega)
  grind [fg,IT,rM]
theorem aj0 {t:Tm} (ht:OkT t) (hk:Fd k (am t)) {most:Int} (h0:0<most) (h1:most<4611686018427387904) (ret:Bool→Option S):zE k t most ret=ret (decide ((au t:Int)≤most)):=by
 simp only [zE,TX,ag hk.fu,pB,I2,ar,aaf (show-9223372036854775808≤most-1 by omega) (by omega),aY]
 rw [if_pos (by omega)]
 obtain ⟨w,e,_⟩:=ai5 t ht (most-1) (fun r1=>ret (r1.1,r1.2).1) hk (by omega) (by omega)
 grind
def VW (vars dims:Int) (n:Nat):Prop:= -9223372036854775808≤vars∧vars<9223372036854775808∧0≤dims∧dims+n<4611686018427387904
section
variable {hd:Tm→Int→Int→Bool→(Bool→Option S)→Option S} {vars dims:Int} {bd:Bool} {t:Tm}
theorem Rc (hv:VW vars dims 1) {v d:Int} (h1:0≤v∧v≤1) (h2:0≤d∧d≤1) (y:Tm) (g:Bool→Option S):uh hd k y v d vars dims bd g=hd y (IntKind.wrap .i64 (cQ vars v)) (dims+d) bd g:=by
 obtain ⟨v1,v2,v3,v4⟩:=hv
 simp only [uh,TU,ar,aY,aaf (show-9223372036854775808≤dims+d by omega) (by omega)]
 unfold cQ
 split
 ·rw [Int.add_zero]
 ·rfl
theorem aeF (hk:Fu k) (ret:Bool→Option S) (rec1:Int→Int→Option S) (hv:VW vars dims 1) {v more:Int} {x:Br Tm} (hm:more=av t.kind) (hQ: ∀y∈x.kids,∀g,hd y vars (dims+more) bd g=g (a6 bd vars (dims+more) y)) (hl:x.kids.length<1073741824):
  ∀ (r p:List Tm) (m:Nat),x.kids=p++r→r.length<m→mi hd k ret rec1 vars dims bd t v x more m (p.length:Int)=if ca bd vars dims t.kind r then rec1 (IntKind.wrap .i64 (v+1)) more else ret false:=by
 subst hm
 intro r
 induction r with
 |nil=>
  intro p m h hm
  obtain ⟨m,rfl,hm'⟩:=i9 hm
  simp only [mi,yh,akb h,ad];rfl
 |cons y r ih=>
  intro p m h hm
  obtain ⟨m,rfl,hm'⟩:=i9 hm
  obtain ⟨e1,e2,e3,e4⟩:=j3 h (by omega)
  have hy:=hQ y (by grind)
  have h0:IntKind.wrap .i64 (cQ vars 0)=vars:=by rw [show cQ vars 0=vars by grind [cQ]];exact aaf hv.1 hv.2.1
  simp only [mi,yh,e1,ae,e2,Option.bind_some,ag hk,ar,Rc hv (show (0:Int)≤0∧(0:Int)≤1 by omega) (dy t.kind),h0,hy,e3,ih (p++[y]) m e4 hm',Hi]
  rw [ca]
theorem aeE (hk:Fu k) (ret:Bool→Option S) (hv:VW vars dims 1) {more:Int} (hm:more=av t.kind) (hQ: ∀b∈t.sys,∀y∈b.kids,∀g,hd y vars (dims+more) bd g=g (a6 bd vars (dims+more) y)) (hl:t.sys.length<1073741824) (hl': ∀b∈t.sys,b.kids.length<1073741824):
  ∀ (r p:List (Br Tm)) (m:Nat),t.sys=p++r→r.length<m→iC hd k ret vars dims bd t m (p.length:Int) more=ret (ck bd vars dims t.kind r):=by
 intro r
 induction r with
 |nil=>
  grind [i9,iC,tl,ad,ck]
 |cons x r ih=>
  intro p m h hml
  obtain ⟨m,rfl,hm'⟩:=i9 hml
  obtain ⟨e1,e2,e3,e4⟩:=j3 h (by omega)
  have hx:x∈t.sys:=by grind
  have hlx:=hl' x hx
  have:=aeF (t:=t) (bd:=bd) hk ret (iC hd k ret vars dims bd t m) hv (v:=(p.length:Int)) hm (hQ x hx) hlx x.kids [] k rfl (by omega)
  have this:mi hd k ret (iC hd k ret vars dims bd t m) vars dims bd t (p.length:Int) x more k 0=_:=this
  simp only [iC,tl,e1,ae,e2,Option.bind_some,this,e3,ih (p++[x]) m e4 hm']
  have ea:ck bd vars dims t.kind (x::r)=(ca bd vars dims t.kind x.kids&&ck bd vars dims t.kind r):=by cases x;rfl
  grind
theorem aeD (hk:Fu k) (ret:Bool→Option S) (hv:VW vars dims 1) (hQ: ∀y∈t.kids,∀v d,0≤v∧v≤1→0≤d∧d≤1→ ∀g,hd y (IntKind.wrap .i64 (cQ vars v)) (dims+d) bd g=g (a6 bd (cQ vars v) (dims+d) y)) (hQ': ∀b∈t.sys,∀y∈b.kids,∀g,hd y vars (dims+av t.kind) bd g=g (a6 bd vars (dims+av t.kind) y)) (ht:OkT t):
  ∀ (r p:List Tm) (m:Nat),t.kids=p++r→r.length<m→nZ hd k ret vars dims bd t m (p.length:Int)=ret (bO bd vars dims t.kind p.length r&&ck bd vars dims t.kind t.sys):=by
 obtain ⟨o1,o2,o3,o4,o5,o6,o7⟩:=ht.no
 intro r
 induction r with
 |nil=>
  intro p m h hm
  obtain ⟨m,rfl,hm'⟩:=i9 hm
  have hs:iC hd k ret vars dims bd t k 0 (av t.kind)=_:=aeE hk ret hv rfl hQ' o7 (fun b hb=>(ht.bi hb).1.2.2) t.sys [] k rfl (by omega)
  grind [nZ,tk,bO,av,cH]
 |cons y r ih=>
  intro p m h hm
  obtain ⟨m,rfl,hm'⟩:=i9 hm
  obtain ⟨e1,e2,e3,e4⟩:=j3 h (by omega)
  have b1:=g7 t.kind p.length
  have b2:=gr t.kind p.length
  have hy:=hQ y (by grind) (bz t.kind p.length) (bJ t.kind p.length) b1 b2
  simp only [nZ,tk,e1,ae,e2,Option.bind_some,ag hk,jE,ar,Rc hv b1 b2,hy,e3,ih (p++[y]) m e4 hm',kY]
  grind [bO]
end
theorem wI (bd:Bool) (vars dims:Int) (t:Tm):a6 bd vars dims t=(!(bd&&decide (dims>24))&&(cL vars dims t&&(bO bd vars dims t.kind 0 t.kids&&ck bd vars dims t.kind t.sys))):=by cases t;rfl
theorem Uf {vars v:Int} (h:0≤v∧v≤1):vars≤cQ vars v∧cQ vars v≤vars+1:=by grind [cQ]
theorem Zv {bd:Bool} (t:Tm):OkT t→ ∀ {V W D:Int},W<0→9223372036854775808≤V→a6 bd W D t=a6 bd V D t:=by
 induction t using gq with
 |h kd n nm r ks sys ih1 ih2=>
  intro ht V W D hW hV
  have ho:=ht
  rw [OkT] at ht
  obtain ⟨o1,o2,o3,o4,o5,o6,o7⟩:=ht.1
  have hk: ∀ {l:List Tm} {i:Nat},(∀x∈l,OkT x→ ∀ {V W D:Int},W<0→9223372036854775808≤V→a6 bd W D x=a6 bd V D x)→aZ l→bO bd W D kd i l=bO bd V D kd i l:=by
   intro l
   induction l with
   |nil=>intro i _ _;rw [bO,bO]
   |cons t l ih=>
    intro i h hl
    rw [aZ] at hl
    have hb:=g7 kd i
    rw [bO,bO,ih (fun x hx=>h x (by simp [hx])) hl.2,h t (by simp) hl.1 (W:=cQ W (bz kd i)) (V:=cQ V (bz kd i)) (by unfold cQ;split<;>omega) (by unfold cQ;split<;>omega)]
  have hm: ∀ {l:List Tm},(∀x∈l,OkT x→ ∀ {V W D:Int},W<0→9223372036854775808≤V→a6 bd W D x=a6 bd V D x)→aZ l→ca bd W D kd l=ca bd V D kd l:=by
   intro l
   induction l with
   |nil=>intro _ _;rw [ca,ca]
   |cons t l ih=>
    intro h hl
    rw [aZ] at hl
    rw [ca,ca,ih (fun x hx=>h x (by simp [hx])) hl.2,h t (by simp) hl.1 hW hV]
  have hs: ∀ {l:List (Br Tm)},(∀b∈l,∀x∈b.kids,OkT x→ ∀ {V W D:Int},W<0→9223372036854775808≤V→a6 bd W D x=a6 bd V D x)→ba l→ck bd W D kd l=ck bd V D kd l:=by
   intro l
   induction l with
   |nil=>intro _ _;rw [ck,ck]
   |cons b l ih=>
    intro h hl
    obtain ⟨f,ks'⟩:=b
    rw [ba,fc] at hl
    rw [ck,ck,jT,jT,ih (fun b hb=>h b (by simp [hb])) hl.2,hm (l:=ks') (h ⟨f,ks'⟩ (by simp)) hl.1.2]
  have hw:cL W D (.mk kd n nm r ks sys)=cL V D (.mk kd n nm r ks sys):=by
   unfold cL
   have:decide (W<0∨n<W)=decide (V<0∨n<V):=by
    have hn:n<9223372036854775808:=by unfold aG at o2;omega
    rw [decide_eq_true (.inl hW),decide_eq_true (.inr (by omega))]
   dsimp only
   rw [this]
  rw [a6,a6,hw,hk ih1 ht.2.1,hs ih2 ht.2.2]
theorem cB (t:Tm):OkT t→ ∀ {k:Nat} {vars dims:Int} {bd:Bool} (ret:Bool→Option S),Fd k (am t)→VW vars dims (am t)→ic k t vars dims bd ret=ret (a6 bd vars dims t):=by
 induction t using c7 with
 |h t ih1 ih2=>
  intro ht k vars dims bd ret hk hv
  obtain ⟨q,rfl,hq,hf⟩:=hk.pos' (alF t)
  have hp:=alF t
  have hv':=hv
  unfold VW at hv'
  have hv1:VW vars dims 1:=by unfold VW;omega
  have hm:=dy t.kind
  have hQ: ∀y∈t.kids,∀v d,0≤v∧v≤1→0≤d∧d≤1→ ∀g:Bool→Option S,ic q y (IntKind.wrap .i64 (cQ vars v)) (dims+d) bd g=g (a6 bd (cQ vars v) (dims+d) y):=fun y hy v d h1 h2 g=>by
   have hd:=bY hy
   have hvb:=Uf (vars:=vars) h1
   by_cases hlt:cQ vars v<9223372036854775808
   ·rw [aaf (by omega) hlt]
    exact ih1 y hy (ht.ki hy) g (hf _ (bY hy)) (by unfold VW;omega)
   ·have e:cQ vars v=9223372036854775808:=by omega
    rw [e,show IntKind.wrap .i64 9223372036854775808= -9223372036854775808 from by decide,ih1 y hy (ht.ki hy) g (hf _ (bY hy)) (by unfold VW;omega),Zv y (ht.ki hy) (by omega) (Int.le_refl _)]
  have hQ': ∀b∈t.sys,∀y∈b.kids,∀g:Bool→Option S,ic q y vars (dims+av t.kind) bd g=g (a6 bd vars (dims+av t.kind) y):=fun b hb y hy g=>ih2 b hb y hy ((ht.bi hb).2 y hy) g (hf _ (b8 hb hy)) (by
   have:=b8 hb hy;unfold VW;omega)
  have:=aeD (bd:=bd) hq ret hv1 hQ hQ' ht t.kids [] q rfl (by have:=ht.no.2.2.2.2.2.1;omega)
  have this:nZ (ic q) q ret vars dims bd t q 0=_:=this
  simp only [ic,TT,ar,ag hq,ajt hq ht (show 0≤dims by omega) (show dims<9223372036854775808 by omega),zB,IU,this]
  rw [wI]
  cases bd with
  |true=>
   rw [ae,aY,Bool.true_and]
   by_cases h24:dims>24
   ·grind
   ·rw [if_neg h24,decide_eq_false h24]
    cases cL vars dims t<;>rfl
  |false=>
   rw [ad]
   cases cL vars dims t<;>rfl
def VD (vars dims:Int) (n:Nat):Prop:= -4611686018427387904≤vars∧vars+n<4611686018427387904∧0≤dims∧dims+n<4611686018427387904
theorem ai1 (t:Tm) (ht:OkT t) {k:Nat} {vars dims:Int} {bd:Bool} (ret:Bool→Option S) (hk:Fd k (am t)) (hv:VD vars dims (am t)):ic k t vars dims bd ret=ret (a6 bd vars dims t):=
 cB t ht ret hk (by obtain ⟨v1,v2,v3,v4⟩:=hv;exact ⟨by omega,by omega,v3,v4⟩)
theorem ajZ {t:Tm} (ht:OkT t) (hk:Fd k (am t)) (ret:Int→Option S):zD k t ret=ret (if am t>200 then 62 else if au t>20000 then 221 else 0):=by
 simp only [zD,TW,ar,ajY t ht _ hk (show (-4611686018427387904:Int)≤200 by omega) (show (200:Int)<4611686018427387904 by omega),ag hk.fu,aj0 ht hk (show (0:Int)<20000 by omega) (show (20000:Int)<4611686018427387904 by omega)]
 by_cases h1:am t>200
 ·rw [if_pos h1,decide_eq_false (by omega)];rfl
 ·rw [if_neg h1,decide_eq_true (by omega),Bool.not_true,ad]
  by_cases h2:au t>20000
  ·rw [if_pos h2,decide_eq_false (by omega)];rfl
  ·rw [if_neg h2,decide_eq_true (by omega)];rfl
theorem amv {t:Tm} (ht:OkT t) (hk:Fd k (am t)) (hdep:am t<1099511627776) (ret:Int→Option S):fe k t ret=ret (bw t):=by
 simp only [fe,TP,ar,ag hk.fu,ajZ ht hk,ai1 t ht _ hk (show VD (-1) 24 (am t) by unfold VD;omega),bG]
 unfold bw
 by_cases h1:am t>200
 ·rw [if_pos h1,if_pos h1];rfl
 ·rw [if_neg h1,if_neg h1]
  by_cases h2:au t>20000
  ·rw [if_pos h2,if_pos h2];rfl
  ·rw [if_neg h2,if_neg h2,decide_eq_true rfl,Bool.not_true,ad]
   cases a6 false (-1) 24 t<;>rfl
end Go.Proofs.YtfkkpkhfjpaafaaGreatDoor
namespace Go.Proofs.YtfkkpkhfjpaafaaGreatDoor
open Go PI
set_option linter.unusedVariables false
set_option linter.unusedSimpArgs false
set_option maxRecDepth 20000
variable {S:Type} {k:Nat}
theorem JO: ∀ {l:List Tm},(∀x∈l,am x≤au x)→aH l≤ay l:=by
 intro l
 induction l<;>grind [aH,ay]
theorem aai: ∀ {l:List (Br Tm)},(∀b∈l,∀x∈b.kids,am x≤au x)→aO l≤aI l:=by
 intro l
 induction l<;>grind [aO,aI,pD,kZ,JO]
theorem zG (t:Tm):am t≤au t:=by
 induction t using c7<;>grind [pF,rM,JO,aai]
section
variable {hd:Tm→(Int→Option S)→Option S} {t:Tm}
end
section
variable {hd:Tm→(Int→Option S)→Option S} {t:Tm}
end
section
variable {hd:Tm→Int→Int→Bool→(Bool→Option S)→Option S} {vars dims:Int} {bd:Bool} {t:Tm}
end
theorem Fk (d:Int) (l:List Cl) (h:l.length=0):dg l d=true:=by
 grind [dg,mem_bitsN,D7,jJ]
theorem af2 (hk:Fu k) (ret:Bool→Option S) {l:List Cl} (hlen:l.length<2147483648):
  ∀ (r p:List Cl) (m:Nat),l=p++r→r.length<m→ky k ret l l m (p.length:Int)=ret true:=by
 intro r
 induction r with
 |nil=>
  grind [i9,ky,oT,ad]
 |cons x r ih=>
  intro p m h hm
  obtain ⟨m,rfl,hm'⟩:=i9 hm
  obtain ⟨e1,e2,e3,e4⟩:=j3 h (by omega)
  grind [ky,oT,ae,ad]
theorem RT (hk:Fu k) {l:List Cl} (hlen:l.length<2147483648) (ret:Bool→Option S):jY k l l ret=ret true:=by
 simp only [jY,BV,beq_self_eq_true,Bool.not_true,ad]
 exact af2 hk ret hlen l [] k rfl (by omega)
section
variable {hd:Tm→Tm→(Bool→Option S)→Option S}
theorem ae6 (hk:Fu k) (ret:Bool→Option S) {l:List Tm} (hlen:l.length<2147483648) (hQ: ∀y∈l,∀g,hd y y g=g true):
  ∀ (r p:List Tm) (m:Nat),l=p++r→r.length<m→qH hd k ret l l m (p.length:Int)=ret true:=by
 intro r
 induction r with
 |nil=>
  grind [i9,qH,xQ,ad]
 |cons x r ih=>
  intro p m h hm
  obtain ⟨m,rfl,hm'⟩:=i9 hm
  obtain ⟨e1,e2,e3,e4⟩:=j3 h (by omega)
  grind [qH,xQ,ae,ar,ad]
theorem Rs (hk:Fu k) (ret:Bool→Option S) {l:List Tm} (hlen:l.length<2147483648) (hQ: ∀y∈l,∀g,hd y y g=g true):tX hd k l l ret=ret true:=by
 simp only [tX,It,beq_self_eq_true,Bool.not_true,ad]
 exact ae6 hk ret hlen hQ l [] k rfl (by omega)
theorem afs (hk:Fu k) (ret:Bool→Option S) {t:Tm} (ht:OkT t) (hQ: ∀b∈t.sys,∀y∈b.kids,∀g,hd y y g=g true):
  ∀ (r p:List (Br Tm)) (m:Nat),t.sys=p++r→r.length<m→qF hd k ret t t m (p.length:Int)=ret true:=by
 obtain ⟨o1,o2,o3,o4,o5,o6,o7⟩:=ht.no
 intro r
 induction r with
 |nil=>
  grind [i9,qF,xO,ad]
 |cons x r ih=>
  intro p m h hm
  obtain ⟨m,rfl,hm'⟩:=i9 hm
  obtain ⟨e1,e2,e3,e4⟩:=j3 h (by omega)
  have hx:x∈t.sys:=by grind
  have hb:=(ht.bi hx).1
  simp only [qF,xO,e1,ae,e2,Option.bind_some,ag hk,RT hk (show x.face.length<2147483648 by omega),Rs hk _ (show x.kids.length<2147483648 by omega) (hQ x hx),e3,ih (p++[x]) m e4 hm',Bool.not_true,ad]
end
theorem RQ (t:Tm):OkT t→ ∀ {k:Nat} (ret:Bool→Option S),Fd k (am t)→d8 k t t ret=ret true:=by
 induction t using c7 with
 |h t ih1 ih2=>
  intro ht k ret hk
  obtain ⟨q,rfl,hq,hf⟩:=hk.pos' (alF t)
  obtain ⟨o1,o2,o3,o4,o5,o6,o7⟩:=ht.no
  have hQ: ∀y∈t.kids,∀g:Bool→Option S,d8 q y y g=g true:=fun y hy g=>ih1 y hy (ht.ki hy) g (hf _ (bY hy))
  have hQ': ∀b∈t.sys,∀y∈b.kids,∀g:Bool→Option S,d8 q y y g=g true:=fun b hb y hy g=>ih2 b hb y hy ((ht.bi hb).2 y hy) g (hf _ (b8 hb hy))
  have:=afs hq ret ht hQ' t.sys [] q rfl (by omega)
  grind [d8,Jq,Ir,ad,ag,RT,Rs]
section
variable {hd:Tm→Int→(Int→Option S)→Option S} {t:Tm}
theorem aep (hk:Fu k) (ret:Int→Option S) (rec1:Int→Int→Option S) {v most:Int} {x:Br Tm} (hv:af t.sys v=some x) (hQ: ∀y∈x.kids,∀n g,∃w,hd y n g=g w) (hl:x.kids.length<1073741824):
  ∀ (r p:List Tm) (m:Nat) (a:Int),x.kids=p++r→r.length<m→ ∃w,kA hd k ret rec1 t most v m a (p.length:Int)=rec1 w (IntKind.wrap .i64 (v+1)):=by
 intro r
 induction r with
 |nil=>
  intro p m a h hm
  obtain ⟨m,rfl,hm'⟩:=i9 hm
  exact ⟨a,by grind [kA,xL,ad]⟩
 |cons y r ih=>
  intro p m a h hm
  obtain ⟨m,rfl,hm'⟩:=i9 hm
  obtain ⟨e1,e2,e3,e4⟩:=j3 h (by omega)
  simp only [kA,xL,hv,e1,ae,e2,Option.bind_some,ar,e3]
  cases decide (a≤most) with
  |false=>exact ⟨a,rfl⟩
  |true=>
   rw [ae]
   obtain ⟨w,hw⟩:=hQ y (by grind) (IntKind.wrap .i64 (most-a)) (fun r8=>kA hd k ret rec1 t most v m (IntKind.wrap .i64 (a+r8)) (((p++[y]).length:Nat):Int))
   rw [hw]
   exact ih (p++[y]) m _ e4 hm'
theorem aeo (hk:Fu k) (ret:Int→Option S) {most:Int} (hQ: ∀b∈t.sys,∀y∈b.kids,∀n g,∃w,hd y n g=g w) (ht:OkT t):
  ∀ (r p:List (Br Tm)) (m:Nat) (a:Int),t.sys=p++r→r.length<m→ ∃w,jl hd k ret t most m a (p.length:Int)=ret w:=by
 obtain ⟨o1,o2,o3,o4,o5,o6,o7⟩:=ht.no
 intro r
 induction r with
 |nil=>
  intro p m a h hm
  obtain ⟨m,rfl,hm'⟩:=i9 hm
  exact ⟨a,by grind [jl,sS,ad]⟩
 |cons x r ih=>
  intro p m a h hm
  obtain ⟨m,rfl,hm'⟩:=i9 hm
  obtain ⟨e1,e2,e3,e4⟩:=j3 h (by omega)
  have hx:x∈t.sys:=by grind
  have hb:=(ht.bi hx).1
  simp only [jl,sS,e1,ae,e2,Option.bind_some,e3]
  cases decide (a≤most) with
  |false=>exact ⟨a,rfl⟩
  |true=>
   rw [ae]
   cases decide (((x.face.length:Nat):Int)>most) with
   |true=>exact ⟨_,rfl⟩
   |false=>
    rw [ad]
    obtain ⟨w,hw⟩:=aep (t:=t) (most:=most) hk ret (jl hd k ret t most m) e2 (hQ x hx) hb.2.2 x.kids [] k (IntKind.wrap .i64 (IntKind.wrap .i64 (a+1)+((x.face.length:Nat):Int))) rfl (by omega)
    have hw:kA hd k ret (jl hd k ret t most m) t most (p.length:Int) k (IntKind.wrap .i64 (IntKind.wrap .i64 (a+1)+((x.face.length:Nat):Int))) 0=_:=hw
    rw [hw,e3]
    exact ih (p++[x]) m w e4 hm'
theorem aen (hk:Fu k) (ret:Int→Option S) {most:Int} (hQ: ∀y∈t.kids,∀n g,∃w,hd y n g=g w) (hQ': ∀b∈t.sys,∀y∈b.kids,∀n g,∃w,hd y n g=g w) (ht:OkT t):
  ∀ (r p:List Tm) (m:Nat) (a:Int),t.kids=p++r→r.length<m→ ∃w,nQ hd k ret t most m a (p.length:Int)=ret w:=by
 obtain ⟨o1,o2,o3,o4,o5,o6,o7⟩:=ht.no
 intro r
 have hs:=fun a=>aeo (most:=most) hk ret hQ' ht t.sys [] k a rfl (by omega)
 induction r with
 |nil=>
  intro p m a h hm
  obtain ⟨m,rfl,hm'⟩:=i9 hm
  simp_all [nQ,sR,ad]
 |cons y r ih=>
  intro p m a h hm
  obtain ⟨m,rfl,hm'⟩:=i9 hm
  obtain ⟨e1,e2,e3,e4⟩:=j3 h (by omega)
  simp only [nQ,sR,e1,ae,e2,Option.bind_some,ar,e3]
  cases decide (a≤most) with
  |false=>exact hs a
  |true=>
   rw [ae]
   obtain ⟨w,hw⟩:=hQ y (by grind) (IntKind.wrap .i64 (most-a)) (fun r2=>nQ hd k ret t most m (IntKind.wrap .i64 (a+r2)) (((p++[y]).length:Nat):Int))
   rw [hw]
   exact ih (p++[y]) m _ e4 hm'
end
theorem ajK (t:Tm):OkT t→ ∀ {k:Nat} (most:Int) (ret:Int→Option S),Fd k (am t)→ ∃w,gE k t most ret=ret w:=by
 induction t using c7 with
 |h t ih1 ih2=>
  intro ht k most ret hk
  obtain ⟨q,rfl,hq,hf⟩:=hk.pos' (alF t)
  obtain ⟨o1,o2,o3,o4,o5,o6,o7⟩:=ht.no
  have hQ: ∀y∈t.kids,∀n (g:Int→Option S),∃w,gE q y n g=g w:=fun y hy n g=>ih1 y hy (ht.ki hy) n g (hf _ (bY hy))
  have hQ': ∀b∈t.sys,∀y∈b.kids,∀n (g:Int→Option S),∃w,gE q y n g=g w:=fun b hb y hy n g=>ih2 b hb y hy ((ht.bi hb).2 y hy) n g (hf _ (b8 hb hy))
  simp only [gE,Io]
  cases decide (((t.r.length:Nat):Int)>most) with
  |true=>exact ⟨_,rfl⟩
  |false=>
   rw [ad]
   cases decide (((t.name.size:Nat):Int)>most) with
   |true=>exact ⟨_,rfl⟩
   |false=>
    rw [ad]
    exact aen hq ret hQ hQ' ht t.kids [] q _ rfl (by omega)
end Go.Proofs.YtfkkpkhfjpaafaaGreatDoor
namespace Go.Proofs.YtfkkpkhfjpaafaaGreatDoor
open Go PI
set_option linter.unusedVariables false
set_option linter.unusedSimpArgs false
set_option maxRecDepth 20000
variable {S:Type} {k:Nat}
def pE {α:Type}:Except Int α→Pan Int α
 | .ok a=> .ok a
 | .error e=> .pan e
def eE {α β:Type} (x:Except Int α) (f:α→β) (g:Int→β):β:=match x with
 | .ok a=>f a
 | .error e=>g e
theorem ij {α β:Type} (x:Except Int α) (f:α→β) (g:Int→β):Pan.elim (pE x) f g=eE x f g:=by cases x<;>rfl
theorem AS {α β γ:Type} (x:Except Int α) (f:α→Except Int β) (u:β→γ) (w:Int→γ):eE (bE x f) u w=eE x (fun a=>eE (f a) u w) w:=by cases x<;>rfl
theorem aP {α β:Type} (a:α) (f:α→β) (g:Int→β):eE (.ok a) f g=f a:=rfl
theorem Qx {α:Type} (x:Except Int α) (ret:Pan Int α→Option S):ret (pE x)=eE x (fun a=>ret (.ok a)) fun e=>ret (.pan e):=by cases x<;>rfl
def ao:Tm:= .mk 0 0 ByteArray.empty [] [] []
def tE:Except Int Tm→Tm×Int
 | .ok t=>(t,0)
 | .error e=>(ao,e)
theorem ad3 {α β:Type} {x:Except Int α} {f f':α→β} {g g':Int→β} (h: ∀a,x= .ok a→f a=f' a) (h': ∀e,x= .error e→g e=g' e):eE x f g=eE x f' g':=by
 cases x with
 |ok a=>exact h a rfl
 |error e=>exact h' e rfl
theorem Ru (hk:Fu k) {a b d:Int} {f:List Cl} (hf:aq f) (hl:f.length<1073741824) (hd:aG d) (hb:aG b) (ret:Pan Int (List Cl)→Option S):tN k a b f d ret=ret (pE (alN d b f)):=by
 simp only [tN,SV,ag hk,vX hk hf hl hd hb,bG,aY,J5 (show 0+f.length≤1099511627776 by omega)]
 unfold alN
 by_cases h0:b=0
 ·rw [if_pos h0,if_pos (.inl h0)];rfl
 ·rw [if_neg h0]
  by_cases h1:d≥24
  ·rw [if_pos h1,if_pos (.inr h1)];rfl
  ·rw [if_neg h1,if_neg (show ¬ (b=0∨d≥24) by omega)]
   by_cases h2:(agS f d b).2=0
   ·rw [decide_eq_true h2,jF h2];rfl
   ·rw [decide_eq_false h2,iO h2];rfl
section
variable {hd:Int→Int→Tm→Int→Int→(Pan Int Tm→Option S)→Option S} {vb db v d:Int} {t:Tm}
theorem ae5 (hk:Fu k) (ret:Pan Int Tm→Option S) (rec2:List (Br Tm)→Int→Int→Option S) {r12 r2:List Cl} {b1 v90:Int} {ks:List Tm} {o:List (Br Tm)} {x:Br Tm} {more:Int} (hm:more=av t.kind)
  (hd0:0≤d∧d<4611686018427387904) (hQ: ∀y∈x.kids,∀g,hd vb db y v (d+more) g=g (pE (acr vb db v (d+more) y))) (hl:x.kids.length<1073741824) (ho:o.length<1073741824):
  ∀ (r p:List Tm) (m:Nat) (acc:List Tm),x.kids=p++r→r.length<m→acc.length=p.length→
  l7 hd k ret rec2 r12 vb db t b1 r2 ks o x more v d v90 m acc (p.length:Int)=eE (alP vb db v d t.kind r) (fun l=>rec2 (o++[⟨r12,acc++l⟩]) more (IntKind.wrap .i64 (v90+1))) fun e=>ret (.pan e):=by
 subst hm
 have hmo:=dy t.kind
 intro r
 induction r with
 |nil=>
  grind [i9,l7,xe,ad,alP,aP,J5]
 |cons y r ih=>
  intro p m acc h hm ha
  obtain ⟨m,rfl,hm'⟩:=i9 hm
  obtain ⟨e1,e2,e3,e4⟩:=j3 h (by omega)
  have hpl:p.length<x.kids.length:=by grind
  have hy:=hQ y (by grind)
  simp only [l7,xe,e1,ae,e2,Option.bind_some,ar,aaf (n:=d+av t.kind) (by omega) (by omega),hy,ij,alP,AS,aP]
  refine ad3 (fun t' ht'=> ?_) fun e _=>rfl
  rw [J5 (by grind),e3,ih (p++[y]) m (acc++[t']) e4 hm' (by grind)]
  simp
theorem ae4 (hk:Fu k) (ret:Pan Int Tm→Option S) {r2:List Cl} {b1:Int} {ks:List Tm} {more:Int} (hm:more=av t.kind) (ht:OkT t) (hdb:aG db) (hd0:0≤d∧d<4611686018427387904)
  (hQ: ∀b∈t.sys,∀y∈b.kids,∀g,hd vb db y v (d+more) g=g (pE (acr vb db v (d+more) y))):
  ∀ (r p:List (Br Tm)) (m:Nat) (o:List (Br Tm)),t.sys=p++r→r.length<m→o.length=p.length→
  it hd k ret vb db t b1 r2 ks v d m o more (p.length:Int)=eE (alT vb db v d t.kind r) (fun l=>ret (.ok (.mk t.kind b1 t.name r2 ks (o++l)))) fun e=>ret (.pan e):=by
 obtain ⟨o1,o2,o3,o4,o5,o6,o7⟩:=ht.no
 intro r
 induction r with
 |nil=>
  grind [i9,it,sA,ad,alT,aP]
 |cons x r ih=>
  intro p m o h hml ho
  obtain ⟨m,rfl,hm'⟩:=i9 hml
  obtain ⟨e1,e2,e3,e4⟩:=j3 h (by omega)
  have hx:x∈t.sys:=by grind
  have hpl:p.length<t.sys.length:=by grind
  have hb:=(ht.bi hx).1
  have hrow:=Ru (S:=S) hk (a:=vb) hb.1 hb.2.1 (show aG d by unfold aG;omega) hdb
  have:=fun r12=>ae5 hk ret (it hd k ret vb db t b1 r2 ks v d m) (r12:=r12) (r2:=r2) (b1:=b1) (v90:=(p.length:Int)) (ks:=ks) (o:=o) hm hd0 (hQ x hx) hb.2.2 (by omega) x.kids [] k [] rfl (by omega) rfl
  have this: ∀r12,l7 hd k ret (it hd k ret vb db t b1 r2 ks v d m) r12 vb db t b1 r2 ks o x more v d (p.length:Int) k [] 0=_:=this
  have hB:n8 vb db v d t.kind x=bE (alN d db x.face) fun f'=>bE (alP vb db v d t.kind x.kids) fun ks'=> .ok (.mk f' ks'):=by cases x;rfl
  simp only [it,sA,e1,ae,e2,Option.bind_some,ag hk,hrow,ij,this,alT,hB,AS,aP,List.nil_append,e3]
  refine ad3 (fun f' _=>ad3 (fun ks' _=> ?_) fun e _=>rfl) fun e _=>rfl
  rw [ih (p++[x]) m (o++[Br.mk f' ks']) e4 hm' (by grind)]
  simp
theorem ae3 (hk:Fu k) (ret:Pan Int Tm→Option S) {r2:List Cl} {b1:Int} (ht:OkT t) (hdb:aG db) (hd0:0≤d∧d<4611686018427387904) (hv0:0≤v∧v<4611686018427387904)
  (hQ: ∀y∈t.kids,∀a b,0≤a∧a≤1→0≤b∧b≤1→ ∀g,hd vb db y (v+a) (d+b) g=g (pE (acr vb db (v+a) (d+b) y))) (hQ': ∀b∈t.sys,∀y∈b.kids,∀g,hd vb db y v (d+av t.kind) g=g (pE (acr vb db v (d+av t.kind) y))):
  ∀ (r p:List Tm) (m:Nat) (acc:List Tm),t.kids=p++r→r.length<m→acc.length=p.length→
  kr hd k ret vb db t b1 r2 v d m acc (p.length:Int)=eE (dm vb db v d t.kind p.length r) (fun l=>eE (alT vb db v d t.kind t.sys) (fun s=>ret (.ok (.mk t.kind b1 t.name r2 (acc++l) s))) fun e=>ret (.pan e)) fun e=>ret (.pan e):=by
 obtain ⟨o1,o2,o3,o4,o5,o6,o7⟩:=ht.no
 intro r
 induction r with
 |nil=>
  intro p m acc h hm ha
  obtain ⟨m,rfl,hm'⟩:=i9 hm
  have hs:it hd k ret vb db t b1 r2 acc v d k [] (av t.kind) 0=_:=ae4 hk ret rfl ht hdb hd0 hQ' t.sys [] k [] rfl (by omega) rfl
  grind [kr,sz,dm,aP,cH,av]
 |cons y r ih=>
  intro p m acc h hm ha
  obtain ⟨m,rfl,hm'⟩:=i9 hm
  obtain ⟨e1,e2,e3,e4⟩:=j3 h (by omega)
  have hpl:p.length<t.kids.length:=by grind
  have b1':=g7 t.kind p.length
  have b2':=gr t.kind p.length
  have hy:=hQ y (by grind) (bz t.kind p.length) (bJ t.kind p.length) b1' b2'
  simp only [kr,sz,e1,ae,e2,Option.bind_some,ag hk,jE,ar,aaf (n:=v+bz t.kind p.length) (by omega) (by omega),aaf (n:=d+bJ t.kind p.length) (by omega) (by omega),hy,ij,dm,AS,aP]
  refine ad3 (fun t' ht'=> ?_) fun e _=>rfl
  rw [J5 (by grind),e3,ih (p++[y]) m (acc++[t']) e4 hm' (by grind),show (p++[y]).length=p.length+1 by simp]
  simp
end
theorem Fh (vb db v d:Int) (t:Tm):acr vb db v d t=if t.kind=1∧t.n≥v∧t.n>1000000000-vb then .error 100 else bE (alN d db t.r) fun r'=>bE (dm vb db v d t.kind 0 t.kids) fun ks'=>bE (alT vb db v d t.kind t.sys) fun sys'=> .ok (.mk t.kind (if t.kind=1∧t.n≥v then t.n+vb else t.n) t.name r' ks' sys'):=by cases t;rfl
theorem RowsT.no {t:Tm} (h:RowsT t):RF t.r∧(t.kind=1→t.r=[])∧0≤t.kind:=by cases t;rw [RowsT] at h;exact h.1
theorem RowsT.ki {t x:Tm} (h:RowsT t) (hx:x∈t.kids):RowsT x:=by cases t;rw [RowsT] at h;exact rowsK_iff.1 h.2.1 x hx
theorem RowsT.bi {t:Tm} {b:Br Tm} (h:RowsT t) (hb:b∈t.sys):RF b.face∧ ∀x∈b.kids,RowsT x:=by cases t;rw [RowsT] at h;exact rowsS_iff.1 h.2.2 b hb
def VP (v d:Int) (n:Nat):Prop:=0≤v∧v+n<4611686018427387904∧0≤d∧d+n<4611686018427387904
theorem BA {vb db:Int} (hvb:0≤vb∧vb≤1000000000) (hdb:aG db) (t:Tm):OkT t→RowsT t→ ∀ {k:Nat} {v d:Int} (ret:Pan Int Tm→Option S),Fd k (am t)→VP v d (am t)→dk k vb db t v d ret=ret (pE (acr vb db v d t)):=by
 induction t using c7 with
 |h t ih1 ih2=>
  intro ht hro k v d ret hk hv
  obtain ⟨q,rfl,hq,hf⟩:=hk.pos' (alF t)
  obtain ⟨q',hq'⟩: ∃q',q=q'+1:=⟨q-1,by omega⟩
  have hp:=alF t
  unfold VP at hv
  obtain ⟨o1,o2,o3,o4,o5,o6,o7⟩:=ht.no
  have hmo:=dy t.kind
  have hQ: ∀y∈t.kids,∀a b,0≤a∧a≤1→0≤b∧b≤1→ ∀g:Pan Int Tm→Option S,dk q vb db y (v+a) (d+b) g=g (pE (acr vb db (v+a) (d+b) y)):=fun y hy a b h1 h2 g=>
   ih1 y hy (ht.ki hy) (hro.ki hy) g (hf _ (bY hy)) (by have:=bY hy;unfold VP;omega)
  have hQ': ∀b∈t.sys,∀y∈b.kids,∀g:Pan Int Tm→Option S,dk q vb db y v (d+av t.kind) g=g (pE (acr vb db v (d+av t.kind) y)):=fun b hb y hy g=>
   ih2 b hb y hy ((ht.bi hb).2 y hy) ((hro.bi hb).2 y hy) g (hf _ (b8 hb hy)) (by have:=b8 hb hy;unfold VP;omega)
  have h1:=fun r2 b1=>ae3 (r2:=r2) (b1:=b1) hq ret ht hdb (show 0≤d∧d<4611686018427387904 by omega) (show 0≤v∧v<4611686018427387904 by omega) hQ hQ' t.kids [] q [] rfl (by omega) rfl
  have h0: ∀r2 b1,uJ (dk q) q ret vb db t r2 v d q b1=kr (dk q) q ret vb db t b1 r2 v d q [] 0:=by
   intro r2 b1
   have: ∀j,j=q'+1→uJ (dk q) q ret vb db t r2 v d j b1=kr (dk q) q ret vb db t b1 r2 v d q [] 0:=by rintro j rfl;rfl
   grind
  have h2: ∀r2 b1,uJ (dk q) q ret vb db t r2 v d q b1=_:=fun r2 b1=>(h0 r2 b1).trans (h1 r2 b1)
  have hrow:=Ru (S:=S) hq (a:=vb) o4 o5 (show aG d by unfold aG;omega) hdb
  simp only [dk,HY,ag hq,hrow,ij,h2,List.length_nil,List.nil_append]
  rw [Qx _ ret,Fh]
  unfold aG at o2
  by_cases hc:t.kind=1
  ·have hr:=hro.no.2.1 hc
   rw [hr,Bt,aP,hc,show ((1:Int)==1)=true from rfl,ae,aY]
   by_cases hn:t.n≥v
   ·rw [if_pos hn,aaf (n:=1000000000-vb) (by omega) (by omega),aY]
    by_cases hb:t.n>1000000000-vb
    ·rw [if_pos hb,if_pos (show (1:Int)=1∧t.n≥v∧t.n>1000000000-vb from ⟨rfl,hn,hb⟩)];rfl
    grind [AS,aaf,aP]
   grind [AS,aP]
  ·have hc':(t.kind==1)=false:=by grind
   rw [hc',if_neg (show ¬ (t.kind=1∧t.n≥v∧t.n>1000000000-vb) from fun h=>hc h.1)]
   simp_all [ad,AS,aP]
section
variable {hd:Tm→Int→Int→Int→Int→(Tm→Option S)→Option S} {vb db v d:Int} {t:Tm}
theorem wx {z:List Cl×Int} {α:Type} (f:List Cl→α) (g:Int→α):ab (!(z.2==0)) (g z.2) (f z.1)=eE (toE z) f g:=by
 rw [bG]
 unfold toE
 by_cases h:z.2=0
 ·rw [decide_eq_true h,if_pos h];rfl
 ·rw [decide_eq_false h,if_neg h];rfl
end
end Go.Proofs.YtfkkpkhfjpaafaaGreatDoor
namespace Go.Proofs.YtfkkpkhfjpaafaaGreatDoor
open Go PI
set_option linter.unusedVariables false
set_option linter.unusedSimpArgs false
set_option maxRecDepth 20000
variable {S:Type} {k:Nat}
theorem eU {t:Tm} (h:bw t=0):am t≤200∧au t≤20000∧a6 false (-1) 24 t=true:=by
 grind [bw]
theorem pS {t:Tm} (h1:am t≤200) (h2:au t≤20000) (h3:a6 false (-1) 24 t=true):bw t=0:=by
 grind [bw]
theorem Et (t:Tm):0≤bw t∧bw t≤1000:=by
 grind [bw]
def Fm (t:Tm):Prop:=OkT t∧bw t=0
theorem Fm.ok {t:Tm} (h:Fm t):OkT t:=h.1
theorem Fm.rows {t:Tm} (h:Fm t):RowsT t:=ZA t h.1 (eU h.2).2.2
theorem Fm.dep {t:Tm} (h:Fm t):am t≤200:=(eU h.2).1
theorem Fm.siz {t:Tm} (h:Fm t):au t≤20000:=(eU h.2).2.1
theorem jr {vb db v d:Int} (hvb:0≤vb∧vb≤1000000000) {t t':Tm} (h:Fm t) (hl:acr vb db v d t= .ok t'):Fm t':=by
 obtain ⟨h1,h2,h3,h4⟩:=uP hvb.1 hvb.2 t v d t' hl
 obtain ⟨a,b,c⟩:=eU h.2
 have:=h4 h.1
 exact ⟨this.1,pS (by omega) (by omega) (this.2.2 24 24 (by omega) (by omega) c)⟩
abbrev F3 (k:Nat):Prop:=4294968296≤k
theorem F3.fu (h:F3 k):Fu k:=by omega
theorem F3.fd (h:F3 k) {n:Nat} (hn:n≤1000):Fd k n:=by omega
theorem Fm.fd {t:Tm} (h:Fm t) (hk:F3 k):Fd k (am t):=hk.fd (by have:=h.dep;omega)
theorem Fm.vp {t:Tm} (h:Fm t) {v d:Int} (hv:0≤v∧v≤4611686018427380000) (hd:0≤d∧d≤4611686018427380000):VP v d (am t):=by have:=h.dep;unfold VP;omega
theorem amt (x:Except Int Tm) (ret:Tm×Int→Option S):ret (tE x)=eE x (fun t=>ret (t,0)) fun e=>ret (ao,e):=by cases x<;>rfl
theorem aeU (hk:Fu k) (ret:Tm×Int→Option S) {c0 c2:Int} {c1:Tm} {ns:List Int} (hl:ns.length<1000) (hn: ∀x∈ns,0≤x):
  ∀ (r p:List Int) (m:Nat),ns=p++r→r.length<m→nC k ret c0 c1 c2 ns m (p.length:Int)=yX k c0 c1 c2 fun r4=>Pan.elim r4 (fun r4=>ret (r4,0)) fun e5=>ret (ao,e5):=by
 intro r
 induction r with
 |nil=>
  intro p m h hm
  obtain ⟨m,rfl,hm'⟩:=i9 hm
  simp only [nC,xa,akb h,ad,ag hk,ar];rfl
 |cons x r ih=>
  intro p m h hm
  obtain ⟨m,rfl,hm'⟩:=i9 hm
  obtain ⟨e1,e2,e3,e4⟩:=j3 h (by omega)
  have hx:=hn x (by grind)
  grind [nC,xa,aY]
theorem Rr (hk:F3 k) {t:Tm} (ht:Fm t) {f b:Int} (hf:0≤f∧f≤24) (hb:0≤b∧b<9223372036854775808) (ret:Tm×Int→Option S):lv k t f b ret=ret (tE (acr 0 b 0 f t)):=by
 have hl:=aeU hk.fu ret (c0:=b) (c2:=f) (c1:=t) (ns:=[f,b]) (by simp) (by grind) [f,b] [] k rfl (by grind)
 have hl:nC k ret b t f [f,b] k 0=_:=hl
 simp only [lv,HW,ag hk.fu,ar,yZ,BQ,amv ht.ok (ht.fd hk) (show am t<1099511627776 by have:=ht.dep;omega),ht.2,hl,yX,ST]
 rw [show ((0:Int)==0)=true from rfl,Bool.not_true,ad,if_neg (by omega),BA (by omega) (by unfold aG;omega) t ht.ok ht.rows _ (ht.fd hk) (ht.vp (by omega) (by omega)),ij,amt _ ret]
 rfl
def J6 (vb db:Int) (t:Tm):Except Int Tm:=bE (acr vb 0 0 0 t) (acr 0 db 0 0)
theorem mD {vb db:Int} (hvb:0≤vb∧vb≤1000000000) {t t':Tm} (h:Fm t) (hl:J6 vb db t= .ok t'):Fm t':=by
 obtain ⟨a,h1,h2⟩:=i8 hl
 exact jr (by omega) (jr hvb h h1) h2
theorem al3 {vb db:Int} {t:Tm} {e:Int} (h:J6 vb db t= .error e):0<e∧e≤1000:=by
 rcases be h with h|⟨a,_,h⟩
 ·exact amo t h
 ·exact amo a h
theorem aeV (hk:Fu k) (ret:Tm×Int→Option S) {c0 c1:Int} {c2:Tm} {ns:List Int} (hl:ns.length<1000) (hn: ∀x∈ns,0≤x):
  ∀ (r p:List Int) (m:Nat),ns=p++r→r.length<m→nE k ret c0 c1 c2 ns m (p.length:Int)=yW k c0 c1 c2 fun r4=>Pan.elim r4 (fun r4=>ret (r4,0)) fun e5=>ret (ao,e5):=by
 intro r
 induction r with
 |nil=>
  intro p m h hm
  obtain ⟨m,rfl,hm'⟩:=i9 hm
  simp only [nE,xd,akb h,ad,ag hk,ar];rfl
 |cons x r ih=>
  intro p m h hm
  obtain ⟨m,rfl,hm'⟩:=i9 hm
  obtain ⟨e1,e2,e3,e4⟩:=j3 h (by omega)
  have hx:=hn x (by grind)
  grind [nE,xd,aY]
theorem He (hk:F3 k) {t:Tm} (ht:Fm t) {vb db:Int} (hvb:0≤vb∧vb≤1000000) (hdb:0≤db∧db<9223372036854775808) (ret:Tm×Int→Option S):lu k t vb db ret=ret (tE (J6 vb db t)):=by
 have hl:=aeV hk.fu ret (c0:=db) (c1:=vb) (c2:=t) (ns:=[vb,db,1000000-vb]) (by simp) (by grind) [vb,db,1000000-vb] [] k rfl (by grind)
 have hl:nE k ret db vb t [vb,db,1000000-vb] k 0=_:=hl
 simp only [lu,HV,ag hk.fu,ar,aaf (n:=1000000-vb) (by omega) (by omega),y7,BS,amv ht.ok (ht.fd hk) (show am t<1099511627776 by have:=ht.dep;omega),ht.2,hl,yW,SS]
 rw [show ((0:Int)==0)=true from rfl,Bool.not_true,ad,BA (show 0≤vb∧vb≤1000000000 by omega) (show aG 0 by unfold aG;omega) t ht.ok ht.rows _ (ht.fd hk) (ht.vp (by omega) (by omega)),ij,amt _ ret]
 unfold J6
 rw [AS]
 refine ad3 (fun y hy=> ?_) fun _ _=>rfl
 have hy':=jr (show 0≤vb∧vb≤1000000000 by omega) ht hy
 rw [BA (show (0:Int)≤0∧(0:Int)≤1000000000 by omega) (show aG db by unfold aG;omega) y hy'.ok hy'.rows _ (hy'.fd hk) (hy'.vp (by omega) (by omega)),ij]
 rfl
end Go.Proofs.YtfkkpkhfjpaafaaGreatDoor
namespace Go.Proofs.YtfkkpkhfjpaafaaGreatDoor
open Go PI
set_option linter.unusedVariables false
set_option linter.unusedSimpArgs false
set_option maxRecDepth 20000
variable {S:Type} {k:Nat}
def acJ (i:Int) (r:List Cl) (fa:Bool):dC:=fun d f=>if bP (ie f) (i+d) then bE (toE (agS r 0 d)) fun s=>toE (if fa then iG f (i+d) s else iH f (i+d) s) else .ok f
theorem D5 (f:List Cl):U32 (ie f):=by
 have:=D6 f
 exact ⟨Int.natCast_nonneg _,by show ((fS f:Nat):Int)<_;omega⟩
theorem ahR {f r:List Cl} {i:Int} (hr:aq r) (h:(iH f i r).2=0):RF (iH f i r).1:=by
 grind [iH,KG,N5,fF,rA]
theorem FN (f g:List Cl):EN (alV f g).2:=qW _
theorem ES (f g:List Cl):EN (alO f g).2:=qW _
theorem agF (f g:List Cl):EN (amd f g).2:=qW _
theorem NM (f:List Cl):EN (alU f).2:=z8 fun h c=>FN _ _
theorem ahH (i:Int) (r:List Cl) (c:Cl):EN (d_ i r c).2:=by
 grind [d_,FN,uq]
theorem ahJ (i:Int) (r:List Cl) (c:Cl) (g:List Cl):EN (amk i r c g).2:=by
 grind [amk,FN,NM,uq]
theorem ahG (i:Int) (r h:List Cl) (c:Cl):EN (dY i r h c).2:=by
 grind [dY,ES,ahJ,ahH]
theorem ahQ (f:List Cl) (i:Int) (r:List Cl):EN (iH f i r).2:=by
 grind [iH,z8,ahG,lO]
theorem agW (f:List Cl):EN (ofS f).2:=by
 unfold ofS
 split
 ·exact qW _
 ·exact lO
theorem agX (f:List Cl):EN (ofZ f).2:=by
 unfold ofZ
 split
 ·split
  ·exact qW _
  ·exact NM _
 ·exact lO
theorem ahM {i:Int} {c:Cl} {h:List Cl} {q:List Cl×Int} (hq:EN q.2):EN (al8 i c h q).2:=by
 grind [al8,ES,agF]
theorem ahN (f:List Cl) (i:Int) (r:List Cl):EN (iG f i r).2:=by
 grind [iG,z8,alL,ahM,agW,agX,ES,lO]
theorem rB {i:Int} {r:List Cl} {fa:Bool} {d:Int} {f g:List Cl} (hf:RF f) (h:acJ i r fa d f= .ok g):RF g:=by
 unfold acJ at h
 split at h
 ·obtain ⟨s,h1,h⟩:=i8 h
  obtain ⟨h0,rfl⟩:=rR h1
  have hs:=kQ h0
  obtain ⟨h2,rfl⟩:=rR h
  cases fa with
  |true=>exact (ahO hf.2 hs.2 h2).1
  |false=>exact ahR hs.2 h2
 grind
theorem Bu {i:Int} {r:List Cl} {fa:Bool} {d:Int} {f:List Cl} {e:Int} (h:acJ i r fa d f= .error e):0<e∧e≤1000:=by
 grind [acJ,be,B0,q_,EN,ahN,ahQ]
theorem QI {i:Int} {r:List Cl} {fa:Bool} {d:Int}:acJ i r fa d []= .ok []:=by
 grind [acJ,bP,ie,Int.toNat_natCast,D7,jJ]
def al1 (i:Int) (r:List Cl) (fa:Bool) (d:Int) (f:List Cl):List Cl×Int:=if bP (ie f) (i+d) then if (agS r 0 d).2=0 then if fa then iG f (i+d) (agS r 0 d).1 else iH f (i+d) (agS r 0 d).1 else ([],(agS r 0 d).2) else (f,0)
theorem oJ (i:Int) (r:List Cl) (fa:Bool) (d:Int) (f:List Cl):toE (al1 i r fa d f)=acJ i r fa d f:=by
 grind [al1,acJ,jF,aD,iO,lk]
section
variable {i d:Int} {r f:List Cl}
theorem RS (hk:Fu k) (hf:RF f) (hr:RF r) (hi:0≤i∧i<24) (hd:0≤d∧d<4611686018427387000) (ret:List Cl×Int→Option S):tF k f d i r ret=ret (al1 i r true d f):=by
 have l1:=hf.len;have l2:=hr.len
 simp only [tF,Sr,ag hk,aaf (n:=i+d) (by omega) (by omega),Ha hk hf.2 (show f.length<4294967296 by omega),rF hk (D5 f),tD,Hy,J5 (show 0+f.length≤1099511627776 by omega),vX hk hr.2 (show r.length<1073741824 by omega) (show aG 0 by unfold aG;omega) (show aG d by unfold aG;omega)]
 unfold al1
 cases bP (ie f) (i+d) with
 |false=>rfl
 |true=>
  rw [Bool.not_true,ad,bG,if_pos rfl]
  by_cases h0:(agS r 0 d).2=0
  ·have hs:=kQ h0
   rw [decide_eq_true h0,Bool.not_true,ad,aje hk hf.2 hs.2 hf.lt hs.lt,if_pos h0,if_pos rfl]
  grind [ae]
theorem ajW (hk:Fu k) (hf:RF f) (hr:RF r) (hi:0≤i∧i<24) (hd:0≤d∧d<4611686018427387000) (ret:List Cl×Int→Option S):yF k f d i r ret=ret (al1 i r false d f):=by
 have l1:=hf.len;have l2:=hr.len
 simp only [yF,Sq,ag hk,aaf (n:=i+d) (by omega) (by omega),Ha hk hf.2 (show f.length<4294967296 by omega),rF hk (D5 f),tD,Hy,J5 (show 0+f.length≤1099511627776 by omega),vX hk hr.2 (show r.length<1073741824 by omega) (show aG 0 by unfold aG;omega) (show aG d by unfold aG;omega)]
 unfold al1
 cases bP (ie f) (i+d) with
 |false=>rfl
 |true=>
  rw [Bool.not_true,ad,bG,if_pos rfl]
  by_cases h0:(agS r 0 d).2=0
  ·have hs:=kQ h0
   rw [decide_eq_true h0,Bool.not_true,ad,ajb hk hf.2 hs.2 hf.lt hs.lt,if_pos h0,if_neg (by decide)]
  grind [ae]
end
def jU (j:Int) (c:Cl):Cl:=⟨pI c.pos j,pI c.neg j⟩
def ac2 (j:Int) (f:List Cl):List Cl:=(bp (f.map (jU j))).1
theorem JR (s j:Int):0≤pI s j∧pI s j<16777216:=by
 have:=aam s.toNat j
 exact ⟨Int.natCast_nonneg _,by show ((j7 s.toNat j:Nat):Int)<_;omega⟩
theorem DA (j:Int) (c:Cl):RC (jU j c):=⟨JR _ _,JR _ _⟩
theorem DD (j:Int) (f:List Cl): ∀c∈f.map (jU j),RC c:=fun c hc=>by
 grind [DA]
theorem DC {j:Int} {f:List Cl} (hf:f.length≤64):bp (f.map (jU j))=(ac2 j f,0):=Prod.ext rfl (LH (DD j f) (by grind))
theorem aad {j:Int} {f:List Cl} (hf:f.length≤64):RF (ac2 j f):=qX (fun c hc=>(DD j f c hc).ok) (by rw [DC hf])
theorem agO: ∀ (n:Nat) {l:List Cl} {c:Cl},(l.filter fun d=>dR c d&& !decide (d=c)).length≤n→(∀d∈l,RC d)→c∈l→ ∃d∈l,ce l d=true:=by
 have hle: ∀ {a b:Cl},RC a→RC b→(dR a b=true↔(∀j,b.pos.toNat.testBit j=true→a.pos.toNat.testBit j=true)∧ ∀j,b.neg.toNat.testBit j=true→a.neg.toNat.testBit j=true):=by
  intro a b ha hb
  unfold dR d9
  rw [decide_eq_true_eq]
  have hor: ∀ {x y:Int},0≤x→(ep x y=x↔ ∀j,y.toNat.testBit j=true→x.toNat.testBit j=true):=by
   intro x y hx
   unfold ep
   constructor
   ·intro h j hj
    have:(x.toNat|||y.toNat)=x.toNat:=by omega
    grind
   ·intro h
    have:(x.toNat|||y.toNat)=x.toNat:=by
     apply Nat.eq_of_testBit_eq
     grind
    omega
  cases a with
  |mk p q=>
   have h1:0≤p:=ha.1.1
   have h2:0≤q:=ha.2.1
   grind
 have hanti: ∀ {a b:Cl},RC a→RC b→dR a b=true→dR b a=true→a=b:=by
  intro a b ha hb h1 h2
  have e1:=(hle ha hb).1 h1
  have e2:=(hle hb ha).1 h2
  have hx: ∀ {x y:Int},0≤x→0≤y→(∀j,y.toNat.testBit j=true→x.toNat.testBit j=true)→(∀j,x.toNat.testBit j=true→y.toNat.testBit j=true)→x=y:=by
   intro x y hx hy a b
   have:x.toNat=y.toNat:=by
    apply Nat.eq_of_testBit_eq
    grind
   omega
  cases a;cases b
  have p1:=hx ha.1.1 hb.1.1 e1.1 e2.1
  have p2:=hx ha.2.1 hb.2.1 e1.2 e2.2
  grind
 intro n
 induction n with
 |zero=>
  grind [ce,List.filter_eq_nil_iff]
 |succ n ih=>
  intro l c hn hl hc
  by_cases h:ce l c=true
  ·grind
  ·unfold ce at h
   rw [List.all_eq_true] at h
   have: ∃d∈l,¬ ((decide (d=c)|| !dR c d)=true):=Classical.byContradiction fun hh=>h fun d hd=>Classical.byContradiction fun h2=>hh ⟨d,hd,h2⟩
   obtain ⟨d,hd,hd'⟩:=this
   have h1:d≠c:=fun h=>hd' (by grind)
   have h2:dR c d=true:=by
    grind
   refine ih (c:=d) ?_ hl hd
   have hsub:(l.filter fun e=>dR d e&& !decide (e=d)).length<(l.filter fun e=>dR c e&& !decide (e=c)).length:=by
    have hc':=hl c hc;have hdr:=hl d hd
    have himp: ∀e∈l,(dR d e&& !decide (e=d))=true→(dR c e&& !decide (e=c))=true:=by
     grind
    have hle2: ∀ (p q:Cl→Bool) (m:List Cl),(∀e∈m,p e=true→q e=true)→(m.filter p).length≤(m.filter q).length:=by
     intro p q m
     induction m<;>grind
    have hlt: ∀ (p q:Cl→Bool) (m:List Cl),(∀e∈m,p e=true→q e=true)→d∈m→p d=false→q d=true→(m.filter p).length<(m.filter q).length:=by
     intro p q m
     induction m with
     |nil=>simp
     |cons e m im=>
      intro hm hdm hp hq
      have hrest: ∀e∈m,p e=true→q e=true:=fun e he=>hm e (by simp [he])
      have hb:=hle2 p q m hrest
      rcases List.mem_cons.1 hdm with rfl|hdm<;>grind
    exact hlt _ _ l himp hd (by simp) (by grind)
   omega
theorem JE {j:Int} {f:List Cl} (hf:RF f):(ac2 j f).length=0↔f.length=0:=by
 have h:=DC (j:=j) hf.len
 have hm:=(As h).1
 constructor
 ·intro h0
  apply Classical.byContradiction
  intro hne
  obtain ⟨c,hc⟩:=List.exists_mem_of_length_pos (l:=f.map (jU j)) (by grind)
  obtain ⟨d,hd,hn⟩:=agO _ (Nat.le_refl _) (DD j f) hc
  have:d∈ac2 j f:=by grind [mem_mins]
  grind
 ·intro h0
  have:=List.length_eq_zero_iff.1 h0
  subst this;rfl
theorem aeC (hk:Fu k) (ret:List Cl×Int→Option S) {i d:Int} (hi:0≤i∧i<24) (hd:0≤d∧d<4611686018427387000) {f:List Cl} (hf:aq f) (hlen:f.length<1073741824):
  ∀ (r p:List Cl) (m:Nat) (o:List Cl),f=p++r→r.length<m→aq o→o.length=p.length→p6 k ret i d f m (p.length:Int) o=ret (bp (o++r.map (jU (i+d)))):=by
 intro r
 induction r with
 |nil=>
  intro p m o h hm hok ho
  obtain ⟨m,rfl,hm'⟩:=i9 hm
  grind [p6,wN,ad,ag,kX]
 |cons x r ih=>
  intro p m o h hm hok ho
  obtain ⟨m,rfl,hm'⟩:=i9 hm
  obtain ⟨e1,e2,e3,e4⟩:=j3 h (by omega)
  have hx:aX x:=hf x (by grind)
  have hpl:p.length<f.length:=by grind
  simp only [p6,wN,e1,ae,e2,Option.bind_some,ag hk,aaf (n:=i+d) (by omega) (by omega),Q4 hk hx.1,Q4 hk hx.2,e3]
  rw [J5 (by grind)]
  have:=ih (p++[x]) m (o++[jU (i+d) x]) e4 hm' (ami hok fun c hc=>by simp at hc;subst hc;exact (DA _ _).ok) (by grind)
  refine Eq.trans this ?_
  simp
theorem Rl (hk:Fu k) {i d:Int} (hi:0≤i∧i<24) (hd:0≤d∧d<4611686018427387000) {f:List Cl} (hf:RF f) (ret:List Cl×Int→Option S):pc k f d i ret=ret (ac2 (i+d) f,0):=by
 have l1:=hf.len
 have:=aeC hk ret hi hd hf.2 (by omega) f [] k [] rfl (by omega) (fun c hc=>by cases hc) rfl
 grind [pc,Hx,DC]
end Go.Proofs.YtfkkpkhfjpaafaaGreatDoor
namespace Go.Proofs.YtfkkpkhfjpaafaaGreatDoor
open Go PI
set_option linter.unusedVariables false
set_option linter.unusedSimpArgs false
set_option maxRecDepth 20000
variable {S:Type} {k:Nat}
theorem B4 (fo fa:dC) (d:Int) (t:Tm):ab7 fo fa d t=bE (if t.kind=14 then fa d t.r else fo d t.r) fun r'=>bE (aig fo fa d t.kind 0 t.kids) fun ks'=>bE (acM fo fa d t.kind t.sys) fun sys'=> .ok (.mk t.kind t.n t.name r' ks' sys'):=by cases t;rfl
theorem B3 (fo fa:dC) (d kd:Int) (b:Br Tm):amn fo fa d kd b=bE (fa d b.face) fun f'=>if f'.length=0 then .ok [] else bE (akP fo fa d kd b.kids) fun ks'=> .ok [.mk f' ks']:=by cases b;rfl
section
variable {fo fa:dC} (hfo: ∀d f e,fo d f= .error e→0<e∧e≤1000) (hfa: ∀d f e,fa d f= .error e→0<e∧e≤1000)
include hfo hfa
theorem jK (t:Tm): ∀ {d e},ab7 fo fa d t= .error e→0<e∧e≤1000:=by
 induction t using gq with
 |h kd n nm r ks sys ih1 ih2=>
  intro d e h
  rw [ab7] at h
  rcases be h with h|⟨_,_,h⟩
  ·grind
  have hkids: ∀ {l:List Tm} {i:Nat},(∀x∈l,∀ {d e},ab7 fo fa d x= .error e→0<e∧e≤1000)→aig fo fa d kd i l= .error e→0<e∧e≤1000:=by
   intro l
   induction l with
   |nil=>grind [aig]
   |cons t l ih=>
    intro i hl h
    rw [aig] at h
    rcases be h with h|⟨_,_,h⟩
    ·exact hl t (by simp) h
    grind [be]
  have hmore: ∀ {l:List Tm},(∀x∈l,∀ {d e},ab7 fo fa d x= .error e→0<e∧e≤1000)→ ∀ {e},akP fo fa d kd l= .error e→0<e∧e≤1000:=by
   intro l
   induction l with
   |nil=>grind [akP]
   |cons t l ih=>
    intro hl e h
    rw [akP] at h
    rcases be h with h|⟨_,_,h⟩
    ·grind
    ·rcases be h with h|⟨_,_,h⟩
     ·exact ih (fun x hx=>hl x (by simp [hx])) h
     simp_all
  have hsys: ∀ {l:List (Br Tm)},(∀b∈l,∀x∈b.kids,∀ {d e},ab7 fo fa d x= .error e→0<e∧e≤1000)→acM fo fa d kd l= .error e→0<e∧e≤1000:=by
   intro l
   induction l<;>grind [acM,be,B3]
  grind [be]
theorem Ug {kd d:Int}: ∀ {l:List Tm} {i:Nat} {e:Int},aig fo fa d kd i l= .error e→0<e∧e≤1000:=by
 intro l
 induction l with
 |nil=>grind [aig]
 |cons t l ih=>
  intro i e h
  rw [aig] at h
  rcases be h with h|⟨_,_,h⟩
  ·exact jK hfo hfa t h
  grind [be]
theorem Uh {kd d:Int}: ∀ {l:List Tm} {e:Int},akP fo fa d kd l= .error e→0<e∧e≤1000:=by
 intro l
 induction l<;>grind [akP,be,jK]
end
theorem anT {α β:Type} (x:Except Int Tm) (hx: ∀e,x= .error e→0<e∧e≤1000) (f:Tm→α) (g:Int→α):(fun r:Tm×Int=>ab (!(r.2==0)) (g r.2) (f r.1)) (tE x)=eE x f g:=by
 cases x with
 |ok t=>rfl
 |error e=>
  have:=(hx e rfl).1
  show ab (!(e==0)) (g e) (f ao)=g e
  grind [decide_eq_false,ae]
theorem AM {α β γ:Type} (x:Except Int α) (hx: ∀e,x= .error e→0<e∧e≤1000) (z:α) (f:α→β) (g:Int→β):eE x (fun l=>(fun r:α×Int=>ab (!(r.2==0)) (g r.2) (f r.1)) (l,0)) (fun e=>(fun r:α×Int=>ab (!(r.2==0)) (g r.2) (f r.1)) (z,e))=eE x f g:=by
 cases x with
 |ok t=>rfl
 |error e=>
  have:=(hx e rfl).1
  show ab (!(e==0)) (g e) (f z)=g e
  grind [decide_eq_false,ae]
theorem mo {G:Int→List Cl→List Cl}: ∀d f e,j0 G d f= .error e→0<e∧e≤1000:=fun d f e h=>by cases h
theorem jD {i:Int} {r:List Cl} {fa:Bool}: ∀d f e,acJ i r fa d f= .error e→0<e∧e≤1000:=fun d f e h=>Bu h
section
variable {hd:Tm→Int→Int→List Cl→(Tm×Int→Option S)→Option S} {i d:Int} {t:Tm} {r:List Cl}
theorem ahV (hk:Fu k) (hi:0≤i∧i<24) (hr:RF r) (hd0:0≤d∧d<4611686018427386000) (hro:RowsT t) (ret:List Cl×Int→Option S): ∃z:List Cl×Int,toE z=(if t.kind=14 then (acJ i r true) d t.r else (acJ i r false) d t.r)∧yG k t d i r ret=ret z:=by
 have hr0:=hro.no.1
 simp only [yG,Sv,ag hk,RS hk hr0 hr hi (show 0≤d∧d<4611686018427387000 by omega),ajW hk hr0 hr hi (show 0≤d∧d<4611686018427387000 by omega)]
 by_cases h:t.kind=14
 ·rw [h,if_pos rfl,show ((14:Int)==14)=true from rfl,ae]
  grind [oJ]
 ·rw [if_neg h,show (t.kind==14)=false from by grind,ad]
  grind [oJ]
theorem ahS (hk:Fu k) (ret:List Tm×Int→Option S) (hd0:0≤d∧d<4611686018427386000) (hQ: ∀y∈t.kids,∀b,0≤b∧b≤1→ ∀g,hd y (d+b) i r g=g (tE (ab7 (acJ i r false) (acJ i r true) (d+b) y))) (hl:t.kids.length<1073741824):
  ∀ (r' p:List Tm) (m:Nat) (acc:List Tm),t.kids=p++r'→r'.length<m→acc.length=p.length→
  lX hd k ret i r t t.kids d m acc (p.length:Int)=eE (aig (acJ i r false) (acJ i r true) d t.kind p.length r') (fun l=>ret (acc++l,0)) fun e=>ret ([],e):=by
 intro r'
 induction r' with
 |nil=>
  grind [i9,lX,wR,ad,aig,aP]
 |cons y r' ih=>
  intro p m acc h hm ha
  obtain ⟨m,rfl,hm'⟩:=i9 hm
  obtain ⟨e1,e2,e3,e4⟩:=j3 h (by omega)
  have hpl:p.length<t.kids.length:=by grind
  have b2':=gr t.kind p.length
  have hy:=hQ y (by grind) (bJ t.kind p.length) b2'
  simp only [lX,wR,e1,ae,e2,Option.bind_some,ag hk,tG,HD,jE,ar,aaf (n:=d+bJ t.kind p.length) (by omega) (by omega),hy]
  refine Eq.trans (anT (β:=Unit) _ (fun e he=>jK jD jD y he) (fun z=>Option.bind (aw 1099511627776 acc.length [z].length) fun _=>lX hd k ret i r t t.kids d m (acc++[z]) (IntKind.wrap .i64 ((p.length:Int)+1))) fun e=>ret ([],e)) ?_
  simp only [aig,AS,aP]
  refine ad3 (fun t' ht'=> ?_) fun e _=>rfl
  rw [J5 (by grind),e3,ih (p++[y]) m (acc++[t']) e4 hm' (by grind),show (p++[y]).length=p.length+1 by simp]
  simp
theorem ahT (hk:Fu k) (ret:List Tm×Int→Option S) {x:Br Tm} {kd:Int} (hd0:0≤d∧d<4611686018427386000) (hQ: ∀y∈x.kids,∀g,hd y (d+av kd) i r g=g (tE (ab7 (acJ i r false) (acJ i r true) (d+av kd) y))) (hl:x.kids.length<1073741824):
  ∀ (r' p:List Tm) (m:Nat) (acc:List Tm),x.kids=p++r'→r'.length<m→acc.length=p.length→
  lW hd k ret i r (av kd) x.kids d m acc (p.length:Int)=eE (akP (acJ i r false) (acJ i r true) d kd r') (fun l=>ret (acc++l,0)) fun e=>ret ([],e):=by
 have hmo:=dy kd
 intro r'
 induction r' with
 |nil=>
  grind [i9,lW,wQ,ad,akP,aP]
 |cons y r' ih=>
  intro p m acc h hm ha
  obtain ⟨m,rfl,hm'⟩:=i9 hm
  obtain ⟨e1,e2,e3,e4⟩:=j3 h (by omega)
  have hpl:p.length<x.kids.length:=by grind
  have hy:=hQ y (by grind)
  simp only [lW,wQ,e1,ae,e2,Option.bind_some,ag hk,tH,HE,ar,aaf (n:=d+av kd) (by omega) (by omega),hy]
  refine Eq.trans (anT (β:=Unit) _ (fun e he=>jK jD jD y he) (fun z=>Option.bind (aw 1099511627776 acc.length [z].length) fun _=>lW hd k ret i r (av kd) x.kids d m (acc++[z]) (IntKind.wrap .i64 ((p.length:Int)+1))) fun e=>ret ([],e)) ?_
  simp only [akP,AS,aP]
  refine ad3 (fun t' ht'=> ?_) fun e _=>rfl
  rw [J5 (by grind),e3,ih (p++[y]) m (acc++[t']) e4 hm' (by grind)]
  simp
theorem ahU (hk:Fu k) (ret:Tm×Int→Option S) (hi:0≤i∧i<24) (hr:RF r) (hd0:0≤d∧d<4611686018427386000) {r1:List Cl×Int} {r2:List Tm×Int} (ht:OkT t) (hro:RowsT t) (hQ: ∀b∈t.sys,∀y∈b.kids,∀g,hd y (d+av t.kind) i r g=g (tE (ab7 (acJ i r false) (acJ i r true) (d+av t.kind) y))):
  ∀ (r' p:List (Br Tm)) (m:Nat) (o:List (Br Tm)),t.sys=p++r'→r'.length<m→o.length≤p.length→
  fV hd k ret i r t r1 r2 d m (av t.kind) o (p.length:Int)=eE (acM (acJ i r false) (acJ i r true) d t.kind r') (fun s=>ret (.mk t.kind t.n t.name r1.1 r2.1 (o++s),0)) fun e=>ret (ao,e):=by
 obtain ⟨o1,o2,o3,o4,o5,o6,o7⟩:=ht.no
 intro r'
 induction r' with
 |nil=>
  grind [i9,fV,wS,ad,acM,aP]
 |cons x r' ih=>
  intro p m o h hml ho
  obtain ⟨m,rfl,hm'⟩:=i9 hml
  obtain ⟨e1,e2,e3,e4⟩:=j3 h (by omega)
  have hx:x∈t.sys:=by grind
  have hpl:p.length<t.sys.length:=by grind
  have hb:=(ht.bi hx).1
  have hr0:=(hro.bi hx).1
  have hM:=fun g:List Tm×Int→Option S=>ahT (kd:=t.kind) hk g hd0 (hQ x hx) hb.2.2 x.kids [] k [] rfl (by omega) rfl
  have hM: ∀g:List Tm×Int→Option S,lW hd k g i r (av t.kind) x.kids d k [] 0=_:=hM
  simp only [fV,wS,e1,ae,e2,Option.bind_some,ag hk,RS hk hr0 hr hi (show 0≤d∧d<4611686018427387000 by omega),DK,HB,hM,e3,List.nil_append]
  have hin:=fun f':List Cl=>AM (β:=Option S) (γ:=Unit) (akP (acJ i r false) (acJ i r true) d t.kind x.kids) (fun e he=>Uh jD jD he) [] (fun l=>Option.bind (aw 1099511627776 o.length [Br.mk f' l].length) fun _=>fV hd k ret i r t r1 r2 d m (av t.kind) (o++[Br.mk f' l]) (((p++[x]).length:Nat):Int)) fun e=>ret (ao,e)
  refine Eq.trans (wx (z:=(al1 i r true d x.face)) (fun f'=>ab (((f'.length:Nat):Int)==0) (fV hd k ret i r t r1 r2 d m (av t.kind) o (((p++[x]).length:Nat):Int)) (eE (akP (acJ i r false) (acJ i r true) d t.kind x.kids) (fun l=>(fun r5:List Tm×Int=>ab (!(r5.2==0)) (ret (ao,r5.2)) (Option.bind (aw 1099511627776 o.length [Br.mk f' r5.1].length) fun _=>fV hd k ret i r t r1 r2 d m (av t.kind) (o++[Br.mk f' r5.1]) (((p++[x]).length:Nat):Int))) (l,0)) fun e=>(fun r5:List Tm×Int=>ab (!(r5.2==0)) (ret (ao,r5.2)) (Option.bind (aw 1099511627776 o.length [Br.mk f' r5.1].length) fun _=>fV hd k ret i r t r1 r2 d m (av t.kind) (o++[Br.mk f' r5.1]) (((p++[x]).length:Nat):Int))) ([],e))) fun e=>ret (ao,e)) ?_
  rw [show toE (al1 i r true d x.face)=(acJ i r true) d x.face from oJ _ _ _ _ _]
  rw [acM,B3,AS,AS]
  refine ad3 (fun f' hf'=> ?_) fun e _=>rfl
  rw [qY,aY]
  by_cases h0:f'.length=0
  ·rw [if_pos h0,if_pos h0,aP,AS,ih (p++[x]) m o e4 hm' (by grind)]
   rfl
  ·rw [if_neg h0,if_neg h0,hin f',AS]
   refine ad3 (fun l hl=> ?_) fun e _=>rfl
   rw [aP,AS,J5 (by grind),ih (p++[x]) m (o++[Br.mk f' l]) e4 hm' (by grind)]
   grind [aP]
end
theorem ahW {i:Int} {r:List Cl} (hi:0≤i∧i<24) (hr:RF r) (t:Tm):OkT t→RowsT t→ ∀ {k:Nat} {d:Int} (ret:Tm×Int→Option S),Fd k (am t)→0≤d→d+am t<4611686018427386000→d7 k t d i r ret=ret (tE (ab7 (acJ i r false) (acJ i r true) d t)):=by
 induction t using c7 with
 |h t ih1 ih2=>
  intro ht hro k d ret hk hv hv'
  obtain ⟨q,rfl,hq,hf⟩:=hk.pos' (alF t)
  have hp:=alF t
  have hd0:0≤d∧d<4611686018427386000:=by omega
  obtain ⟨o1,o2,o3,o4,o5,o6,o7⟩:=ht.no
  have hmo:=dy t.kind
  have hQ: ∀y∈t.kids,∀b,0≤b∧b≤1→ ∀g:Tm×Int→Option S,d7 q y (d+b) i r g=g (tE (ab7 (acJ i r false) (acJ i r true) (d+b) y)):=fun y hy b h2 g=>
   ih1 y hy (ht.ki hy) (hro.ki hy) g (hf _ (bY hy)) (by omega) (by have:=bY hy;omega)
  have hQ': ∀b∈t.sys,∀y∈b.kids,∀g:Tm×Int→Option S,d7 q y (d+av t.kind) i r g=g (tE (ab7 (acJ i r false) (acJ i r true) (d+av t.kind) y)):=fun b hb y hy g=>
   ih2 b hb y hy ((ht.bi hb).2 y hy) ((hro.bi hb).2 y hy) g (hf _ (b8 hb hy)) (by omega) (by have:=b8 hb hy;omega)
  have hK: ∀g:List Tm×Int→Option S,lX (d7 q) q g i r t t.kids d q [] 0=_:=fun g=>ahS hq g hd0 hQ o6 t.kids [] q [] rfl (by omega) rfl
  have hS:=fun (r1:List Cl×Int) (r2:List Tm×Int)=>ahU (r1:=r1) (r2:=r2) hq ret hi hr hd0 ht hro hQ' t.sys [] q [] rfl (by omega) (Nat.le_refl _)
  have hS: ∀ (r1:List Cl×Int) (r2:List Tm×Int),fV (d7 q) q ret i r t r1 r2 d q (av t.kind) [] 0=_:=hS
  have hcase: ∀ (r1:List Cl×Int) (r2:List Tm×Int),ab (t.kind==15) (fV (d7 q) q ret i r t r1 r2 d q 1 [] 0) (fV (d7 q) q ret i r t r1 r2 d q 0 [] 0)=eE (acM (acJ i r false) (acJ i r true) d t.kind t.sys) (fun s=>ret (.mk t.kind t.n t.name r1.1 r2.1 s,0)) fun e=>ret (ao,e):=by
   grind [cH,av]
  obtain ⟨z,hz,hrow⟩:=ahV hq hi hr hd0 hro (fun r1=>ab (!(r1.2==0)) (ret (ao,r1.2)) (eE (aig (acJ i r false) (acJ i r true) d t.kind 0 t.kids) (fun l=>(fun r2:List Tm×Int=>ab (!(r2.2==0)) (ret (ao,r2.2)) (eE (acM (acJ i r false) (acJ i r true) d t.kind t.sys) (fun s=>ret (.mk t.kind t.n t.name r1.1 r2.1 s,0)) fun e=>ret (ao,e))) (l,0)) fun e=>(fun r2:List Tm×Int=>ab (!(r2.2==0)) (ret (ao,r2.2)) (eE (acM (acJ i r false) (acJ i r true) d t.kind t.sys) (fun s=>ret (.mk t.kind t.n t.name r1.1 r2.1 s,0)) fun e=>ret (ao,e))) ([],e)))
  simp only [d7,HF,ag hq,ar,DL,HC,hK,hcase,List.nil_append,List.length_nil]
  refine Eq.trans hrow ?_
  rw [amt _ ret,B4,←hz]
  refine Eq.trans (wx (z:=z) (fun r'=>eE (aig (acJ i r false) (acJ i r true) d t.kind 0 t.kids) (fun l=>(fun r2:List Tm×Int=>ab (!(r2.2==0)) (ret (ao,r2.2)) (eE (acM (acJ i r false) (acJ i r true) d t.kind t.sys) (fun s=>ret (.mk t.kind t.n t.name r' r2.1 s,0)) fun e=>ret (ao,e))) (l,0)) fun e=>(fun r2:List Tm×Int=>ab (!(r2.2==0)) (ret (ao,r2.2)) (eE (acM (acJ i r false) (acJ i r true) d t.kind t.sys) (fun s=>ret (.mk t.kind t.n t.name r' r2.1 s,0)) fun e=>ret (ao,e))) ([],e)) fun e=>ret (ao,e)) ?_
  rw [AS]
  refine ad3 (fun r' _=> ?_) fun e _=>rfl
  refine Eq.trans (AM (β:=Option S) (γ:=Unit) (aig (acJ i r false) (acJ i r true) d t.kind 0 t.kids) (fun e he=>Ug jD jD he) [] (fun l=>eE (acM (acJ i r false) (acJ i r true) d t.kind t.sys) (fun s=>ret (.mk t.kind t.n t.name r' l s,0)) fun e=>ret (ao,e)) fun e=>ret (ao,e)) ?_
  simp only [AS,aP]
section
variable {hd:Tm→Int→Int→(Tm×Int→Option S)→Option S} {i d:Int} {t:Tm}
theorem aaq (hk:Fu k) (hi:0≤i∧i<24) (hd0:0≤d∧d<4611686018427386000) (hro:RowsT t) (ret:List Cl×Int→Option S): ∃z:List Cl×Int,toE z=(if t.kind=14 then (j0 fun d f=>ac2 (i+d) f) d t.r else (j0 fun d f=>ac2 (i+d) f) d t.r)∧yH k t d i ret=ret z:=by
 have hr0:=hro.no.1
 simp only [yH,Sw,ag hk,Rl hk hi (show 0≤d∧d<4611686018427387000 by omega) hr0]
 by_cases h:t.kind=14
 ·rw [h,if_pos rfl,show ((14:Int)==14)=true from rfl,ae]
  exact ⟨_,rfl,rfl⟩
 ·rw [if_neg h,show (t.kind==14)=false from by grind,ad]
  exact ⟨_,rfl,rfl⟩
theorem aan (hk:Fu k) (ret:List Tm×Int→Option S) (hd0:0≤d∧d<4611686018427386000) (hQ: ∀y∈t.kids,∀b,0≤b∧b≤1→ ∀g,hd y (d+b) i g=g (tE (ab7 (j0 fun d f=>ac2 (i+d) f) (j0 fun d f=>ac2 (i+d) f) (d+b) y))) (hl:t.kids.length<1073741824):
  ∀ (r' p:List Tm) (m:Nat) (acc:List Tm),t.kids=p++r'→r'.length<m→acc.length=p.length→
  lV hd k ret i t t.kids d m acc (p.length:Int)=eE (aig (j0 fun d f=>ac2 (i+d) f) (j0 fun d f=>ac2 (i+d) f) d t.kind p.length r') (fun l=>ret (acc++l,0)) fun e=>ret ([],e):=by
 intro r'
 induction r' with
 |nil=>
  grind [i9,lV,wP,ad,aig,aP]
 |cons y r' ih=>
  intro p m acc h hm ha
  obtain ⟨m,rfl,hm'⟩:=i9 hm
  obtain ⟨e1,e2,e3,e4⟩:=j3 h (by omega)
  have hpl:p.length<t.kids.length:=by grind
  have b2':=gr t.kind p.length
  have hy:=hQ y (by grind) (bJ t.kind p.length) b2'
  simp only [lV,wP,e1,ae,e2,Option.bind_some,ag hk,tG,HD,jE,ar,aaf (n:=d+bJ t.kind p.length) (by omega) (by omega),hy]
  refine Eq.trans (anT (β:=Unit) _ (fun e he=>jK mo mo y he) (fun z=>Option.bind (aw 1099511627776 acc.length [z].length) fun _=>lV hd k ret i t t.kids d m (acc++[z]) (IntKind.wrap .i64 ((p.length:Int)+1))) fun e=>ret ([],e)) ?_
  simp only [aig,AS,aP]
  refine ad3 (fun t' ht'=> ?_) fun e _=>rfl
  rw [J5 (by grind),e3,ih (p++[y]) m (acc++[t']) e4 hm' (by grind),show (p++[y]).length=p.length+1 by simp]
  simp
theorem aao (hk:Fu k) (ret:List Tm×Int→Option S) {x:Br Tm} {kd:Int} (hd0:0≤d∧d<4611686018427386000) (hQ: ∀y∈x.kids,∀g,hd y (d+av kd) i g=g (tE (ab7 (j0 fun d f=>ac2 (i+d) f) (j0 fun d f=>ac2 (i+d) f) (d+av kd) y))) (hl:x.kids.length<1073741824):
  ∀ (r' p:List Tm) (m:Nat) (acc:List Tm),x.kids=p++r'→r'.length<m→acc.length=p.length→
  lU hd k ret i (av kd) x.kids d m acc (p.length:Int)=eE (akP (j0 fun d f=>ac2 (i+d) f) (j0 fun d f=>ac2 (i+d) f) d kd r') (fun l=>ret (acc++l,0)) fun e=>ret ([],e):=by
 have hmo:=dy kd
 intro r'
 induction r' with
 |nil=>
  grind [i9,lU,wO,ad,akP,aP]
 |cons y r' ih=>
  intro p m acc h hm ha
  obtain ⟨m,rfl,hm'⟩:=i9 hm
  obtain ⟨e1,e2,e3,e4⟩:=j3 h (by omega)
  have hpl:p.length<x.kids.length:=by grind
  have hy:=hQ y (by grind)
  simp only [lU,wO,e1,ae,e2,Option.bind_some,ag hk,tH,HE,ar,aaf (n:=d+av kd) (by omega) (by omega),hy]
  refine Eq.trans (anT (β:=Unit) _ (fun e he=>jK mo mo y he) (fun z=>Option.bind (aw 1099511627776 acc.length [z].length) fun _=>lU hd k ret i (av kd) x.kids d m (acc++[z]) (IntKind.wrap .i64 ((p.length:Int)+1))) fun e=>ret ([],e)) ?_
  simp only [akP,AS,aP]
  refine ad3 (fun t' ht'=> ?_) fun e _=>rfl
  rw [J5 (by grind),e3,ih (p++[y]) m (acc++[t']) e4 hm' (by grind)]
  simp
theorem aap (hk:Fu k) (ret:Tm×Int→Option S) (hi:0≤i∧i<24) (hd0:0≤d∧d<4611686018427386000) {r1:List Cl×Int} {r2:List Tm×Int} (ht:OkT t) (hro:RowsT t) (hQ: ∀b∈t.sys,∀y∈b.kids,∀g,hd y (d+av t.kind) i g=g (tE (ab7 (j0 fun d f=>ac2 (i+d) f) (j0 fun d f=>ac2 (i+d) f) (d+av t.kind) y))):
  ∀ (r' p:List (Br Tm)) (m:Nat) (o:List (Br Tm)),t.sys=p++r'→r'.length<m→o.length≤p.length→
  fW hd k ret i t r1 r2 d m (av t.kind) o (p.length:Int)=eE (acM (j0 fun d f=>ac2 (i+d) f) (j0 fun d f=>ac2 (i+d) f) d t.kind r') (fun s=>ret (.mk t.kind t.n t.name r1.1 r2.1 (o++s),0)) fun e=>ret (ao,e):=by
 obtain ⟨o1,o2,o3,o4,o5,o6,o7⟩:=ht.no
 intro r'
 induction r' with
 |nil=>
  grind [i9,fW,wT,ad,acM,aP]
 |cons x r' ih=>
  intro p m o h hml ho
  obtain ⟨m,rfl,hm'⟩:=i9 hml
  obtain ⟨e1,e2,e3,e4⟩:=j3 h (by omega)
  have hx:x∈t.sys:=by grind
  have hpl:p.length<t.sys.length:=by grind
  have hb:=(ht.bi hx).1
  have hr0:=(hro.bi hx).1
  have hM:=fun g:List Tm×Int→Option S=>aao (kd:=t.kind) hk g hd0 (hQ x hx) hb.2.2 x.kids [] k [] rfl (by omega) rfl
  have hM: ∀g:List Tm×Int→Option S,lU hd k g i (av t.kind) x.kids d k [] 0=_:=hM
  simp only [fW,wT,e1,ae,e2,Option.bind_some,ag hk,Rl hk hi (show 0≤d∧d<4611686018427387000 by omega) hr0,DI,Hz,hM,e3,List.nil_append]
  have hin:=fun f':List Cl=>AM (β:=Option S) (γ:=Unit) (akP (j0 fun d f=>ac2 (i+d) f) (j0 fun d f=>ac2 (i+d) f) d t.kind x.kids) (fun e he=>Uh mo mo he) [] (fun l=>Option.bind (aw 1099511627776 o.length [Br.mk f' l].length) fun _=>fW hd k ret i t r1 r2 d m (av t.kind) (o++[Br.mk f' l]) (((p++[x]).length:Nat):Int)) fun e=>ret (ao,e)
  refine Eq.trans (wx (z:=(ac2 (i+d) x.face,(0:Int))) (fun f'=>ab (((f'.length:Nat):Int)==0) (fW hd k ret i t r1 r2 d m (av t.kind) o (((p++[x]).length:Nat):Int)) (eE (akP (j0 fun d f=>ac2 (i+d) f) (j0 fun d f=>ac2 (i+d) f) d t.kind x.kids) (fun l=>(fun r5:List Tm×Int=>ab (!(r5.2==0)) (ret (ao,r5.2)) (Option.bind (aw 1099511627776 o.length [Br.mk f' r5.1].length) fun _=>fW hd k ret i t r1 r2 d m (av t.kind) (o++[Br.mk f' r5.1]) (((p++[x]).length:Nat):Int))) (l,0)) fun e=>(fun r5:List Tm×Int=>ab (!(r5.2==0)) (ret (ao,r5.2)) (Option.bind (aw 1099511627776 o.length [Br.mk f' r5.1].length) fun _=>fW hd k ret i t r1 r2 d m (av t.kind) (o++[Br.mk f' r5.1]) (((p++[x]).length:Nat):Int))) ([],e))) fun e=>ret (ao,e)) ?_
  rw [show toE (ac2 (i+d) x.face,(0:Int))=(j0 fun d f=>ac2 (i+d) f) d x.face from rfl]
  rw [acM,B3,AS,AS]
  refine ad3 (fun f' hf'=> ?_) fun e _=>rfl
  rw [qY,aY]
  by_cases h0:f'.length=0
  ·rw [if_pos h0,if_pos h0,aP,AS,ih (p++[x]) m o e4 hm' (by grind)]
   rfl
  ·rw [if_neg h0,if_neg h0,hin f',AS]
   refine ad3 (fun l hl=> ?_) fun e _=>rfl
   rw [aP,AS,J5 (by grind),ih (p++[x]) m (o++[Br.mk f' l]) e4 hm' (by grind)]
   grind [aP]
end
theorem aar {i:Int} (hi:0≤i∧i<24) (t:Tm):OkT t→RowsT t→ ∀ {k:Nat} {d:Int} (ret:Tm×Int→Option S),Fd k (am t)→0≤d→d+am t<4611686018427386000→dT k t d i ret=ret (tE (ab7 (j0 fun d f=>ac2 (i+d) f) (j0 fun d f=>ac2 (i+d) f) d t)):=by
 induction t using c7 with
 |h t ih1 ih2=>
  intro ht hro k d ret hk hv hv'
  obtain ⟨q,rfl,hq,hf⟩:=hk.pos' (alF t)
  have hp:=alF t
  have hd0:0≤d∧d<4611686018427386000:=by omega
  obtain ⟨o1,o2,o3,o4,o5,o6,o7⟩:=ht.no
  have hmo:=dy t.kind
  have hQ: ∀y∈t.kids,∀b,0≤b∧b≤1→ ∀g:Tm×Int→Option S,dT q y (d+b) i g=g (tE (ab7 (j0 fun d f=>ac2 (i+d) f) (j0 fun d f=>ac2 (i+d) f) (d+b) y)):=fun y hy b h2 g=>
   ih1 y hy (ht.ki hy) (hro.ki hy) g (hf _ (bY hy)) (by omega) (by have:=bY hy;omega)
  have hQ': ∀b∈t.sys,∀y∈b.kids,∀g:Tm×Int→Option S,dT q y (d+av t.kind) i g=g (tE (ab7 (j0 fun d f=>ac2 (i+d) f) (j0 fun d f=>ac2 (i+d) f) (d+av t.kind) y)):=fun b hb y hy g=>
   ih2 b hb y hy ((ht.bi hb).2 y hy) ((hro.bi hb).2 y hy) g (hf _ (b8 hb hy)) (by omega) (by have:=b8 hb hy;omega)
  have hK: ∀g:List Tm×Int→Option S,lV (dT q) q g i t t.kids d q [] 0=_:=fun g=>aan hq g hd0 hQ o6 t.kids [] q [] rfl (by omega) rfl
  have hS:=fun (r1:List Cl×Int) (r2:List Tm×Int)=>aap (r1:=r1) (r2:=r2) hq ret hi hd0 ht hro hQ' t.sys [] q [] rfl (by omega) (Nat.le_refl _)
  have hS: ∀ (r1:List Cl×Int) (r2:List Tm×Int),fW (dT q) q ret i t r1 r2 d q (av t.kind) [] 0=_:=hS
  have hcase: ∀ (r1:List Cl×Int) (r2:List Tm×Int),ab (t.kind==15) (fW (dT q) q ret i t r1 r2 d q 1 [] 0) (fW (dT q) q ret i t r1 r2 d q 0 [] 0)=eE (acM (j0 fun d f=>ac2 (i+d) f) (j0 fun d f=>ac2 (i+d) f) d t.kind t.sys) (fun s=>ret (.mk t.kind t.n t.name r1.1 r2.1 s,0)) fun e=>ret (ao,e):=by
   grind [cH,av]
  obtain ⟨z,hz,hrow⟩:=aaq hq hi hd0 hro (fun r1=>ab (!(r1.2==0)) (ret (ao,r1.2)) (eE (aig (j0 fun d f=>ac2 (i+d) f) (j0 fun d f=>ac2 (i+d) f) d t.kind 0 t.kids) (fun l=>(fun r2:List Tm×Int=>ab (!(r2.2==0)) (ret (ao,r2.2)) (eE (acM (j0 fun d f=>ac2 (i+d) f) (j0 fun d f=>ac2 (i+d) f) d t.kind t.sys) (fun s=>ret (.mk t.kind t.n t.name r1.1 r2.1 s,0)) fun e=>ret (ao,e))) (l,0)) fun e=>(fun r2:List Tm×Int=>ab (!(r2.2==0)) (ret (ao,r2.2)) (eE (acM (j0 fun d f=>ac2 (i+d) f) (j0 fun d f=>ac2 (i+d) f) d t.kind t.sys) (fun s=>ret (.mk t.kind t.n t.name r1.1 r2.1 s,0)) fun e=>ret (ao,e))) ([],e)))
  simp only [dT,HG,ag hq,ar,DJ,HA,hK,hcase,List.nil_append,List.length_nil]
  refine Eq.trans hrow ?_
  rw [amt _ ret,B4,←hz]
  refine Eq.trans (wx (z:=z) (fun r'=>eE (aig (j0 fun d f=>ac2 (i+d) f) (j0 fun d f=>ac2 (i+d) f) d t.kind 0 t.kids) (fun l=>(fun r2:List Tm×Int=>ab (!(r2.2==0)) (ret (ao,r2.2)) (eE (acM (j0 fun d f=>ac2 (i+d) f) (j0 fun d f=>ac2 (i+d) f) d t.kind t.sys) (fun s=>ret (.mk t.kind t.n t.name r' r2.1 s,0)) fun e=>ret (ao,e))) (l,0)) fun e=>(fun r2:List Tm×Int=>ab (!(r2.2==0)) (ret (ao,r2.2)) (eE (acM (j0 fun d f=>ac2 (i+d) f) (j0 fun d f=>ac2 (i+d) f) d t.kind t.sys) (fun s=>ret (.mk t.kind t.n t.name r' r2.1 s,0)) fun e=>ret (ao,e))) ([],e)) fun e=>ret (ao,e)) ?_
  rw [AS]
  refine ad3 (fun r' _=> ?_) fun e _=>rfl
  refine Eq.trans (AM (β:=Option S) (γ:=Unit) (aig (j0 fun d f=>ac2 (i+d) f) (j0 fun d f=>ac2 (i+d) f) d t.kind 0 t.kids) (fun e he=>Ug mo mo he) [] (fun l=>eE (acM (j0 fun d f=>ac2 (i+d) f) (j0 fun d f=>ac2 (i+d) f) d t.kind t.sys) (fun s=>ret (.mk t.kind t.n t.name r' l s,0)) fun e=>ret (ao,e)) fun e=>ret (ao,e)) ?_
  simp only [AS,aP]
end Go.Proofs.YtfkkpkhfjpaafaaGreatDoor
namespace Go.Proofs.YtfkkpkhfjpaafaaGreatDoor
open Go PI
set_option linter.unusedVariables false
set_option linter.unusedSimpArgs false
set_option maxRecDepth 20000
variable {S:Type} {k:Nat}
def yw (i:Int):Int→List Cl→List Cl:=fun d f=>ac2 (i+d) f
def foX (i:Int) (r:List Cl) (fa:Bool):dC:=da (acJ i r fa) (yw i)
theorem uz (i:Int) (r:List Cl) (fa:Bool) (d:Int) (f:List Cl):foX i r fa d f=bE (acJ i r fa d f) fun m=> .ok (ac2 (i+d) m):=rfl
theorem pR {i:Int} {r:List Cl} {fa:Bool}: ∀d f e,foX i r fa d f= .error e→0<e∧e≤1000:=fun d f e h=>by
 rw [uz] at h
 rcases be h with h|⟨_,_,h⟩
 ·exact Bu h
 simp_all
section
variable {hd:Tm→Int→List Cl→Int→Bool→(Tm→Option S)→Option S} {i d:Int} {r:List Cl} {t:Tm}
end
def ame (i:Int) (r:List Cl) (t:Tm):Except Int Tm:=bE (toE (agS r i 1)) fun s=>ab7 (foX i s false) (foX i s true) 0 t
theorem ws {i:Int} {r:List Cl} {t:Tm} {e:Int} (h:ame i r t= .error e):0<e∧e≤1000:=by
 rcases be h with h|⟨s,_,h⟩
 ·grind [B0,q_,EN]
 ·exact jK pR pR t h
theorem Ra (hk:F3 k) {t:Tm} (ht:Fm t) {i:Int} (hi:0≤i∧i<24) {r:List Cl} (hr:RF r) (ret:Tm×Int→Option S):m_ k t i r ret=ret (tE (ame i r t)):=by
 have l2:=hr.len
 have hdp:=ht.dep
 simp only [m_,Sl,ag hk.fu,ar,DM,Sx,amv ht.ok (ht.fd hk) (show am t<1099511627776 by omega),ht.2,ai7 hk.fu,rH hk.fu hr.2 hr.lt,hr.right,decide_eq_true hi,vX hk.fu hr.2 (show r.length<1073741824 by omega) (show aG i by unfold aG;omega) (show aG 1 by unfold aG;omega),DF,Sp,DG,Ss,DH,Su,DE,So]
 rw [show ((0:Int)==0)=true from rfl,Bool.not_true,ad,ad,ad,ad]
 rw [amt _ ret]
 unfold ame
 rw [AS]
 by_cases h0:(agS r i 1).2=0
 ·have hs:=kQ h0
  rw [bG,decide_eq_true h0,Bool.not_true,ad,jF h0,aP,ahW hi hs t ht.ok ht.rows _ (ht.fd hk) (by omega) (by omega)]
  refine Eq.trans (anT (α:=Option S) (β:=Unit) _ (fun e he=>jK jD jD t he) (fun x=>dT k x 0 i fun r6=>ret (r6.1,r6.2)) fun e=>ret (ao,e)) ?_
  have htw:=alm (fo:=acJ i (agS r i 1).1 false) (fa:=acJ i (agS r i 1).1 true) (G:=yw i) (fun d f g hf h=>rB hf h) (fun d f hf=>JE hf) t 0 ht.rows
  show _=eE (ab7 (da (acJ i (agS r i 1).1 false) (yw i)) (da (acJ i (agS r i 1).1 true) (yw i)) 0 t) _ _
  rw [←htw,AS]
  refine ad3 (fun x hx=> ?_) fun e _=>rfl
  have hw:=Uj (fun d f g hf h=>rB hf h) (fun d f g hf h=>rB hf h) (fun d=>QI) t 0 x hx
  obtain ⟨w1,w2,w3,w4⟩:=hw
  obtain ⟨hox,hrx⟩:=w4 ht.ok ht.rows
  rw [aar hi x hox hrx _ (hk.fd (by omega)) (by omega) (by omega)]
  exact amt _ ret
 ·rw [bG,decide_eq_false h0,Bool.not_false,ae,iO h0];rfl
end Go.Proofs.YtfkkpkhfjpaafaaGreatDoor
namespace Go.Proofs.YtfkkpkhfjpaafaaGreatDoor
open Go PI
set_option linter.unusedVariables false
set_option linter.unusedSimpArgs false
set_option maxRecDepth 20000
variable {S:Type} {k:Nat}
def In (k:Nat) (t:Tm):Prop:=OkT t∧Fd k (am t)∧au t<1099511627776
theorem In.dep {t:Tm} (h:In k t):am t<1099511627776:=by have:=zG t;have:=h.2.2;omega
theorem Fm.isIn {t:Tm} (h:Fm t) (hk:F3 k):In k t:=⟨h.ok,h.fd hk,by have:=h.siz;omega⟩
def alE:List Tm→Int
 |[]=>0
 |t::l=>if bw t=0 then alE l else bw t
theorem wh {l:List Tm} (hl: ∀t∈l,OkT t) (h:alE l=0): ∀t∈l,Fm t:=by
 induction l with
 |nil=>simp
 |cons x l ih=>
  intro t ht
  unfold alE at h
  split at h
  ·next h0=>
   rcases List.mem_cons.1 ht with rfl|ht
   ·exact ⟨hl _ (by simp),h0⟩
   grind
  omega
theorem rI (c e:Int) (ret:Int→Option S):iZ k e c ret=ret (if c=0 then e else c):=by
 grind [iZ,Sa,aY]
theorem aem (hk:Fu k) (ret:Int→Option S) {l:List Tm} (hl: ∀t∈l,In k t) (hlen:l.length<1000):
  ∀ (r p:List Tm) (m:Nat) (b:Int),l=p++r→r.length<m→pY k ret l m b (p.length:Int)=ret (if b=0 then alE r else b):=by
 intro r
 induction r with
 |nil=>
  grind [i9,pY,wL,ad,alE]
 |cons x r ih=>
  intro p m b h hm
  obtain ⟨m,rfl,hm'⟩:=i9 hm
  obtain ⟨e1,e2,e3,e4⟩:=j3 h (by omega)
  have hx:=hl x (by grind)
  simp only [pY,wL,e1,ae,e2,Option.bind_some,ag hk,ar,amv hx.1 hx.2.1 hx.dep,rI,e3,ih (p++[x]) m _ e4 hm',alE]
  grind
theorem Re (hk:F3 k) {l:List Tm} (hl: ∀t∈l,In k t) (hlen:l.length<1000) (ret:Int→Option S):m9 k l ret=ret (alE l):=by
 simp only [m9,Hs]
 have:=aem hk.fu ret hl hlen l [] k 0 rfl (by omega)
 simp_all
def di (r:List Cl) (line:Tm):Except Int Tm:=bE (acr 0 2 0 1 line) (ame 0 r)
theorem li {r:List Cl} {t:Tm} {e:Int} (h:di r t= .error e):0<e∧e≤1000:=by
 rcases be h with h|⟨s,_,h⟩
 ·exact amo t h
 ·exact ws h
theorem acW {i:Int} {r:List Cl} {fa:Bool} {d:Int} {f g:List Cl} (hf:RF f) (h:foX i r fa d f= .ok g):RF g:=by
 rw [uz] at h
 obtain ⟨m,h1,h⟩:=i8 h
 injection h with h;subst h
 exact aad (rB hf h1).len
theorem acV {i:Int} {r:List Cl} {fa:Bool} (d:Int):foX i r fa d []= .ok []:=by
 rw [uz,QI,aD];rfl
theorem T0 {i:Int} {r:List Cl} {t y:Tm} (h:ame i r t= .ok y):Wk t y:=by
 obtain ⟨s,_,h⟩:=i8 h
 grind [Uj,acW,acV]
theorem Jo {r:List Cl} {t y:Tm} (ht:Fm t) (h:di r t= .ok y):OkT y∧RowsT y∧am y≤200∧au y≤20000:=by
 obtain ⟨s,h1,h⟩:=i8 h
 have hs:=jr (by omega) ht h1
 obtain ⟨w1,w2,w3,w4⟩:=T0 h
 have h4:=w4 hs.ok hs.rows
 have:=hs.dep;have:=hs.siz
 grind
section
variable {c:Int}
theorem ai2 (hc:c≠0) (hk:F3 k) (l:Tm) (r:List Cl) (ret:Tm×Int→Option S):lr k l r c ret=ret (ao,c):=by
 simp only [lr,Ht,ag hk.fu,de,gn,bG,decide_eq_false hc,Bool.not_false,ae];rfl
theorem Hh (hc:c≠0) (hk:F3 k) (l:Tm) (a b:Int) (ret:Tm×Int→Option S):hU k l a b c ret=ret (ao,c):=by
 simp only [hU,Hv,ag hk.fu,de,gn,bG,decide_eq_false hc,Bool.not_false,ae];rfl
theorem rG (hc:c≠0) (hk:F3 k) (l:Tm) (ret:Tm×Int×Int→Option S):eQ k l c ret=ret (ao,c,c):=by
 simp only [eQ,Hu,ag hk.fu,de,gn,bG,decide_eq_false hc,Bool.not_false,ae,ad];rfl
end
theorem ajX (hk:F3 k) {f:List Cl} (hf:aq f) (hl:f.length<1073741824) (ret:List Cl×Int→Option S):tA k f 0 ret=ret (agS f 0 1):=by
 simp only [tA,Sc,ag hk.fu,de,gn,vX hk.fu hf hl (show aG 0 by unfold aG;omega) (show aG 1 by unfold aG;omega),rI,if_true]
 rfl
theorem RW (hk:F3 k) {t:Tm} (ht:Fm t) {a b:Int} (ha:0≤a∧a≤1000000) (hb:0≤b∧b<9223372036854775808) (ret:Tm×Int→Option S):hU k t a b 0 ret=ret (tE (J6 a b t)):=by
 simp only [hU,Hv,ag hk.fu,de,gn,ar,He hk ht ha hb,rI,if_true]
 rfl
theorem Rd (hk:F3 k) {t:Tm} (ht:Fm t) {r:List Cl} (hr:RF r) (ret:Tm×Int→Option S):lr k t r 0 ret=ret (tE (di r t)):=by
 simp only [lr,Ht,ag hk.fu,de,gn,ar,Rr hk ht (show (0:Int)≤1∧(1:Int)≤24 by omega) (show (0:Int)≤2∧(2:Int)<9223372036854775808 by omega),rI,if_true]
 rw [show ((0:Int)==0)=true from rfl,Bool.not_true,ad,amt _ ret]
 unfold di
 rw [AS]
 cases hx:acr 0 2 0 1 t with
 |error e=>
  have:=amo t hx
  show ab (!(e==0)) (ret (ao,e)) _=_
  rw [bG,decide_eq_false (by omega),Bool.not_false,ae];rfl
 |ok y=>
  have hy:=jr (by omega) ht hx
  show ab (!((0:Int)==0)) _ (m_ k y 0 r fun r5=>ret (r5.1,if (0:Int)=0 then r5.2 else 0))=_
  simp_all [ad,Ra,aP,amt]
theorem ai9 (hk:F3 k) {t:Tm} (ht:In k t) (ret:Tm×Int×Int→Option S):eQ k t 0 ret=ret (if bw t=0 then (t,0,0) else (ao,bw t,bw t)):=by
 simp only [eQ,Hu,ag hk.fu,de,gn,ar,amv ht.1 ht.2.1 ht.dep,rI,if_true]
 rw [show ((0:Int)==0)=true from rfl,ae,bG]
 by_cases h0:bw t=0
 ·grind [ad]
 ·rw [decide_eq_false h0,if_neg h0,Bool.not_false,ae];rfl
def al_ (x:Except Int Tm):Except Int Tm:=bE x fun t=>if bw t=0 then .ok t else .error (bw t)
theorem T2 {z:List Cl×Int} (hz:EN z.2) {e:Int} (h:toE z= .error e):0<e∧e≤1000:=by
 grind [B0,EN]
end Go.Proofs.YtfkkpkhfjpaafaaGreatDoor
namespace Go.Proofs.YtfkkpkhfjpaafaaGreatDoor
open Go PI
set_option maxRecDepth 100000
theorem alo {S:Type} (q:Nat) (ret:Bool→Option S):tM (q+400) ret=ret true:=by kernel_rfl
theorem aj2 {S:Type} {k:Nat} (hk:F3 k) (ret:Bool→Option S):tM k ret=ret true:=by
 have hk:4294968296≤k:=hk
 obtain ⟨q,rfl⟩: ∃q,k=q+400:=⟨k-400,by omega⟩
 exact alo q ret
end Go.Proofs.YtfkkpkhfjpaafaaGreatDoor
namespace Go.Proofs.YtfkkpkhfjpaafaaGreatDoor
open Go PI
set_option linter.unusedVariables false
set_option linter.unusedSimpArgs false
set_option maxRecDepth 20000
variable {S:Type} {k:Nat}
theorem Rh {l:List Cl} (hl:l.length<1073741824) (ret:List Cl→Option S):rj l ret=ret l:=by
 grind [rj,J5]
section
variable {hd:Tm→(Tm→Option S)→Option S}
theorem aev (hk:Fu k) (ret:List Tm→Option S) {l:List Tm} (hQ: ∀y∈l,∀g,hd y g=g y) (hl:l.length<1073741824):
  ∀ (r p:List Tm) (m:Nat),l=p++r→r.length<m→qR hd k ret l m p (p.length:Int)=ret l:=by
 intro r
 induction r with
 |nil=>
  grind [i9,qR,yf,ad]
 |cons y r ih=>
  intro p m h hm
  obtain ⟨m,rfl,hm'⟩:=i9 hm
  obtain ⟨e1,e2,e3,e4⟩:=j3 h (by omega)
  grind [qR,yf,ae,ar,J5]
theorem Ri (hk:Fu k) {l:List Tm} (hQ: ∀y∈l,∀g,hd y g=g y) (hl:l.length<1073741824) (ret:List Tm→Option S):ui hd k l ret=ret l:=by
 simp only [ui,IS]
 exact aev hk ret hQ hl l [] k rfl (by omega)
theorem aew (hk:Fu k) (ret:Tm→Option S) {t:Tm} (ht:OkT t) (hQ: ∀b∈t.sys,∀y∈b.kids,∀g,hd y g=g y) (r1:List Cl) (r2:List Tm):
  ∀ (r p:List (Br Tm)) (m:Nat),t.sys=p++r→r.length<m→qQ hd k ret t r1 r2 m p (p.length:Int)=ret (.mk t.kind t.n t.name r1 r2 t.sys):=by
 obtain ⟨o1,o2,o3,o4,o5,o6,o7⟩:=ht.no
 intro r
 induction r with
 |nil=>
  grind [i9,qQ,ye,ad]
 |cons y r ih=>
  intro p m h hm
  obtain ⟨m,rfl,hm'⟩:=i9 hm
  obtain ⟨e1,e2,e3,e4⟩:=j3 h (by omega)
  have hy:y∈t.sys:=by grind
  have hb:=(ht.bi hy).1
  have hlen:p.length+r.length+1=t.sys.length:=by grind
  simp only [qQ,ye,e1,ae,e2,Option.bind_some,ar,e3,Rh hb.2.1,ag hk,Ri hk (hQ y hy) hb.2.2]
  rw [J5 (by grind)]
  have:=ih (p++[y]) m e4 hm'
  omega
end
theorem vU (t:Tm):OkT t→ ∀ {k:Nat} (ret:Tm→Option S),Fd k (am t)→dJ k t ret=ret t:=by
 induction t using c7 with
 |h t ih1 ih2=>
  intro ht k ret hk
  obtain ⟨q,rfl,hq,hf⟩:=hk.pos' (alF t)
  obtain ⟨o1,o2,o3,o4,o5,o6,o7⟩:=ht.no
  simp only [dJ,IP,Rh o5,ag hq,Ri hq (fun y hy g=>ih1 y hy (ht.ki hy) g (hf _ (bY hy))) o6]
  have:=aew hq ret ht (fun b hb y hy g=>ih2 b hb y hy ((ht.bi hb).2 y hy) g (hf _ (b8 hb hy))) t.r t.kids t.sys [] q rfl (by omega)
  refine Eq.trans this ?_
  cases t;rfl
theorem ahz {v d d':Int} (h:24≤d) (h':24≤d') (t:Tm):cL v d t=cL v d' t:=by
 have hb: ∀kd,bX kd d=bX kd d':=fun kd=>by grind [bX,Av]
 simp_all [cL,Av]
theorem m0 (t:Tm): ∀ {v d d':Int},24≤d→24≤d'→a6 false v d t=a6 false v d' t:=by
 induction t using c7 with
 |h t ih1 ih2=>
  intro v d d' h h'
  rw [wI,wI,ahz h h']
  have hK: ∀ (l:List Tm) (i:Nat),(∀x∈l,x∈t.kids)→bO false v d t.kind i l=bO false v d' t.kind i l:=by
   intro l
   induction l<;>grind [bO,bJ]
  grind [wH,av]
end Go.Proofs.YtfkkpkhfjpaafaaGreatDoor
namespace Go.Proofs.YtfkkpkhfjpaafaaGreatDoor
open Go PI
set_option linter.unusedVariables false
set_option linter.unusedSimpArgs false
set_option maxRecDepth 20000
variable {S:Type} {k:Nat}
theorem QD:RF [⟨3,0⟩]:=gS ⟨⟨by decide,by decide⟩,by decide,by decide⟩
theorem ag0:aX ⟨0,1⟩:=⟨⟨by decide,by decide⟩,by decide,by decide⟩
theorem ag1:aX ⟨1,0⟩:=⟨⟨by decide,by decide⟩,by decide,by decide⟩
theorem agT:OkT ao:=by
 unfold ao
 rw [OkT,aZ,ba]
 exact ⟨⟨by unfold aG;omega,by unfold aG;omega,by simp,fun c hc=>(by cases hc),by simp,by simp,by simp⟩,trivial,trivial⟩
theorem gQ (hk:F3 k):In k ao:=⟨agT,hk.fd (by grind [ao,am,aH,aO]),by grind [ao,au,ay,aI]⟩
end Go.Proofs.YtfkkpkhfjpaafaaGreatDoor
namespace Go.Proofs.YtfkkpkhfjpaafaaGreatDoor
open Go PI
set_option linter.unusedVariables false
set_option linter.unusedSimpArgs false
set_option maxRecDepth 20000
variable {S:Type} {k:Nat}
theorem Hl (t:Tm):au t=1+ay t.kids+aI t.sys:=by cases t;rfl
section
variable {hd:Tm→Int→(Int→Option S)→Option S} {t:Tm}
end
end Go.Proofs.YtfkkpkhfjpaafaaGreatDoor
namespace Go.Proofs.YtfkkpkhfjpaafaaGreatDoor
open Go PI
set_option linter.unusedVariables false
set_option linter.unusedSimpArgs false
set_option maxRecDepth 20000
variable {S:Type} {k:Nat}
def tmK (kd:Int) (l:List Tm):Tm:= .mk kd 0 ByteArray.empty [] l []
def mE (c a b:Int) (t:Tm):Tm×Int:=if c=0 then tE (J6 a b t) else (ao,c)
def tmE (p:Tm×Int):Except Int Tm:=if p.2=0 then .ok p.1 else .error p.2
theorem wz {c a b:Int} {t:Tm} (h:c≠0):mE c a b t=(ao,c):=if_neg h
theorem ak3 {c a b:Int} {t:Tm} (h:(mE c a b t).2=0):c=0:=by
 grind [wz]
theorem T9 (a b:Int) (t:Tm):mE 0 a b t=tE (J6 a b t):=rfl
theorem RV (hk:F3 k) {c:Int} {t:Tm} (h:c=0→Fm t) {a b:Int} (ha:0≤a∧a≤1000000) (hb:0≤b∧b<9223372036854775808) (ret:Tm×Int→Option S):hU k t a b c ret=ret (mE c a b t):=by
 by_cases hc:c=0
 ·subst hc;exact RW hk (h rfl) ha hb ret
 grind [Hh,wz]
theorem Rk (hk:F3 k) {t:Tm} {c:Int} (h:c=0→In k t) (ret:Tm×Int→Option S):(eQ k t c fun r=>ret (r.1,r.2.1))=ret (tE (al_ (tmE (t,c)))):=by
 by_cases hc:c=0
 ·subst hc
  rw [ai9 hk (h rfl)]
  show _=ret (tE (al_ (.ok t)))
  unfold al_
  rw [aD]
  by_cases h0:bw t=0
  ·rw [if_pos h0,if_pos h0];rfl
  ·rw [if_neg h0,if_neg h0];rfl
 ·rw [rG hc hk]
  show _=ret (tE (al_ (if c=0 then _ else _)))
  rw [if_neg hc];rfl
theorem ag2 {kd:Int} (hkd:0≤kd∧kd≤28) {l:List Tm} (hl:l.length<10) (h: ∀x∈l,OkT x):OkT (tmK kd l):=by
 unfold tmK
 rw [OkT,okK_iff,ba]
 exact ⟨⟨by unfold aG;omega,by unfold aG;omega,by simp,fun c hc=>(by cases hc),by simp,by omega,by simp⟩,h,trivial⟩
def Fd2 (n m:Nat) (t:Tm):Prop:=OkT t∧a6 false (-1) 24 t=true∧am t≤n∧au t≤m
theorem Fd2.fm {n m:Nat} {t:Tm} (h:Fd2 n m t) (hn:n≤200) (hm:m≤20000):Fm t:=⟨h.1,pS (by have:=h.2.2.1;omega) (by have:=h.2.2.2;omega) h.2.1⟩
theorem Fd2.isIn {n m:Nat} {t:Tm} (h:Fd2 n m t) (hk:F3 k) (hn:n≤1000) (hm:m≤1000000):In k t:=⟨h.1,hk.fd (by have:=h.2.2.1;omega),by have:=h.2.2.2;omega⟩
theorem Fm.f2 {t:Tm} (h:Fm t):Fd2 200 20000 t:=⟨h.1,(eU h.2).2.2,(eU h.2).1,(eU h.2).2.1⟩
theorem Fd2.mono {n m n' m':Nat} {t:Tm} (h:Fd2 n m t) (hn:n≤n') (hm:m≤m'):Fd2 n' m' t:=⟨h.1,h.2.1,by have:=h.2.2.1;omega,by have:=h.2.2.2;omega⟩
theorem Fd2.up {n m:Nat} {t t':Tm} (h:Fd2 n m t) {a b:Int} (ha:0≤a∧a≤1000000000) (hl:J6 a b t= .ok t'):Fd2 n m t':=by
 obtain ⟨u,h1,h2⟩:=i8 hl
 obtain ⟨p1,p2,p3,p4⟩:=uP ha.1 ha.2 t 0 0 u h1
 obtain ⟨q1,q2,q3,q4⟩:=uP (by omega) (by omega) u 0 0 t' h2
 have w:=p4 h.1
 have w2:=q4 w.1
 have ho:=w.2.2 24 24 (by omega) (by omega) h.2.1
 exact ⟨w2.1,w2.2.2 24 24 (by omega) (by omega) ho,by have:=h.2.2.1;omega,by have:=h.2.2.2;omega⟩
end Go.Proofs.YtfkkpkhfjpaafaaGreatDoor
namespace Go.Proofs.YtfkkpkhfjpaafaaGreatDoor
open Go PI
set_option linter.unusedVariables false
set_option linter.unusedSimpArgs false
set_option maxRecDepth 20000
variable {S:Type} {k:Nat}
mutual
def ac4 (n:Int):Tm→Nat
 | .mk kd m _ _ ks sys=>(if kd=1∧m=n then 1 else 0)+(cE n kd 0 ks+cv n sys)
def cE (n kd:Int) (i:Nat):List Tm→Nat
 |[]=>0
 |t::l=>ac4 (n+bz kd i) t+cE n kd (i+1) l
def cv (n:Int):List (Br Tm)→Nat
 |[]=>0
 |b::l=>Dv n b+cv n l
def Dv (n:Int):Br Tm→Nat
 | .mk _ ks=>dc n ks
def dc (n:Int):List Tm→Nat
 |[]=>0
 |t::l=>ac4 n t+dc n l
end
mutual
def akT (n:Int) (u:Tm) (v d:Int):Tm→Except Int Tm
 | .mk kd m nm r ks sys=>if kd=1∧m=n+v then J6 v d u else bE (dX n u v d kd 0 ks) fun ks'=>bE (dn n u v d kd sys) fun sys'=> .ok (.mk kd (if kd=1∧m>n+v then m-1 else m) nm r ks' sys')
def dX (n:Int) (u:Tm) (v d kd:Int) (i:Nat):List Tm→Except Int (List Tm)
 |[]=> .ok []
 |t::l=>bE (akT n u (v+bz kd i) (d+bJ kd i) t) fun t'=>bE (dX n u v d kd (i+1) l) fun l'=> .ok (t'::l')
def dn (n:Int) (u:Tm) (v d kd:Int):List (Br Tm)→Except Int (List (Br Tm))
 |[]=> .ok []
 |b::l=>bE (AJ n u v d kd b) fun b'=>bE (dn n u v d kd l) fun l'=> .ok (b'::l')
def AJ (n:Int) (u:Tm) (v d kd:Int):Br Tm→Except Int (Br Tm)
 | .mk f ks=>bE (amj n u v d kd ks) fun ks'=> .ok (.mk f ks')
def amj (n:Int) (u:Tm) (v d kd:Int):List Tm→Except Int (List Tm)
 |[]=> .ok []
 |t::l=>bE (akT n u v (d+av kd) t) fun t'=>bE (amj n u v d kd l) fun l'=> .ok (t'::l')
end
def ams (n:Int) (t u:Tm):Except Int Tm:=if au t+ac4 n t*(au u-1)>20000 then .error 221 else bE (akT n u 0 0 t) fun o=>if am o>200 then .error 62 else .ok o
def Pg (n:Int) (u x x':Tm):Prop:=OkT x'∧a6 false (-1) 24 x'=true∧au x'=au x+ac4 n x*(au u-1)∧am x'≤am x+am u
abbrev wF (n:Int) (u x:Tm):Prop:= ∀ {v d:Int} {o:Tm},0≤v→0≤d→v+am x≤1000→OkT x→a6 false (-1) 24 x=true→akT n u v d x= .ok o→Pg (n+v) u x o
section
variable {n v d kd:Int} {u:Tm}
theorem ahA: ∀ {l l':List Tm} {i:Nat},(∀x∈l,wF n u x)→0≤v→0≤d→v+aH l+1≤1000→aZ l→bO false (-1) 24 kd i l=true→dX n u v d kd i l= .ok l'→
  aZ l'∧bO false (-1) 24 kd i l'=true∧ay l'=ay l+cE (n+v) kd i l*(au u-1)∧aH l'≤aH l+am u∧l'.length=l.length:=by
 intro l
 induction l with
 |nil=>intro l' i _ _ _ _ _ _ h;rw [dX] at h;injection h with h;subst h;rw [aZ,bO,cE,ay,aH];simp
 |cons t l ih=>
  intro l' i h hv hd hb ho ha hl
  rw [dX] at hl
  obtain ⟨t',e1,hl⟩:=i8 hl
  obtain ⟨m,e2,hl⟩:=i8 hl
  injection hl with hl;subst hl
  rw [aZ] at ho
  rw [bO,Bool.and_eq_true] at ha
  rw [aH] at hb
  have b1:=g7 kd i;have b2:=gr kd i
  have ha1:a6 false (-1) 24 t=true:=by
   have:=ha.1
   rw [B2,m0 t (by omega) (Int.le_refl 24)] at this;exact this
  obtain ⟨p1,p2,p3,p4⟩:=h t (by simp) (v:=v+bz kd i) (d:=d+bJ kd i) (by omega) (by omega) (by omega) ho.1 ha1 e1
  obtain ⟨q1,q2,q3,q4,q5⟩:=ih (fun x hx=>h x (by simp [hx])) hv hd (by omega) ho.2 ha.2 e2
  rw [aZ,bO,cE,ay,ay,aH,aH,List.length_cons,List.length_cons]
  refine ⟨⟨p1,q1⟩, ?_, ?_,by omega,by omega⟩
  ·rw [Bool.and_eq_true,B2,m0 t' (show (24:Int)≤24+bJ kd i by omega) (Int.le_refl 24)];exact ⟨p2,q2⟩
  ·rw [p3,q3,Nat.add_mul,Int.add_assoc];omega
theorem ahB: ∀ {l l':List Tm},(∀x∈l,wF n u x)→0≤v→0≤d→v+aH l+1≤1000→aZ l→ca false (-1) 24 kd l=true→amj n u v d kd l= .ok l'→
  aZ l'∧ca false (-1) 24 kd l'=true∧ay l'=ay l+dc (n+v) l*(au u-1)∧aH l'≤aH l+am u∧l'.length=l.length:=by
 intro l
 induction l with
 |nil=>intro l' _ _ _ _ _ _ h;rw [amj] at h;injection h with h;subst h;rw [aZ,ca,dc,ay,aH];simp
 |cons t l ih=>
  intro l' h hv hd hb ho ha hl
  rw [amj] at hl
  obtain ⟨t',e1,hl⟩:=i8 hl
  obtain ⟨m,e2,hl⟩:=i8 hl
  injection hl with hl;subst hl
  rw [aZ] at ho
  rw [ca,Bool.and_eq_true] at ha
  rw [aH] at hb
  have b2:=dy kd
  have ha1:a6 false (-1) 24 t=true:=by
   have:=ha.1
   rw [m0 t (by omega) (Int.le_refl 24)] at this;exact this
  obtain ⟨p1,p2,p3,p4⟩:=h t (by simp) (v:=v) (d:=d+av kd) (by omega) (by omega) (by omega) ho.1 ha1 e1
  obtain ⟨q1,q2,q3,q4,q5⟩:=ih (fun x hx=>h x (by simp [hx])) hv hd (by omega) ho.2 ha.2 e2
  rw [aZ,ca,dc,ay,ay,aH,aH,List.length_cons,List.length_cons]
  refine ⟨⟨p1,q1⟩, ?_, ?_,by omega,by omega⟩
  ·rw [Bool.and_eq_true,m0 t' (show (24:Int)≤24+av kd by omega) (Int.le_refl 24)];exact ⟨p2,q2⟩
  ·rw [p3,q3,Nat.add_mul];omega
theorem ahC: ∀ {l l':List (Br Tm)},(∀b∈l,∀x∈b.kids,wF n u x)→0≤v→0≤d→v+aO l+1≤1000→ba l→ck false (-1) 24 kd l=true→dn n u v d kd l= .ok l'→
  ba l'∧ck false (-1) 24 kd l'=true∧aI l'=aI l+cv (n+v) l*(au u-1)∧aO l'≤aO l+am u∧l'.length=l.length∧l'.all (bX kd 24)=l.all (bX kd 24):=by
 intro l
 induction l with
 |nil=>intro l' _ _ _ _ _ _ h;rw [dn] at h;injection h with h;subst h;rw [ba,ck,cv,aI,aO];simp
 |cons b l ih=>
  intro l' h hv hd hb ho ha hl
  rw [dn] at hl
  obtain ⟨b',e1,hl⟩:=i8 hl
  obtain ⟨m,e2,hl⟩:=i8 hl
  injection hl with hl;subst hl
  obtain ⟨f,ks⟩:=b
  rw [AJ] at e1
  obtain ⟨ks',e3,e1⟩:=i8 e1
  injection e1 with e1;subst e1
  rw [ba,fc] at ho
  rw [ck,jT,Bool.and_eq_true] at ha
  rw [aO,eB] at hb
  obtain ⟨q1,q2,q3,q4,q5,q6⟩:=ih (fun b hb=>h b (by simp [hb])) hv hd (by omega) ho.2 ha.2 e2
  obtain ⟨p1,p2,p3,p4,p5⟩:=ahB (n:=n) (u:=u) (kd:=kd) (l:=ks) (h ⟨f,ks⟩ (by simp)) hv hd (by omega) ho.1.2 ha.1 e3
  rw [ba,fc,ck,jT,cv,Dv,aI,aI,fG,fG,aO,aO,eB,eB,List.length_cons,List.length_cons,List.all_cons,List.all_cons,q6]
  refine ⟨⟨⟨⟨ho.1.1.1,ho.1.1.2.1,by rw [p5];exact ho.1.1.2.2⟩,p1⟩,q1⟩,by rw [Bool.and_eq_true];exact ⟨p2,q2⟩, ?_,by omega,by omega, ?_⟩
  ·rw [p3,q3,Nat.add_mul];omega
  ·have:bX kd 24 ⟨f,ks'⟩=bX kd 24 ⟨f,ks⟩:=by unfold bX;simp only [p5]
   rw [this]
theorem F8 (hu:Fm u) (hn:0≤n) (t:Tm):wF n u t:=by
 induction t using gq with
 |h kd m nm r ks sys ih1 ih2=>
  intro v d o hv hd hb hok ha h
  rw [akT] at h
  have hok':=hok
  rw [OkT] at hok
  rw [am] at hb
  have ha':=ha
  rw [a6] at ha
  simp only [Bool.false_and,Bool.not_false,Bool.true_and,Bool.and_eq_true] at ha
  obtain ⟨q2,q3,q4⟩:=ha
  split at h
  ·rename_i hc
   have fo:=mD (by omega) hu h
   have u1:=(Fm.f2 hu).up (by omega) h
   have hk1:ks=[]∧sys=[]:=by
    unfold cL at q2
    simp only [Bool.and_eq_true,decide_eq_true_eq] at q2
    obtain ⟨⟨a1,_,_,a4⟩,_⟩:=q2
    rw [hc.1] at a1 a4
    have:ct 1=0:=rfl
    exact ⟨List.length_eq_zero_iff.1 (by omega),List.length_eq_zero_iff.1 (a4 rfl)⟩
   obtain ⟨m1,h1,h2⟩:=i8 h
   have w1:=uP (by omega) (by omega) u 0 0 m1 h1
   have w2:=uP (by omega) (by omega) m1 0 0 o h2
   have e1:au o=au u:=by rw [w2.2.1,w1.2.1]
   have e2:am o=am u:=by rw [w2.1,w1.1]
   refine ⟨fo.ok,(eU fo.2).2.2, ?_,by omega⟩
   rw [e1,hk1.1,hk1.2,ac4,if_pos hc,cE,cv,au,ay,aI]
   have:=mB u
   omega
  ·rename_i hc
   obtain ⟨ks',e2,h⟩:=i8 h
   obtain ⟨sys',e3,h⟩:=i8 h
   injection h with h;subst h
   obtain ⟨k1,k2,k3,k4,k5⟩:=ahA ih1 hv hd (by omega) hok.2.1 q3 e2
   obtain ⟨s1,s2,s3,s4,s5,s6⟩:=ahC ih2 hv hd (by omega) hok.2.2 q4 e3
   obtain ⟨o1,o2,o3,o4,o5,o6,o7⟩:=hok.1
   have hm:0≤m→0≤(if kd=1∧m>n+v then m-1 else m):=by intro h;split<;>omega
   refine ⟨?_, ?_, ?_, ?_⟩
   ·rw [OkT]
    exact ⟨⟨o1,by unfold aG at*;split<;>omega,o3,o4,o5,by omega,by omega⟩,k1,s1⟩
   ·rw [a6,k2,s2]
    simp only [Bool.false_and,Bool.not_false,Bool.true_and,Bool.and_true]
    unfold cL at q2 ⊢
    simp only [Bool.and_eq_true,decide_eq_true_eq] at q2 ⊢
    rw [k5,s5,s6]
    obtain ⟨⟨a1,a2,a3,a4⟩,a5⟩:=q2
    refine ⟨⟨a1, ?_,a3,a4⟩, ?_⟩
    ·by_cases c:kd=1
     ·exact .inl c
     ·exact .inr (by rw [if_neg (fun h=>c h.1)];exact a2.resolve_left c)
    ·by_cases c1:kd=1
     ·rw [if_pos c1] at a5 ⊢
      simp only [Bool.and_eq_true,decide_eq_true_eq] at a5 ⊢
      exact ⟨a5.1,hm a5.2.1,.inl (by decide)⟩
     ·rw [if_neg c1] at a5 ⊢;exact a5
   ·rw [ac4,if_neg hc,au,au,k3,s3,Nat.zero_add,Nat.add_mul];omega
   ·rw [am,am];omega
end
theorem F5 {n:Int} (hn:0≤n) {t u o:Tm} (ht:Fm t) (hu:Fm u) (h:ams n t u= .ok o):Fm o:=by
 unfold ams at h
 split at h
 ·cases h
 rename_i h0
 obtain ⟨o',h1,h⟩:=i8 h
 split at h
 ·cases h
 rename_i h2
 injection h with h;subst h
 obtain ⟨d1,d2,d3⟩:=eU ht.2
 obtain ⟨p1,p2,p3,p4⟩:=F8 hu hn t (Int.le_refl 0) (Int.le_refl 0) (by omega) ht.ok d3 h1
 rw [Int.add_zero] at p3
 exact ⟨p1,pS (by omega) (by omega) p2⟩
theorem F7 {n:Int} {u:Tm} (t:Tm): ∀ {v d e:Int},akT n u v d t= .error e→0<e∧e≤1000:=by
 induction t using gq with
 |h kd m nm r ks sys ih1 ih2=>
  intro v d e h
  have hk: ∀ {l:List Tm} {i:Nat},(∀x∈l,∀ {v d e:Int},akT n u v d x= .error e→0<e∧e≤1000)→dX n u v d kd i l= .error e→0<e∧e≤1000:=by
   intro l
   induction l with
   |nil=>intro i _ h;rw [dX] at h;cases h
   |cons t l ih=>
    intro i h hl
    rw [dX] at hl
    rcases be hl with hl|⟨_,_,hl⟩
    ·exact h t (by simp) hl
    rcases be hl with hl|⟨_,_,hl⟩
    ·exact ih (fun x hx=>h x (by simp [hx])) hl
    ·cases hl
  have hm: ∀ {l:List Tm},(∀x∈l,∀ {v d e:Int},akT n u v d x= .error e→0<e∧e≤1000)→amj n u v d kd l= .error e→0<e∧e≤1000:=by
   intro l
   induction l with
   |nil=>intro _ h;rw [amj] at h;cases h
   |cons t l ih=>
    intro h hl
    rw [amj] at hl
    rcases be hl with hl|⟨_,_,hl⟩
    ·exact h t (by simp) hl
    rcases be hl with hl|⟨_,_,hl⟩
    ·exact ih (fun x hx=>h x (by simp [hx])) hl
    ·cases hl
  have hs: ∀ {l:List (Br Tm)},(∀b∈l,∀x∈b.kids,∀ {v d e:Int},akT n u v d x= .error e→0<e∧e≤1000)→dn n u v d kd l= .error e→0<e∧e≤1000:=by
   intro l
   induction l with
   |nil=>intro _ h;rw [dn] at h;cases h
   |cons b l ih=>
    intro h hl
    rw [dn] at hl
    obtain ⟨f,ks'⟩:=b
    rcases be hl with hl|⟨_,_,hl⟩
    ·rw [AJ] at hl
     rcases be hl with hl|⟨_,_,hl⟩
     ·exact hm (h ⟨f,ks'⟩ (by simp)) hl
     ·cases hl
    ·rcases be hl with hl|⟨_,_,hl⟩
     ·exact ih (fun b hb=>h b (by simp [hb])) hl
     ·cases hl
  rw [akT] at h
  split at h
  ·exact al3 h
  ·rcases be h with h|⟨_,_,h⟩
   ·exact hk ih1 h
   ·rcases be h with h|⟨_,_,h⟩
    ·exact hs ih2 h
    ·cases h
theorem AL {n:Int} {t u:Tm} {e:Int} (h:ams n t u= .error e):0<e∧e≤1000:=by
 unfold ams at h
 split at h
 ·injection h with h;omega
 ·rcases be h with h|⟨_,_,h⟩
  ·exact F7 t h
  ·split at h
   ·injection h with h;omega
   ·cases h
end Go.Proofs.YtfkkpkhfjpaafaaGreatDoor
namespace Go.Proofs.YtfkkpkhfjpaafaaGreatDoor
open Go PI
set_option linter.unusedVariables false
set_option linter.unusedSimpArgs false
set_option maxRecDepth 20000
variable {S:Type} {k:Nat}
def fmE {α:Type} (t:Tm) (x:Except Int α):Except Int α:=if bw t=0 then x else .error (bw t)
theorem z7 {α:Type} {t:Tm} {x:Except Int α} {e:Int} (hx: ∀e,x= .error e→0<e∧e≤1000) (h:fmE t x= .error e):0<e∧e≤1000:=by
 unfold fmE at h
 split at h
 ·exact hx e h
 ·rename_i h0
  injection h with h
  have:=Et t;omega
def wA (a b:Int) (t:Tm):Except Int Tm:=fmE t (J6 a b t)
def pH (f b:Int) (t:Tm):Except Int Tm:=fmE t (acr 0 b 0 f t)
def an8 (i:Int) (r:List Cl) (t:Tm):Except Int Tm:=fmE t (ame i r t)
theorem dj {e:Int} (h:e≠0):(e==0)=false:=by simpa using h
theorem aiH (hk:F3 k) {t:Tm} (ht:In k t) {vb db:Int} (hvb:0≤vb∧vb≤1000000) (hdb:0≤db∧db<9223372036854775808) (ret:Tm×Int→Option S):lu k t vb db ret=ret (tE (wA vb db t)):=by
 unfold wA fmE
 by_cases h:bw t=0
 ·rw [if_pos h];exact He hk ⟨ht.1,h⟩ hvb hdb ret
 ·rw [if_neg h]
  simp only [lu,HV,ag hk.fu,ar,y7,BS,amv ht.1 ht.2.1 ht.dep,dj h,Bool.not_false,ae];rfl
theorem aiM (hk:F3 k) {t:Tm} (ht:In k t) {f b:Int} (hf:0≤f∧f≤24) (hb:0≤b∧b<9223372036854775808) (ret:Tm×Int→Option S):lv k t f b ret=ret (tE (pH f b t)):=by
 unfold pH fmE
 by_cases h:bw t=0
 ·rw [if_pos h];exact Rr hk ⟨ht.1,h⟩ hf hb ret
 ·rw [if_neg h]
  simp only [lv,HW,ag hk.fu,ar,yZ,BQ,amv ht.1 ht.2.1 ht.dep,dj h,Bool.not_false,ae];rfl
theorem ap8 (hk:F3 k) {t:Tm} (ht:In k t) {i:Int} (hi:0≤i∧i<24) {r:List Cl} (hr:RF r) (ret:Tm×Int→Option S):m_ k t i r ret=ret (tE (an8 i r t)):=by
 unfold an8 fmE
 by_cases h:bw t=0
 ·rw [if_pos h];exact Ra hk ⟨ht.1,h⟩ hi hr ret
 ·rw [if_neg h]
  simp only [m_,Sl,ag hk.fu,ar,DM,Sx,amv ht.1 ht.2.1 ht.dep,dj h,Bool.not_false,ae];rfl
end Go.Proofs.YtfkkpkhfjpaafaaGreatDoor
namespace Go.Proofs.YtfkkpkhfjpaafaaGreatDoor
open Go PI
set_option linter.unusedVariables false
set_option linter.unusedSimpArgs false
set_option maxRecDepth 20000
theorem agi (t:Tm): ∀ {v v' d d':Int},v+am t≤1000000000→v'+am t≤1000000000→acr 0 0 v d t=acr 0 0 v' d' t:=by
 induction t using gq with
 |h kd n nm r ks sys ih1 ih2=>
  intro v v' d d' h h'
  rw [am] at h h'
  have hk: ∀ {l:List Tm} {i:Nat},(∀x∈l,∀ {v v' d d':Int},v+am x≤1000000000→v'+am x≤1000000000→acr 0 0 v d x=acr 0 0 v' d' x)→v+aH l+1≤1000000000→v'+aH l+1≤1000000000→dm 0 0 v d kd i l=dm 0 0 v' d' kd i l:=by
   intro l
   induction l with
   |nil=>intro i _ _ _;rw [dm,dm]
   |cons t l ih=>
    intro i h h1 h2
    rw [aH] at h1 h2
    have:=g7 kd i
    rw [dm,dm,h t (by simp) (v:=v+bz kd i) (v':=v'+bz kd i) (d:=d+bJ kd i) (d':=d'+bJ kd i) (by omega) (by omega),ih (fun x hx=>h x (by simp [hx])) (by omega) (by omega)]
  have hm: ∀ {l:List Tm},(∀x∈l,∀ {v v' d d':Int},v+am x≤1000000000→v'+am x≤1000000000→acr 0 0 v d x=acr 0 0 v' d' x)→v+aH l+1≤1000000000→v'+aH l+1≤1000000000→alP 0 0 v d kd l=alP 0 0 v' d' kd l:=by
   intro l
   induction l with
   |nil=>intro _ _ _;rw [alP,alP]
   |cons t l ih=>
    intro h h1 h2
    rw [aH] at h1 h2
    rw [alP,alP,h t (by simp) (v:=v) (v':=v') (d:=d+av kd) (d':=d'+av kd) (by omega) (by omega),ih (fun x hx=>h x (by simp [hx])) (by omega) (by omega)]
  have hr: ∀ {d:Int} {f:List Cl},alN d 0 f= .ok f:=fun {d f}=>if_pos (.inl rfl)
  have hs: ∀ {l:List (Br Tm)},(∀b∈l,∀x∈b.kids,∀ {v v' d d':Int},v+am x≤1000000000→v'+am x≤1000000000→acr 0 0 v d x=acr 0 0 v' d' x)→v+aO l+1≤1000000000→v'+aO l+1≤1000000000→alT 0 0 v d kd l=alT 0 0 v' d' kd l:=by
   intro l
   induction l with
   |nil=>intro _ _ _;rw [alT,alT]
   |cons b l ih=>
    intro h h1 h2
    obtain ⟨f,ks'⟩:=b
    rw [aO,eB] at h1 h2
    rw [alT,alT,n8,n8,hr,hr,aD,aD,hm (l:=ks') (h ⟨f,ks'⟩ (by simp)) (by omega) (by omega),ih (fun b hb=>h b (by simp [hb])) (by omega) (by omega)]
  rw [acr,acr,hr,hr,aD,aD,hk ih1 (by omega) (by omega),hs ih2 (by omega) (by omega)]
  have e1:(kd=1∧n≥v∧n>1000000000-0)↔(kd=1∧n≥v'∧n>1000000000-0):=by omega
  simp only [e1,Int.add_zero,ite_self]
end Go.Proofs.YtfkkpkhfjpaafaaGreatDoor
namespace Go.Proofs.YtfkkpkhfjpaafaaGreatDoor
open Go PI
set_option linter.unusedVariables false
set_option linter.unusedSimpArgs false
set_option maxRecDepth 20000
variable {S:Type} {k:Nat}
def soE (l:List Tm) (x:Except Int Tm):Except Int Tm:=if alE l=0 then al_ x else .error (alE l)
end Go.Proofs.YtfkkpkhfjpaafaaGreatDoor
namespace Go.Proofs.YtfkkpkhfjpaafaaGreatDoor
open Go PI
set_option linter.unusedVariables false
set_option linter.unusedSimpArgs false
set_option maxRecDepth 20000
variable {S:Type} {k:Nat}
structure Gd (x:Except Int Tm):Prop where
 en: ∀e,x= .error e→0<e∧e≤1000
 kd: ∀t,x= .ok t→0≤t.kind
theorem akc (hk:F3 k) {l:List Tm} {x:Except Int Tm} (hx:alE l=0→ ∀t,x= .ok t→In k t):In k (tE (soE l x)).1:=by
 unfold soE
 by_cases h0:alE l=0
 ·rw [if_pos h0]
  unfold al_
  cases hh:x with
  |error e=>exact gQ hk
  |ok t=>
   rw [aD]
   split
   ·exact hx h0 t hh
   ·exact gQ hk
 ·rw [if_neg h0];exact gQ hk
end Go.Proofs.YtfkkpkhfjpaafaaGreatDoor
namespace Go.Proofs.YtfkkpkhfjpaafaaGreatDoor
open Go PI
set_option linter.unusedVariables false
set_option linter.unusedSimpArgs false
set_option maxRecDepth 20000
variable {S:Type} {k:Nat}
section
variable {hd:Tm→(Tm→Option S)→Option S} {t:Tm}
end
def J4 (sys:List (Br Tm)):Tm:= .mk 15 0 ByteArray.empty [] [.mk 3 0 ByteArray.empty [] [] [],.mk 3 0 ByteArray.empty [] [] []] sys
theorem RY (hk:Fu k) (sys:List (Br Tm)) (ret:Int×Int×ByteArray×List Tm×List (Br Tm)→Option S):pa k sys ret=ret (15,0,ByteArray.empty,[.mk 3 0 ByteArray.empty [] [] [],.mk 3 0 ByteArray.empty [] [] []],sys):=by
 simp_all [pa,Sd,hX,wm,ag]
end Go.Proofs.YtfkkpkhfjpaafaaGreatDoor
namespace Go.Proofs.YtfkkpkhfjpaafaaGreatDoor
open Go PI
set_option linter.unusedVariables false
set_option linter.unusedSimpArgs false
set_option maxRecDepth 20000
variable {S:Type} {k:Nat}
def AK (b:Br Tm):Tm:=b.kids.headD ao
structure SyF (sys:List (Br Tm)):Prop where
 kid: ∀b∈sys,b.kids=[AK b]∧Fm (AK b)∧aq b.face∧b.face.length<1073741824
 len:sys.length≤20000
 siz:aI sys≤20000
theorem iQ {sys:List (Br Tm)} (h:Fm (J4 sys)):SyF sys:=by
 obtain ⟨h1,h2,h3⟩:=eU h.2
 have hz:au (J4 sys)=3+aI sys:=by rfl
 have hd:aO sys+1≤am (J4 sys):=by grind [J4,am]
 unfold J4 at h3
 rw [a6] at h3
 simp only [Bool.and_eq_true] at h3
 obtain ⟨_,ho,_,hS⟩:=h3
 have ho:(sys.all (bX 15 24)&&decide (([]:List Cl).length=0))=true:=by
  grind [cL]
 simp only [Bool.and_eq_true] at ho
 have hb:=List.all_eq_true.1 ho.1
 rw [wH,List.all_eq_true] at hS
 have hk: ∀b∈sys,b.kids=[AK b]∧Fm (AK b)∧aq b.face∧b.face.length<1073741824:=by
  intro b hb'
  have h1':=hb b hb'
  unfold bX at h1'
  simp only [Bool.and_eq_true,decide_eq_true_eq] at h1'
  have hl:b.kids.length=1:=by grind [cz]
  have hok:=h.1.br (by exact hb':b∈sys)
  match hb2:b.kids,hl with
  |[x],_=>
   have hx:AK b=x:=by grind [AK]
   have hmem:x∈b.kids:=by grind
   rw [hx]
   refine ⟨rfl,⟨hok.2 x hmem,pS ?_ ?_ ?_⟩,hok.1.1,hok.1.2.1⟩
   ·have:=D0 hmem;have:=JP hb';omega
   ·have:=k_ hmem;have:=we hb';omega
   ·have:=List.all_eq_true.1 (hS b hb') x hmem
    rw [←this]
    exact m0 x (by omega) (by decide)
 have hlen: ∀l:List (Br Tm),(∀b∈l,b.kids=[AK b])→l.length≤aI l:=by
  intro l
  induction l<;>grind [aI,kZ,ay,mB]
 exact ⟨hk,by grind,by omega⟩
def g_ (line:Tm):List (Br Tm)→Except Int (List (Br Tm))
 |[]=> .ok []
 |b::r=>bE (di [⟨1,0⟩,⟨2,0⟩] line) fun u=>bE (g_ line r) fun l=> .ok (.mk b.face [.mk 14 0 ByteArray.empty [⟨1,0⟩] [u,AK b] []]::l)
def dF (line a:Tm) (sys:List (Br Tm)):Except Int Tm:=bE (ame 0 [⟨0,0⟩] line) fun l1=>bE (g_ line sys) fun l=> .ok (.mk 15 0 ByteArray.empty [] [l1,tmK 14 [line,a]] l)
theorem QA:RF [⟨1,0⟩,⟨2,0⟩]:=by
 refine ⟨by rfl,fun c hc=> ?_⟩
 simp only [List.mem_cons,List.not_mem_nil,or_false] at hc
 rcases hc with rfl|rfl
 ·exact ⟨⟨by decide,by decide⟩,by decide,by decide⟩
 ·exact ⟨⟨by decide,by decide⟩,by decide,by decide⟩
theorem Qz:RF [⟨0,0⟩]:=gS ⟨⟨by decide,by decide⟩,by decide,by decide⟩
theorem agZ:aq [⟨1,0⟩]:=fun c hc=>by grind [ag1]
theorem akM {r:List Cl} {t y:Tm} (ht:Fm t) (h:ame 0 r t= .ok y):OkT y∧am y≤200∧au y≤20000:=by
 obtain ⟨w1,w2,w3,w4⟩:=T0 h
 have h4:=w4 ht.ok ht.rows
 have:=ht.dep;have:=ht.siz
 grind
theorem aaa {line:Tm}: ∀ {r:List (Br Tm)} {e:Int},g_ line r= .error e→0<e∧e≤1000:=by
 intro r
 induction r with
 |nil=>intro e h;cases h
 |cons b r ih=>
  intro e h
  rcases be h with h|⟨_,_,h⟩<;>grind [be,li]
theorem o_ {line a:Tm} {sys:List (Br Tm)} {e:Int} (h:dF line a sys= .error e):0<e∧e≤1000:=by
 rcases be h with h|⟨_,_,h⟩
 ·exact ws h
 rcases be h with h|⟨_,_,h⟩
 ·exact aaa h
 simp_all
theorem aab {line:Tm} (hl:Fm line): ∀ {r l:List (Br Tm)},(∀b∈r,b.kids=[AK b]∧Fm (AK b)∧aq b.face∧b.face.length<1073741824)→g_ line r= .ok l→ba l∧aO l≤201∧aI l≤r.length*20001+aI r∧l.length=r.length:=by
 intro r
 induction r with
 |nil=>
  intro l _ h
  injection h with h;grind [ba,aO]
 |cons b r ih=>
  intro l hr h
  obtain ⟨u,h1,h⟩:=i8 h
  obtain ⟨l',h2,h⟩:=i8 h
  injection h with h;subst h
  obtain ⟨b1,b2,b3,b4⟩:=hr b (by simp)
  obtain ⟨i1,i2,i3,i4⟩:=ih (fun b hb=>hr b (by simp [hb])) h2
  obtain ⟨a1,a2,a3,a4⟩:=Jo hl h1
  have:=b2.dep
  refine ⟨?_, ?_, ?_,by simp [i4]⟩
  ·rw [ba,fc,aZ,aZ,OkT,aZ,aZ,aZ,ba]
   refine ⟨⟨⟨b3,b4,by simp⟩,⟨⟨by unfold aG;omega,by unfold aG;omega,by simp,agZ,by simp,by simp,by simp⟩,⟨a1,b2.ok,trivial⟩,trivial⟩,trivial⟩,i1⟩
  all_goals grind [aO,eB,aH,am,aI,ay,au,kZ]
theorem yu (hk:F3 k) {line a:Tm} {sys:List (Br Tm)} (hl:Fm line) (ha:Fm a) (hs:SyF sys) {t:Tm} (h:dF line a sys= .ok t):In k t∧0≤t.kind:=by
 obtain ⟨l1,h1,h⟩:=i8 h
 obtain ⟨l,h2,h⟩:=i8 h
 injection h with h;subst h
 obtain ⟨a1,a2,a3⟩:=akM hl h1
 obtain ⟨i1,i2,i3,i4⟩:=aab hl hs.kid h2
 have:=hs.len;have:=hs.siz;have:=hl.dep;have:=ha.dep;have:=hl.siz;have:=ha.siz
 have hm:sys.length*20001≤20000*20001:=Nat.mul_le_mul_right _ hs.len
 refine ⟨⟨?_,hk.fd ?_, ?_⟩,(by decide:(0:Int)≤15)⟩
 ·rw [OkT,aZ,aZ,aZ]
  exact ⟨⟨by unfold aG;omega,by unfold aG;omega,by simp,fun c hc=>(by cases hc),by simp,by simp,by omega⟩,⟨a1,ag2 (by omega) (by simp) fun x hx=>by
   simp at hx
   rcases hx with rfl|rfl
   ·exact hl.ok
   ·exact ha.ok,trivial⟩,i1⟩
 ·grind [tmK,am,aH,aO]
 ·unfold tmK;rw [au,ay,ay,ay,au,ay,ay,ay,aI];omega
theorem ai_ (hk:F3 k) {c:Int} {t:Tm} (h:c=0→Fm t) (ret:Tm×Int→Option S):yz k t c ret=ret (if c=0 then tE (ame 0 [⟨0,0⟩] t) else (ao,c)):=by
 simp only [yz,Sb,ag hk.fu,de,gn,bG,pg,HM,ar]
 by_cases hc:c=0
 ·grind [ad,Ra,Qz,rI]
 ·rw [decide_eq_false hc,Bool.not_false,ae,if_neg hc];rfl
theorem E6 (hk:F3 k) (ret:Tm×Int→Option S) {line:Tm} {q:Int×Int×ByteArray×List Tm} {w:Tm} {c:Int} (hc:c≠0) (hw:w.sys.length<1073741824):
  ∀ (r p acc:List (Br Tm)) (m:Nat),w.sys=p++r→0<m→ko k ret line q w m c acc (p.length:Int)=ret (ao,c):=by
 intro r p acc m h hm
 obtain ⟨m,rfl⟩: ∃j,m=j+1:=⟨m-1,by omega⟩
 cases r with
 |nil=>grind [ko,oP,ad,ar,ag,rG]
 |cons x r=>
  obtain ⟨e1,e2,e3,e4⟩:=j3 h (by omega)
  grind [ko,oP,ae,de,gn,ar,ag,rG]
theorem aeu (hk:F3 k) (ret:Tm×Int→Option S) {line:Tm} (hl:Fm line) {q:Int×Int×ByteArray×List Tm} {w:Tm} (hw:w.sys.length<1073741824) (hs: ∀b∈w.sys,b.kids=[AK b]):
  ∀ (r p acc:List (Br Tm)) (m:Nat),w.sys=p++r→r.length<m→acc.length+r.length<1073741824→
   ko k ret line q w m 0 acc (p.length:Int)=eE (g_ line r) (fun l=>eQ k (.mk q.1 q.2.1 q.2.2.1 [] q.2.2.2 (acc++l)) 0 fun z=>ret (z.1,z.2.1)) fun e=>ret (ao,e):=by
 intro r
 induction r with
 |nil=>
  intro p acc m h hm ha
  obtain ⟨m,rfl,hm'⟩:=i9 hm
  simp only [ko,oP,akb h,ad,ag hk.fu,ar,g_,aP,List.append_nil]
 |cons x r ih=>
  intro p acc m h hm ha
  obtain ⟨m,rfl,hm'⟩:=i9 hm
  obtain ⟨e1,e2,e3,e4⟩:=j3 h (by omega)
  have hx:=hs x (by grind)
  have hg:af x.kids 0=some (AK x):=by rw [hx];rfl
  have hat: ∀g:Tm×Int→Option S,lr k line [⟨1,0⟩,⟨2,0⟩] 0 g=g (tE (di [⟨1,0⟩,⟨2,0⟩] line)):=fun g=>Rd hk hl QA g
  simp only [ko,oP,e1,ae,e2,Option.bind_some,ag hk.fu,de,gn,bG,show decide ((0:Int)=0)=true from rfl,Bool.not_true,ad,ar,hat,hg,hX,wm]
  rw [J5 (by grind),g_,AS]
  cases hx2:di [⟨1,0⟩,⟨2,0⟩] line with
  |error e=>
   have he:=li hx2
   rw [e3]
   exact E6 hk ret (show e≠0 by omega) hw r (p++[x]) _ m e4 (by grind)
  |ok u=>
   rw [aP,AS,e3]
   refine (ih (p++[x]) (acc++[.mk x.face [.mk 14 0 ByteArray.empty [⟨1,0⟩] [u,AK x] []]]) m e4 hm' (by grind)).trans ?_
   grind [aP]
theorem aiI (hk:F3 k) {line a:Tm} {sys:List (Br Tm)} (hl:In k line) (ha:In k a) (hs:In k (J4 sys)) (ret:Tm×Int→Option S):yx k line a sys ret=ret (tE (soE [line,a,J4 sys] (dF line a sys))):=by
 have hin: ∀x∈[line,a,J4 sys],In k x:=fun x hx=>by
  grind
 have hfm:alE [line,a,J4 sys]=0→ ∀x∈[line,a,J4 sys],Fm x:=fun h=>wh (fun x hx=>(hin x hx).1) h
 have hsl:sys.length<1073741824:=hs.1.node.2.2.2.2.2.2
 simp only [yx,Hq,ag hk.fu,ar,RY hk.fu]
 have hb: ∀g:Int→Option S,m9 k [line,a,.mk 15 0 ByteArray.empty [] [.mk 3 0 ByteArray.empty [] [] [],.mk 3 0 ByteArray.empty [] [] []] sys] g=g (alE [line,a,J4 sys]):=fun g=>Re hk hin (by simp) g
 have hc: ∀g:Tm→Option S,dJ k (.mk 15 0 ByteArray.empty [] [.mk 3 0 ByteArray.empty [] [] [],.mk 3 0 ByteArray.empty [] [] []] sys) g=g (J4 sys):=fun g=>vU (J4 sys) hs.1 g hs.2.1
 simp only [hb,hc,vU line hl.1 _ hl.2.1,vU a ha.1 _ ha.2.1,ai_ hk (fun h=>hfm h line (by simp)),hX,wm]
 unfold soE
 by_cases h0:alE [line,a,J4 sys]=0
 ·have fl:=hfm h0 line (by simp)
  have fa:=hfm h0 a (by simp)
  have sy:=iQ (hfm h0 (J4 sys) (by simp))
  simp only [h0,if_true]
  have hret:ret (tE (al_ (dF line a sys)))=eE (dF line a sys) (fun t=>eQ k t 0 fun z=>ret (z.1,z.2.1)) fun e=>ret (ao,e):=by
   unfold al_
   rw [amt _ ret,AS]
   refine ad3 (fun t ht=> ?_) fun _ _=>rfl
   rw [←amt _ ret]
   exact ((Rk hk (t:=t) (c:=0) (fun _=>(yu hk fl fa sy ht).1) ret).trans rfl).symm
  rw [hret]
  unfold dF
  rw [AS]
  cases h1:ame 0 [⟨0,0⟩] line with
  |error e=>
   have he:=ws h1
   exact E6 hk ret (w:=J4 sys) (show e≠0 by omega) hsl sys [] [] k rfl (by omega)
  |ok l1=>
   rw [aP,AS]
   refine (aeu hk ret fl (w:=J4 sys) hsl (fun b hb=>(sy.kid b hb).1) sys [] [] k rfl (by omega) (by grind)).trans ?_
   rfl
 ·simp only [if_neg h0]
  exact E6 hk ret (w:=J4 sys) h0 hsl sys [] [] k rfl (by omega)
end Go.Proofs.YtfkkpkhfjpaafaaGreatDoor
