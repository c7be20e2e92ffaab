/- Part 3 of a proof: the sources, with their names and remarks, lie in wip/. -/
import Derived.Test.YtapmagaejigpnaaGreatDoorX2
import Derived.LoopN
import Derived.Recover
import Derived.Orders
namespace Go.Proofs.YtapmagaejigpnaaGreatDoor.PI
open Go
set_option linter.unusedVariables false
section
variable {U:Uni} {K:bJ U} {R:Type} {C:Oracle U R}
theorem St.setR_self (σ:St U) (n:Nat) {v:PV U} (h:σ.r n=v):σ.eqv (σ.setR n v):=by
 intro k
 rw [St.setR_at]
 split
 ·rename_i hk;subst hk;simp [St.at_,h]
 ·rfl
theorem eQ (hC:C.Tells K): ∀ (m:M U) {σ σ0:St U} {fp:List Loc} {κ:MR U→St U→List Loc→Option R} {x:R},m.cps C σ fp κ=some x→σ0.eqv σ→
  ∃r τ0 τ gp,m.Rel K σ0 fp r τ0 gp∧τ0.eqv τ∧κ r τ gp=some x:=by
 intro m
 induction m with
 |done=>intro σ σ0 fp κ x h he;exact ⟨_,_,_,_,⟨rfl,rfl,rfl⟩,he,h⟩
 |fail=>intro σ σ0 fp κ x h he;cases h
 |raise v=>intro σ σ0 fp κ x h he;exact ⟨_,_,_,_,⟨rfl,rfl,rfl⟩,he,h⟩
 |out o=>intro σ σ0 fp κ x h he;exact ⟨_,_,_,_,⟨rfl,rfl,rfl⟩,he,h⟩
 |getR n k ih=>
  intro σ σ0 fp κ x h he
  obtain ⟨r,τ0,τ,gp,hr,ht,hk⟩:=ih _ h he
  exact ⟨r,τ0,τ,gp,by simp only [M.Rel];rw [he.r n];exact hr,ht,hk⟩
 |setR n v m ih=>
  intro σ σ0 fp κ x h he
  exact ih h (fun k=>by rw [St.setR_at,St.setR_at,he k])
 |getB n k ih=>
  intro σ σ0 fp κ x h he
  obtain ⟨r,τ0,τ,gp,hr,ht,hk⟩:=ih _ h he
  exact ⟨r,τ0,τ,gp,by simp only [M.Rel];rw [he.b n];exact hr,ht,hk⟩
 |setB n v m ih=>
  intro σ σ0 fp κ x h he
  exact ih h (fun k=>by rw [St.setB_at,St.setB_at,he k])
 |getO n k ih=>
  intro σ σ0 fp κ x h he
  obtain ⟨r,τ0,τ,gp,hr,ht,hk⟩:=ih _ h he
  exact ⟨r,τ0,τ,gp,by simp only [M.Rel];rw [he.o n];exact hr,ht,hk⟩
 |setO n v m ih=>
  intro σ σ0 fp κ x h he
  exact ih h (fun k=>by rw [St.setO_at,St.setO_at,he k])
 |getU n k ih=>
  intro σ σ0 fp κ x h he
  obtain ⟨r,τ0,τ,gp,hr,ht,hk⟩:=ih _ h he
  exact ⟨r,τ0,τ,gp,by simp only [M.Rel];rw [he.u n];exact hr,ht,hk⟩
 |setU n v m ih=>
  intro σ σ0 fp κ x h he
  exact ih h (fun k=>by rw [St.setU_at,St.setU_at,he k])
 |frz n m ih=>
  intro σ σ0 fp κ x h he
  exact ih h (fun k=>by rw [St.setU_at,St.setU_at,he k])
 |ask o k ih=>
  intro σ σ0 fp κ x h he
  cases o with
  |none=>cases h
  |some y=>
   obtain ⟨r,τ0,τ,gp,hr,ht,hk⟩:=ih y h he
   exact ⟨r,τ0,τ,gp,⟨y,rfl,hr⟩,ht,hk⟩
 |case j m1 m2 m3 i1 i2 i3=>
  intro σ σ0 fp κ x h he
  simp only [M.cps] at h
  split at h
  ·rename_i b hb
   cases b with
   |true=>
    obtain ⟨r,τ0,τ,gp,hr,ht,hk⟩:=i1 (σ0:=σ0) h (he.trans (St.setR_self σ j hb))
    exact ⟨r,τ0,τ,gp,.inl ⟨(he.r j).trans hb,hr⟩,ht,hk⟩
   |false=>
    obtain ⟨r,τ0,τ,gp,hr,ht,hk⟩:=i2 (σ0:=σ0) h (he.trans (St.setR_self σ j hb))
    exact ⟨r,τ0,τ,gp,.inr (.inl ⟨(he.r j).trans hb,hr⟩),ht,hk⟩
  ·rename_i hb
   obtain ⟨r,τ0,τ,gp,hr,ht,hk⟩:=i3 h he
   exact ⟨r,τ0,τ,gp,.inr (.inr ⟨(he.r j).trans hb,hr⟩),ht,hk⟩
  ·cases h
 |call f a bs k ih=>
  intro σ σ0 fp κ x h he
  obtain ⟨out,ho,hk⟩:=hC _ _ _ _ _ h
  obtain ⟨r,τ0,τ,gp,hr,ht,hk'⟩:=ih out hk he
  exact ⟨r,τ0,τ,gp,⟨out,ho,hr⟩,ht,hk'⟩
variable (V:Env U) (S:Side U) (K) (ann:Nat→Option Ann)
def jp (all:List Oper):List Oper→St U→List (List Loc)→Ex U→St U→Prop
 |[],σ,fps,e,σ'=>fps=[]∧e= .normal∧σ'=σ
 |o::r,σ,fps,e,σ'=>
  (∃σ1 f fps',(gg V S o (eS all)).Rel K σ [] .done σ1 f∧jp all r σ1 fps' e σ'∧fps=f::fps')∨
  (∃v f,(gg V S o (eS all)).Rel K σ [] (.raise v) σ' f∧e= .panic v∧fps=[f])
theorem DM (hC:C.Tells K) (all:List Oper): ∀ (ops:List Oper) {σ σ0:St U} {fps0:List (List Loc)} {κ:Ex U→St U→List (List Loc)→Option R} {x:R},lL V S C all ops fps0 σ κ=some x→σ0.eqv σ→
  ∃e fps τ0 τ,jp K V S all ops σ0 fps e τ0∧τ0.eqv τ∧κ e τ (fps0++fps)=some x:=by
 intro ops
 induction ops with
 |nil=>intro σ σ0 fps0 κ x h he;exact ⟨_,[],_,_,⟨rfl,rfl,rfl⟩,he,by simpa [lL] using h⟩
 |cons o r ih=>
  intro σ σ0 fps0 κ x h he
  simp only [lL] at h
  obtain ⟨q,τ0,τ,gp,hr,ht,hk⟩:=eQ hC _ h he
  cases q with
  |done=>
   obtain ⟨e,fps,ρ0,ρ,h1,h2,h3⟩:=ih hk ht
   exact ⟨e,gp::fps,ρ0,ρ,.inl ⟨τ0,gp,fps,hr,h1,rfl⟩,h2,by simpa using h3⟩
  |raise v=>exact ⟨.panic v,[gp],τ0,τ,.inr ⟨v,gp,hr,rfl,rfl⟩,ht,hk⟩
  |out o=>cases hk
inductive Big:Option Ann→Code→St U→Ex U→St U→Prop
 |skip (σ):Big none .skip σ .normal σ
 |label (l σ):Big none (.label l) σ .normal σ
 |region (id ops draw σ e σ' fps) (hd:ops.toList.all (aU S.nt)=true) (h:jp K V S ops.toList ops.toList σ fps e σ')
   (hf:draw=true→e= .normal∧fm 0 ops.toList=true∧iz (cJ ops.toList []) 0 [] fps=true):Big none (.region id ops draw) σ e σ'
 |regionP (id ops σ v σ' σ'' τ fps) (hd:ops.toList.all (aU S.nt)=true) (h:jp K V S ops.toList ops.toList σ fps (.panic v) σ') (he:σ'.eqv σ'') (hv:v.isErr=true) (hf:nZ V S ops.toList σ σ'' fps=true)
  (hc:cR (fJ σ σ'') σ''=some τ):Big none (.region id ops true) σ (.panic v) τ
 |seqN (a b σ σ1 e σ') (h1:Big none a σ .normal σ1) (h2:Big none b σ1 e σ'):Big none (.seq a b) σ e σ'
 |seqJ (a b A σ σ1 τ e σ') (h1:Big none a σ .normal σ1) (hA:ann (1000000+fX b)=some A) (hc:cR A σ1=some τ) (h2:Big none b τ e σ'):Big none (.seq a b) σ e σ'
 |seqE (a b σ e σ') (h1:Big none a σ e σ') (he:e≠ .normal):Big none (.seq a b) σ e σ'
 |cond (j a b σ t e σ') (hj:σ.r j= .bool t) (h:Big none (bif t then a else b) σ e σ'):Big none (.cond (.tmp j) a b) σ e σ'
 |blockIn (id a σ σ') (h:Big none a σ (.exit id) σ'):Big none (.block id a) σ .normal σ'
 |blockOut (id a σ e σ') (h:Big none a σ e σ') (he:e≠ .exit id):Big none (.block id a) σ e σ'
 |loop (a A σ τ e σ') (hA:ann (fX a)=some A) (hc:cR A σ=some τ) (h:Big (some A) a τ e σ'):Big none (.loop a) σ e σ'
 |exit (id σ):Big none (.exit id) σ (.exit id) σ
 |ret (σ):Big none .ret σ .ret σ
 |round (a A σ σ1 τ e σ') (h:Big none a σ .normal σ1) (hc:cR A σ1=some τ) (h':Big (some A) a τ e σ'):Big (some A) a σ e σ'
 |leave (a A σ e σ') (h:Big none a σ e σ') (he:e≠ .normal):Big (some A) a σ e σ'
 |pre (o c σ0 σ e σ') (he:σ0.eqv σ) (h:Big o c σ e σ'):Big o c σ0 e σ'
 |post (o c σ e σ1 σ') (he:σ1.eqv σ') (h:Big o c σ e σ1):Big o c σ e σ'
theorem sc (hC:C.Tells K) (fuel:Nat): ∀ (c:Code) {σ:St U} {κ:Ex U→St U→Option R} {x:R},run V S C ann fuel c σ κ=some x→ ∃e τ,Big K V S ann none c σ e τ∧κ e τ=some x:=by
 intro c
 induction c with
 |skip=>intro σ κ x h;exact ⟨_,_,.skip σ,h⟩
 |label l=>intro σ κ x h;exact ⟨_,_,.label l σ,h⟩
 |region id ops draw=>
  intro σ κ x h
  simp only [run] at h
  cases hd:ops.toList.all (aU S.nt) with
  |false=>rw [hd] at h;cases h
  |true=>
  rw [hd] at h
  simp only [cond_true] at h
  obtain ⟨e,fps,τ0,τ,hr,ht,hk⟩:=DM K V S hC _ _ h (St.eqv.refl σ)
  cases e with
  |normal=>
   simp only [List.nil_append] at hk
   cases hb:(!draw||(fm 0 ops.toList&&iz (cJ ops.toList []) 0 [] fps)) with
   |false=>rw [hb] at hk;cases hk
   |true=>
    rw [hb] at hk
    refine ⟨_,_,.post _ _ _ _ _ _ ht (.region id ops draw σ _ τ0 fps hd hr fun hdr=> ?_),hk⟩
    rw [hdr] at hb
    simp at hb
    exact ⟨rfl,hb.1,hb.2⟩
  |exit id=>cases draw<;>simp at hk;exact ⟨_,_,.post _ _ _ _ _ _ ht (.region _ ops _ σ _ τ0 fps hd hr (by simp)),hk⟩
  |ret=>cases draw<;>simp at hk;exact ⟨_,_,.post _ _ _ _ _ _ ht (.region _ ops _ σ _ τ0 fps hd hr (by simp)),hk⟩
  |panic v=>
   cases draw with
   |false=>simp at hk;exact ⟨_,_,.post _ _ _ _ _ _ ht (.region _ ops _ σ _ τ0 fps hd hr (by simp)),hk⟩
   |true=>
    simp only [List.nil_append,cond_true] at hk
    cases hf:(v.isErr&&nZ V S ops.toList σ τ fps) with
    |false=>rw [hf] at hk;cases hk
    |true=>
     rw [hf] at hk
     simp only [cond_true] at hk
     simp only [Bool.and_eq_true] at hf
     split at hk
     ·rename_i τ2 hc
      exact ⟨_,_,.regionP _ ops σ v τ0 τ τ2 fps hd hr ht hf.1 hf.2 hc,hk⟩
     ·cases hk
 |seq a b ia ib=>
  intro σ κ x h
  simp only [run] at h
  obtain ⟨e,τ,h1,h2⟩:=ia h
  cases e with
  |normal=>
   simp only at h2
   split at h2
   ·rename_i A hA
    split at h2
    ·rename_i τ1 hc
     have h2:run V S C ann fuel b τ1 κ=some x:=by
      cases fuel with
      |zero=>cases h2
      |succ n=>exact h2
     obtain ⟨e',τ',h3,h4⟩:=ib h2
     exact ⟨e',τ',.seqJ _ _ _ _ _ _ _ _ h1 hA hc h3,h4⟩
    ·cases h2
   ·obtain ⟨e',τ',h3,h4⟩:=ib h2;exact ⟨e',τ',.seqN _ _ _ _ _ _ h1 h3,h4⟩
  |exit id=>exact ⟨_,_,.seqE _ _ _ _ _ h1 (by simp),h2⟩
  |ret=>exact ⟨_,_,.seqE _ _ _ _ _ h1 (by simp),h2⟩
  |panic v=>exact ⟨_,_,.seqE _ _ _ _ _ h1 (by simp),h2⟩
 |cond cc a b ia ib=>
  intro σ κ x h
  simp only [run] at h
  split at h
  ·rename_i j
   split at h
   ·rename_i t ht
    cases t with
    |true=>
     obtain ⟨e,τ,h1,h2⟩:=ia h
     exact ⟨e,τ,.pre _ _ _ _ _ _ (St.setR_self σ j ht) (.cond j a b _ true e τ (by simp) h1),h2⟩
    |false=>
     obtain ⟨e,τ,h1,h2⟩:=ib h
     exact ⟨e,τ,.pre _ _ _ _ _ _ (St.setR_self σ j ht) (.cond j a b _ false e τ (by simp) h1),h2⟩
   ·cases h
  ·cases h
 |block id a ia=>
  intro σ κ x h
  simp only [run] at h
  obtain ⟨e,τ,h1,h2⟩:=ia h
  cases e with
  |exit j=>
   simp only at h2
   cases hj:Nat.beq j id with
   |true=>
    rw [hj] at h2
    have:j=id:=by simpa using hj
    subst this
    exact ⟨_,_,.blockIn _ _ _ _ h1,h2⟩
   |false=>
    rw [hj] at h2
    exact ⟨_,_,.blockOut _ _ _ _ _ h1 (fun e=>by injection e with e;subst e;simp at hj),h2⟩
  |normal=>exact ⟨_,_,.blockOut _ _ _ _ _ h1 (by simp),h2⟩
  |ret=>exact ⟨_,_,.blockOut _ _ _ _ _ h1 (by simp),h2⟩
  |panic v=>exact ⟨_,_,.blockOut _ _ _ _ _ h1 (by simp),h2⟩
 |loop a ia=>
  intro σ κ x h
  simp only [run] at h
  split at h
  ·rename_i A hA
   split at h
   ·rename_i τ hc
    have key: ∀ (n:Nat) (τ:St U) (κ:Ex U→St U→Option R) (x:R),nx (cR A) (fun σ κ=>run V S C ann fuel a σ κ) n τ κ=some x→ ∃e ρ,Big K V S ann (some A) a τ e ρ∧κ e ρ=some x:=by
     intro n
     induction n with
     |zero=>intro τ κ x h;cases h
     |succ n ih=>
      intro τ κ x h
      simp only [nx] at h
      obtain ⟨e,ρ,h1,h2⟩:=ia h
      cases e with
      |normal=>
       simp only [back] at h2
       split at h2
       ·rename_i τ' hc'
        obtain ⟨e',ρ',h3,h4⟩:=ih τ' κ x h2
        exact ⟨e',ρ',.round _ _ _ _ _ _ _ h1 hc' h3,h4⟩
       ·cases h2
      |exit id=>exact ⟨_,_,.leave _ _ _ _ _ h1 (by simp),h2⟩
      |ret=>exact ⟨_,_,.leave _ _ _ _ _ h1 (by simp),h2⟩
      |panic v=>exact ⟨_,_,.leave _ _ _ _ _ h1 (by simp),h2⟩
    obtain ⟨e,ρ,h1,h2⟩:=key _ _ _ _ h
    exact ⟨e,ρ,.loop _ _ _ _ _ _ hA hc h1,h2⟩
   ·cases h
  ·cases h
 |exit id=>intro σ κ x h;exact ⟨_,_,.exit id σ,h⟩
 |ret=>intro σ κ x h;exact ⟨_,_,.ret σ,h⟩
 |_=>intro σ κ x h;cases h
end
end Go.Proofs.YtapmagaejigpnaaGreatDoor.PI
namespace Go.Proofs.YtapmagaejigpnaaGreatDoor.PI
open Go
set_option linter.unusedVariables false
set_option linter.unusedSimpArgs false
section
variable {U:Uni} {V:Env U} {P:Program} (X:Link V P) (K:bJ U) (S:Side U) (c:Ctx)
def jo:Prop:= ∀ (o:Oper) (a:Act) (w:World) (σ:St U) (g:Gh U) (D:Nat→Option Nat) (r:MR U) (τ:St U) (fp gp:List Loc) (next:Act→World→Prop) (Q:Exit→Act→World→Prop),
 aU c.nt o=true→Sim X c a.tmps w σ g D→(a_ V S o).Rel K σ fp r τ gp→Then X c a r τ next Q→o.wp P a w next Q
def Lands (ds:List Deferred) (e:Ex U) (σ':St U) (Q:Exit→Act→World→Prop):Prop:=
 ∀a' w' g' D',a'.defers=ds→Sim X c a'.tmps w' σ' g' D'→match e with
  | .normal=>Q .normal a' w'
  | .exit id=>Q (.exit id) a' w'
  | .ret=>Q .ret a' w'
  | .panic v=> ∀val,Rep X w' (c.N g' D') g' val v→Q (.panic [{v:=val,recovered:=false}]) a' w'
variable {X K S c} {a:Act} {w:World} {σ:St U} {g:Gh U} {D:Nat→Option Nat} {Q:Exit→Act→World→Prop} {ops:Array Oper}
theorem GP {tm:Array Value} {j d:Nat} (hd:eS ops.toList j=some d) {b:Bool} (h:tm.getD d undef= .bool b):yielded ops tm j=some b:=by
 have ho:(ops[j]?).bind (·.dst)=some d:=by
  unfold eS at hd
  simp only [Array.getElem?_toList] at hd
  cases h2:ops[j]? with
  |none=>rw [h2] at hd;cases hd
  |some o=>rw [h2] at hd;exact hd
 have ht:tm[d]? =some (.bool b):=by
  rw [Array.getD_eq_getD_getElem?] at h
  cases h2:tm[d]? with
  |none=>rw [h2] at h;cases h
  |some v=>rw [h2] at h;simpa using h
 simp [yielded,ho,ht]
theorem TQ {tm:Array Value} {j d:Nat} (hd:eS ops.toList j=some d) (h:tm.getD d undef=undef):yielded ops tm j=none:=by
 have ho:(ops[j]?).bind (·.dst)=some d:=by
  unfold eS at hd
  simp only [Array.getElem?_toList] at hd
  cases h2:ops[j]? with
  |none=>rw [h2] at hd;cases hd
  |some o=>rw [h2] at hd;exact hd
 unfold yielded
 rw [ho]
 simp only [Option.bind_some]
 rw [Array.getD_eq_getD_getElem?] at h
 cases h2:tm[d]? with
 |none=>rfl
 |some v=>rw [h2] at h;simp only [Option.getD_some] at h;subst h;rfl
theorem nM (hS:jo X K S c) {o:Oper} {r:MR U} {τ:St U} {fp:List Loc} {next:Act→World→Prop} (hd:aU c.nt o=true) (h:Sim X c a.tmps w σ g D) (hr:(gg V S o (eS ops.toList)).Rel K σ [] r τ fp)
  (ht:Then X c a r τ next Q):if Region.wanted o (yielded ops a.tmps) then o.wp P a w next Q∨(o.asks P a w∧LetsOut Q) else next (a.put o.dst undef) w:=by
 have skip: ∀ {fp' gp'},(put o.dst (.tuple []):M U).Rel K σ fp' r τ gp'→next (a.put o.dst undef) w:=by
  intro fp' gp' hp
  obtain ⟨h1,h2⟩:=nR hp
  subst h2
  obtain ⟨h3,h4⟩:=h.putAct hd (v:=undef) (p:= .tuple []) (.tuple #[] [] rfl (by simp))
  exact ht.done h1 _ _ _ _ h4 h3
 have go: ∀ {fp' gp'},(a_ V S o).Rel K σ fp' r τ gp'→o.wp P a w next Q:=fun h'=>hS _ _ _ _ _ _ _ _ _ _ _ _ hd h h' ht
 unfold gg at hr
 cases hg:o.guard with
 |none=>rw [hg] at hr;rw [if_pos (by simp [Region.wanted,hg])];exact .inl (go hr)
 |some jw=>
  obtain ⟨j,want⟩:=jw
  rw [hg] at hr
  simp only at hr
  split at hr
  ·exact hr.elim
  ·rename_i d hj
   have hR:=h.regs d
   rcases hr with ⟨hb,hr⟩|⟨hb,hr⟩|⟨hb,hr⟩
   ·rw [hb] at hR
    have hy:=GP hj (g0 hR)
    cases want with
    |true=>rw [if_pos (by simp [Region.wanted,hg,hy])];exact .inl (go hr)
    |false=>rw [if_neg (by simp [Region.wanted,hg,hy])];exact skip hr
   ·rw [hb] at hR
    have hy:=GP hj (g0 hR)
    cases want with
    |true=>rw [if_neg (by simp [Region.wanted,hg,hy])];exact skip hr
    |false=>rw [if_pos (by simp [Region.wanted,hg,hy])];exact .inl (go hr)
   ·rw [hb] at hR
    have hu:a.tmps.getD d undef=undef:=by
     generalize a.tmps.getD d undef=v at hR
     cases hR with
     |tuple vs _ hl _=>
      have:vs= #[]:=by simpa using hl
      subst this;rfl
    have hy:=TQ hj hu
    rw [if_neg (by simp [Region.wanted,hg,hy])]
    exact skip hr
theorem GG (hS:jo X K S c) {e:Ex U} {σ':St U}: ∀ (l:List Oper) (i:Nat) (a:Act) (w:World) (σ:St U) (g:Gh U) (D:Nat→Option Nat) (fps:List (List Loc)),ops.toList.drop i=l→l.all (aU c.nt)=true→Sim X c a.tmps w σ g D→
  jp K V S ops.toList l σ fps e σ'→Lands X c a.defers e σ' Q→wpOps P ops Q (List.range' i l.length) a w:=by
 intro l
 induction l with
 |nil=>
  intro i a w σ g D fps _ _ h hr hl
  obtain ⟨_,h2,h3⟩:=hr
  subst h2;subst h3
  simp only [List.length_nil,List.range'_zero,wpOps]
  exact hl a w g D rfl h
 |cons o l ih=>
  intro i a w σ g D fps hdrop hall h hr hl
  have hi:ops[i]? =some o:=by
   have:=congrArg (·[0]?) hdrop
   simpa using this
  have hdrop':ops.toList.drop (i+1)=l:=by
   rw [←List.drop_drop,hdrop];rfl
  simp only [List.all_cons,Bool.and_eq_true] at hall
  simp only [List.length_cons,List.range'_succ,wpOps,hi]
  rcases hr with ⟨σ1,f,fps',h1,h2,_⟩|⟨v,f,h1,h2,_⟩
  ·exact nM hS hall.1 h h1 ⟨fun _ a' w' g' D' hdf hs=>ih (i+1) a' w' σ1 g' D' fps' hdrop' hall.2 hs h2 (by rw [hdf];exact hl),fun v hv=>by cases hv⟩
  ·subst h2
   refine nM hS hall.1 h h1 ⟨(fun hv=>by cases hv),fun v' hv w' g' D' val hrep hs=> ?_⟩
   injection hv with hv
   subst hv
   exact hl a w' g' D' rfl hs val hrep
def SeqRel (V:Env U) (K:bJ U) (S:Side U) (ops:Array Oper):List (Nat×List Loc)→St U→St U→Prop
 |[],σ,σ'=>σ.eqv σ'
 |(i,f)::r,σ,σ'=> ∃o σ1,ops[i]? =some o∧(gg V S o (eS ops.toList)).Rel K σ [] .done σ1 f∧SeqRel V K S ops r σ1 σ'
theorem SeqRel.pre {l:List (Nat×List Loc)}: ∀ {σ0 σ σ':St U},SeqRel V K S ops l σ σ'→σ.eqv σ0→SeqRel V K S ops l σ0 σ':=by
 induction l with
 |nil=>intro σ0 σ σ' h he;exact he.symm.trans h
 |cons x l ih=>
  obtain ⟨i,f⟩:=x
  intro σ0 σ σ' h he
  obtain ⟨o,σ1,ho,h1,h2⟩:=h
  obtain ⟨τ,h3,h4⟩:=h1.eqv K he
  exact ⟨o,τ,ho,h3,ih h2 h4⟩
theorem SeqRel.front {i:Nat} {f:List Loc} {post:List (Nat×List Loc)}: ∀ (pre:List (Nat×List Loc)) {σ σ':St U},SeqRel V K S ops (pre++(i,f)::post) σ σ'→(∀x∈pre,cH x.2 f=true)→
  SeqRel V K S ops ((i,f)::(pre++post)) σ σ':=by
 intro pre
 induction pre with
 |nil=>intro σ σ' h _;exact h
 |cons x pre ih=>
  obtain ⟨j,g⟩:=x
  intro σ σ' h ha
  obtain ⟨o,σ1,ho,h1,h2⟩:=h
  obtain ⟨o',σ2,ho',h3,h4⟩:=ih h2 (fun x hx=>ha x (by simp [hx]))
  obtain ⟨τ1,τ2,h5,h6,h7⟩:=Rel.swap K h1 h3 (ha (j,g) (by simp))
  exact ⟨o',τ1,ho',h5,o,τ2,ho,h6,h4.pre h7⟩
theorem JN: ∀ (l:List Oper) (acc:List Nat),∃t,cJ l acc=acc++t∧t.length=l.length:=by
 intro l
 induction l with
 |nil=>intro acc;exact ⟨[],by simp [cJ],rfl⟩
 |cons o l ih=>
  intro acc
  obtain ⟨t,h1,h2⟩:=ih (acc++[jZ acc o])
  exact ⟨jZ acc o::t,by simp [cJ,h1],by simp [h2]⟩
theorem JO: ∀ (l:List Oper) (acc:List Nat) (k:Nat) (o:Oper),l[k]? =some o→(cJ l acc)[acc.length+k]? =some (jZ ((cJ l acc).take (acc.length+k)) o):=by
 intro l
 induction l with
 |nil=>intro acc k o h;simp at h
 |cons o' l ih=>
  intro acc k o h
  cases k with
  |zero=>
   simp at h;subst h
   obtain ⟨t,h1,h2⟩:=JN l (acc++[jZ acc o'])
   simp only [cJ,h1,Nat.add_zero,List.append_assoc]
   rw [List.getElem?_append_right (Nat.le_refl _)]
   simp
  |succ k=>
   have:=ih (acc++[jZ acc o']) k o (by simpa using h)
   simp only [List.length_append,List.length_cons,List.length_nil] at this
   simp only [cJ]
   rw [show acc.length+(k+1)=acc.length+(0+1)+k by omega]
   exact this
theorem Mf (acc:List Nat) (j:Nat): ∀ (es:List Edge) (s:Nat),(es.foldl (fun s e=>bif Region.binds .any e then s|||2^e.on|||acc.getD e.on 0 else s) s).testBit j=true→
  s.testBit j=true∨ ∃e∈es,Region.binds .any e=true∧(e.on=j∨(acc.getD e.on 0).testBit j=true):=by
 intro es
 induction es with
 |nil=>intro s h;exact .inl h
 |cons e es ih=>
  intro s h
  simp only [List.foldl_cons] at h
  rcases ih _ h with h1|⟨e',he',h1⟩
  ·cases hb:Region.binds .any e with
   |false=>rw [hb] at h1;exact .inl h1
   |true=>
    rw [hb] at h1
    simp only [cond_true,Nat.testBit_or,Bool.or_eq_true,Nat.testBit_two_pow,decide_eq_true_eq] at h1
    rcases h1 with (h1|h1)|h1
    ·exact .inl h1
    ·exact .inr ⟨e,by simp,hb,.inl h1⟩
    ·exact .inr ⟨e,by simp,hb,.inr h1⟩
  ·exact .inr ⟨e',by simp [he'],h1⟩
theorem uE: ∀ (l:List Oper) (n k:Nat) (o:Oper),fm n l=true→l[k]? =some o→ ∀e∈o.after.toList,Region.binds .any e=true→e.on<n+k:=by
 intro l
 induction l with
 |nil=>intro n k o _ h;simp at h
 |cons o' l ih=>
  intro n k o hf h e he hb
  simp only [fm,Bool.and_eq_true,List.all_eq_true] at hf
  cases k with
  |zero=>
   simp at h;subst h
   have:=hf.1 e he
   simp [hb] at this
   simpa using this
  |succ k=>
   have:=ih (n+1) k o hf.2 (by simpa using h) e he hb
   omega
def sN (ops:Array Oper) (L:Nat→Prop):Prop:= ∀ (k:Nat) (o:Oper),L k→ops[k]? =some o→ ∀e∈o.after.toList,Region.binds .any e=true→L e.on
theorem BE (hf:fm 0 ops.toList=true) {L:Nat→Prop} (hL:sN ops L) {j:Nat}: ∀ (n k:Nat),k<n→ ∀o,ops[k]? =some o→(∀e∈o.after.toList,Region.binds .any e=true→L e.on)→
  ((cJ ops.toList []).getD k 0).testBit j=true→L j:=by
 intro n
 induction n with
 |zero=>intro k hk;omega
 |succ n ih=>
  intro k hk o ho hdir hb
  have hm:=JO ops.toList [] k o (by simpa using ho)
  simp only [List.length_nil,Nat.zero_add] at hm
  rw [List.getD_eq_getElem?_getD,hm,Option.getD_some] at hb
  unfold jZ at hb
  rcases Mf _ _ _ _ hb with h|⟨e,he,hbe,h⟩
  ·simp at h
  ·have hlt:=uE _ 0 k o hf (by simpa using ho) e he hbe
   rw [Nat.zero_add] at hlt
   rcases h with h|h
   ·exact h▸hdir e he hbe
   ·have hLe:=hdir e he hbe
    rw [List.getD_eq_getElem?_getD,List.getElem?_take_of_lt hlt,←List.getD_eq_getElem?_getD] at h
    have hon:e.on<ops.size:=by have:=(Array.getElem?_eq_some_iff.1 ho).1;omega
    exact ih e.on (by omega) _ (Array.getElem?_eq_getElem hon) (fun e' he' hb'=>hL _ _ hLe (Array.getElem?_eq_getElem hon) e' he' hb') h
theorem Se: ∀ (l:List Oper) (i:Nat) (σ σ':St U) (fps:List (List Loc)),ops.toList.drop i=l→jp K V S ops.toList l σ fps .normal σ'→fps.length=l.length∧SeqRel V K S ops ((List.range' i l.length).zip fps) σ σ':=by
 intro l
 induction l with
 |nil=>
  intro i σ σ' fps _ h
  obtain ⟨h1,_,h3⟩:=h
  subst h1;subst h3
  exact ⟨rfl,St.eqv.refl _⟩
 |cons o l ih=>
  intro i σ σ' fps hd h
  have hi:ops[i]? =some o:=by
   have:=congrArg (·[0]?) hd
   simpa using this
  have hd':ops.toList.drop (i+1)=l:=by rw [←List.drop_drop,hd];rfl
  rcases h with ⟨σ1,f,fps',h1,h2,h3⟩|⟨v,f,_,h2,_⟩
  ·subst h3
   obtain ⟨h4,h5⟩:=ih (i+1) σ1 σ' fps' hd' h2
   exact ⟨by simp [h4],o,σ1,hi,h1,h5⟩
  ·cases h2
theorem zX (before:List Nat): ∀ (fs:List (List Loc)) (j:Nat) (done:List (List Loc)),j=done.length→iz before j done fs=true→ ∀ (p q:Nat) (f g:List Loc),p<q→(done++fs)[p]? =some f→(done++fs)[q]? =some g→done.length≤q→
  (before.getD q 0).testBit p=true∨cH f g=true:=by
 intro fs
 induction fs with
 |nil=>
  intro j done _ _ p q f g _ _ hq hle
  rw [List.append_nil] at hq
  have:=(List.getElem?_eq_some_iff.1 hq).1
  omega
 |cons h fs ih=>
  intro j done hj hf p q f g hpq hp hq hle
  simp only [iz,Bool.and_eq_true,List.all_eq_true] at hf
  by_cases hqd:q=done.length
  ·subst hqd
   rw [List.getElem?_append_left hpq] at hp
   rw [List.getElem?_append_right (Nat.le_refl _)] at hq
   simp at hq
   subst hq
   have hmem:(f,p)∈done.zip (bR 0 done.length):=by
    have hn: ∀ (n s k:Nat),k<n→(bR s n)[k]? =some (s+k):=by
     intro n
     induction n with
     |zero=>intro s k hk;omega
     |succ n ihn=>
      intro s k hk
      cases k with
      |zero=>simp [bR]
      |succ k=>simp only [bR,List.getElem?_cons_succ];rw [ihn (s+1) k (by omega)];congr 1;omega
    have hpl:p<done.length:=hpq
    have h1:=hn done.length 0 p hpl
    rw [Nat.zero_add] at h1
    exact List.mem_of_getElem? (i:=p) (by rw [List.getElem?_zip_eq_some];exact ⟨hp,h1⟩)
   have:=hf.1 _ hmem
   simp only [Bool.or_eq_true] at this
   rw [hj] at this
   exact this
  ·have:=ih (j+1) (done++[h]) (by simp [hj]) hf.2 p q f g hpq (by simpa using hp) (by simpa using hq) (by simp;omega)
   exact this
structure Left (ops:Array Oper) (fps:List (List Loc)) (listed:Array Bool) (rem:List (Nat×List Loc)):Prop where
 size:listed.size=ops.size
 fst:rem.map (·.1)=(List.range ops.size).filter fun i=> !listed.getD i true
 fp: ∀x∈rem,fps[x.1]? =some x.2
 closed:sN ops fun i=>listed.getD i false=true
theorem L9 {n i:Nat} {listed:Array Bool} (hi:i<listed.size): ∀ (l:List Nat),(l.filter fun j=> !(listed.setIfInBounds i true).getD j true)=(l.filter fun j=> !listed.getD j true).filter (fun j=>j !=i):=by
 intro l
 rw [List.filter_filter]
 congr 1
 funext j
 by_cases hj:i=j
 ·subst hj
  simp [Array.getD_eq_getD_getElem?,hi]
 ·have:(listed.setIfInBounds i true).getD j true=listed.getD j true:=by
   simp [Array.getD_eq_getD_getElem?,hj]
  rw [this]
  have h2:(j !=i)=true:=by simp;exact fun e=>hj e.symm
  simp [h2]
theorem TH (hS:jo X K S c) (hall:ops.toList.all (aU c.nt)=true) {fps:List (List Loc)} (hfor:fm 0 ops.toList=true) (hfree:iz (cJ ops.toList []) 0 [] fps=true) {σ':St U} {ds:List Deferred} (hl:Lands X c ds .normal σ' Q):
  ∀ (fuel:Nat) (listed:Array Bool) (rem:List (Nat×List Loc)) (a:Act) (w:World) (σ:St U) (g:Gh U) (D:Nat→Option Nat),rem.length=fuel→Left ops fps listed rem→a.defers=ds→Sim X c a.tmps w σ g D→SeqRel V K S ops rem σ σ'→
  wpAny P .any ops Q fuel listed a w:=by
 intro fuel
 have sub: ∀ (listed:Array Bool) (rem:List (Nat×List Loc)),Left ops fps listed rem→ ∀i,i∈Region.ready .any ops listed→ ∃f,(i,f)∈rem∧ ∃o,ops[i]? =some o∧ ∀e∈o.after.toList,Region.binds .any e=true→listed.getD e.on false=true:=by
  intro listed rem hL i hi
  simp only [Region.ready,List.mem_filter,List.mem_range,Bool.and_eq_true] at hi
  have hm:i∈rem.map (·.1):=by rw [hL.fst];exact List.mem_filter.2 ⟨List.mem_range.2 hi.1,hi.2.1⟩
  obtain ⟨x,hx,hx1⟩:=List.mem_map.1 hm
  obtain ⟨j,f⟩:=x
  simp only at hx1
  subst hx1
  refine ⟨f,hx,ops[j],Array.getElem?_eq_getElem hi.1,fun e he hb=> ?_⟩
  have h2:=hi.2.2
  rw [Array.getElem?_eq_getElem hi.1] at h2
  simp only [Option.map_some,Option.getD_some] at h2
  have:=Array.all_eq_true_iff_forall_mem.1 h2 e (Array.mem_toList_iff.1 he)
  simpa [hb] using this
 induction fuel with
 |zero=>
  intro listed rem a w σ g D hlen hL hds h hseq
  have:rem=[]:=List.eq_nil_of_length_eq_zero hlen
  subst this
  refine ⟨?_,hl a w g D hds (h.eqv hseq)⟩
  cases hr:Region.ready .any ops listed with
  |nil=>rfl
  |cons i r=>
   obtain ⟨f,hf,_⟩:=sub listed [] hL i (by rw [hr];simp)
   cases hf
 |succ fuel ih=>
  intro listed rem a w σ g D hlen hL hds h hseq
  refine ⟨fun hr=> ?_,fun i hi=> ?_⟩
  ·
   exfalso
   cases rem with
   |nil=>simp at hlen
   |cons x rest=>
    obtain ⟨i,f⟩:=x
    have hm:i∈(List.range ops.size).filter fun i=> !listed.getD i true:=by rw [←hL.fst];simp
    simp only [List.mem_filter,List.mem_range] at hm
    have hmin: ∀j,j<i→listed.getD j false=true:=by
     intro j hj
     have hjn:j<ops.size:=by omega
     cases hlj:listed.getD j true with
     |true=>
      have hjs:j<listed.size:=by rw [hL.size];exact hjn
      simp [Array.getD_eq_getD_getElem?,hjs] at hlj ⊢
      exact hlj
     |false=>
      exfalso
      have hjm:j∈(List.range ops.size).filter fun i=> !listed.getD i true:=List.mem_filter.2 ⟨List.mem_range.2 hjn,by rw [hlj];rfl⟩
      have hsorted:((List.range ops.size).filter fun i=> !listed.getD i true).Pairwise (· < ·):=(List.pairwise_lt_range).filter _
      rw [←hL.fst] at hjm hsorted
      simp only [List.map_cons,List.mem_cons,List.pairwise_cons] at hjm hsorted
      rcases hjm with e|hjm
      ·omega
      ·have:=hsorted.1 j hjm;omega
    have hin:i∈Region.ready .any ops listed:=by
     simp only [Region.ready,List.mem_filter,List.mem_range,Bool.and_eq_true]
     refine ⟨hm.1,hm.2, ?_⟩
     rw [Array.getElem?_eq_getElem hm.1]
     simp only [Option.map_some,Option.getD_some]
     refine Array.all_eq_true_iff_forall_mem.2 fun e he=> ?_
     cases hb:Region.binds .any e with
     |false=>rfl
     |true=>
      have:=uE ops.toList 0 i _ hfor (by simp [hm.1]) e (Array.mem_toList_iff.2 he) hb
      simp only [Bool.not_true,Bool.false_or]
      exact hmin _ (by omega)
    rw [hr] at hin
    cases hin
  ·obtain ⟨f,hf,o,ho,hdir⟩:=sub listed rem hL i hi
   obtain ⟨pre,post,hpp⟩:=List.append_of_mem hf
   subst hpp
   have hsorted:((List.range ops.size).filter fun i=> !listed.getD i true).Pairwise (· < ·):=(List.pairwise_lt_range).filter _
   rw [←hL.fst] at hsorted
   have hpre: ∀x∈pre,cH x.2 f=true:=by
    intro x hx
    have hlt:x.1<i:=by
     rw [List.map_append,List.pairwise_append] at hsorted
     exact hsorted.2.2 x.1 (List.mem_map_of_mem hx) i (by simp)
    have h1:=hL.fp x (by simp [hx])
    have h2:=hL.fp (i,f) (by simp)
    rcases zX _ fps 0 [] rfl hfree x.1 i x.2 f hlt (by simpa using h1) (by simpa using h2) (by simp) with hb|hb
    ·exfalso
     have hin:=BE hfor hL.closed (i+1) i (Nat.lt_succ_self i) o ho hdir hb
     have hmem:x.1∈(List.range ops.size).filter fun i=> !listed.getD i true:=by rw [←hL.fst];simp;exact .inl ⟨x.2,hx⟩
     simp only [List.mem_filter,List.mem_range] at hmem
     have hs:x.1<listed.size:=by rw [hL.size];exact hmem.1
     simp [Array.getD_eq_getD_getElem?,hs] at hin hmem
     rw [hin] at hmem
     simp at hmem
    ·exact hb
   obtain ⟨o',σ1,ho',h1,h2⟩:=hseq.front pre hpre
   rw [ho] at ho'
   injection ho' with ho'
   subst ho'
   have hi':i<listed.size:=by rw [hL.size];exact (Array.getElem?_eq_some_iff.1 ho).1
   have hdo:aU c.nt o=true:=List.all_eq_true.1 hall o (Array.mem_toList_iff.2 (Array.mem_of_getElem? ho))
   unfold wpOp
   rw [ho]
   refine nM hS hdo h h1 ⟨fun _ a' w' g' D' hdf hs=>ih (listed.setIfInBounds i true) (pre++post) a' w' σ1 g' D' (by simp at hlen ⊢;omega) ⟨by simp [hL.size], ?_,fun x hx=>hL.fp x (by simp at hx ⊢;rcases hx with h|h<;>simp [h]),fun k o' hk ho' e he hb=> ?_⟩ (hdf.trans hds) hs h2,(fun v hv=>by cases hv)⟩
   ·rw [L9 hi' (n:=0),←hL.fst]
    have hne: ∀x∈pre++post,x.1≠i:=by
     intro x hx
     rw [List.map_append,List.map_cons] at hsorted
     have hnd:(pre.map (·.1)++i::post.map (·.1)).Nodup:=hsorted.imp (fun h=>Nat.ne_of_lt h)
     intro e
     have hx':i∈pre.map (·.1)++post.map (·.1):=by rw [←List.map_append,←e];exact List.mem_map_of_mem hx
     obtain ⟨_,n2,n3⟩:=List.nodup_append.1 hnd
     rcases List.mem_append.1 hx' with h|h
     ·exact n3 i h i (by simp) rfl
     ·exact (List.nodup_cons.1 n2).1 h
    simp only [List.map_append,List.map_cons,List.filter_append]
    rw [List.filter_cons_of_neg (by simp)]
    rw [←List.filter_append,←List.map_append,List.filter_eq_self.2]
    intro j hj
    obtain ⟨x,hx,rfl⟩:=List.mem_map.1 hj
    simp [hne x hx]
   ·by_cases hki:k=i
    ·subst hki
     rw [ho] at ho'
     injection ho' with ho'
     subst ho'
     have:=hdir e he hb
     by_cases hei:k=e.on
     ·rw [←hei];simp [Array.getD_eq_getD_getElem?,hi']
     ·simpa [Array.getD_eq_getD_getElem?,hei] using this
    ·have hk':listed.getD k false=true:=by
      simpa [Array.getD_eq_getD_getElem?,Ne.symm hki] using hk
     have:=hL.closed k o' hk' ho' e he hb
     by_cases hei:i=e.on
     ·rw [←hei];simp [Array.getD_eq_getD_getElem?,hi']
     ·simpa [Array.getD_eq_getD_getElem?,hei] using this
theorem Sf: ∀ (l:List Oper) (i:Nat) (σ σ':St U) (fps:List (List Loc)) (v:PV U),ops.toList.drop i=l→jp K V S ops.toList l σ fps (.panic v) σ'→
  ∃fs f o σ1,fps=fs++[f]∧ops[i+fs.length]? =some o∧SeqRel V K S ops ((List.range' i fs.length).zip fs) σ σ1∧(gg V S o (eS ops.toList)).Rel K σ1 [] (.raise v) σ' f:=by
 intro l
 induction l with
 |nil=>intro i σ σ' fps v _ h;obtain ⟨_,h2,_⟩:=h;cases h2
 |cons o l ih=>
  intro i σ σ' fps v hd h
  have hi:ops[i]? =some o:=by
   have:=congrArg (·[0]?) hd
   simpa using this
  have hd':ops.toList.drop (i+1)=l:=by rw [←List.drop_drop,hd];rfl
  rcases h with ⟨σ1,f,fps',h1,h2,h3⟩|⟨v',f,h1,h2,h3⟩
  ·subst h3
   obtain ⟨fs,f',o',σ2,h4,h5,h6,h7⟩:=ih (i+1) σ1 σ' fps' v hd' h2
   subst h4
   refine ⟨f::fs,f',o',σ2,rfl, ?_,⟨o,σ1,hi,h1,h6⟩,h7⟩
   rw [List.length_cons,show i+(fs.length+1)=i+1+fs.length by omega];exact h5
  ·injection h2 with h2
   subst h2
   exact ⟨[],f,o,σ,h3,by simpa using hi,St.eqv.refl _,h1⟩
def SeqR (V:Env U) (K:bJ U) (S:Side U) (ops:Array Oper):List (Nat×List Loc×MR U)→St U→St U→Prop
 |[],σ,σ'=>σ.eqv σ'
 |(i,f,r)::l,σ,σ'=> ∃o σ1,ops[i]? =some o∧(gg V S o (eS ops.toList)).Rel K σ [] r σ1 f∧SeqR V K S ops l σ1 σ'
theorem SeqR.pre {l:List (Nat×List Loc×MR U)}: ∀ {σ0 σ σ':St U},SeqR V K S ops l σ σ'→σ.eqv σ0→SeqR V K S ops l σ0 σ':=by
 induction l with
 |nil=>intro σ0 σ σ' h he;exact he.symm.trans h
 |cons x l ih=>
  obtain ⟨i,f,r⟩:=x
  intro σ0 σ σ' h he
  obtain ⟨o,σ1,ho,h1,h2⟩:=h
  obtain ⟨τ,h3,h4⟩:=h1.eqv K he
  exact ⟨o,τ,ho,h3,ih h2 h4⟩
theorem SeqR.append {l l':List (Nat×List Loc×MR U)}: ∀ {σ σ1 σ':St U},SeqR V K S ops l σ σ1→SeqR V K S ops l' σ1 σ'→SeqR V K S ops (l++l') σ σ':=by
 induction l with
 |nil=>intro σ σ1 σ' h h';exact h'.pre (St.eqv.symm h)
 |cons x l ih=>
  obtain ⟨i,f,r⟩:=x
  intro σ σ1 σ' h h'
  obtain ⟨o,σ2,ho,h1,h2⟩:=h
  exact ⟨o,σ2,ho,h1,ih h2 h'⟩
theorem SeqR.ofSeq: ∀ {l:List (Nat×List Loc)} {σ σ':St U},SeqRel V K S ops l σ σ'→SeqR V K S ops (l.map fun x=>(x.1,x.2,.done)) σ σ':=by
 intro l
 induction l with
 |nil=>intro σ σ' h;exact h
 |cons x l ih=>
  obtain ⟨i,f⟩:=x
  intro σ σ' h
  obtain ⟨o,σ1,ho,h1,h2⟩:=h
  exact ⟨o,σ1,ho,h1,ih h2⟩
theorem SeqR.front {i:Nat} {f:List Loc} {r:MR U} {post:List (Nat×List Loc×MR U)}: ∀ (pre:List (Nat×List Loc×MR U)) {σ σ':St U},SeqR V K S ops (pre++(i,f,r)::post) σ σ'→(∀x∈pre,cH x.2.1 f=true)→
  SeqR V K S ops ((i,f,r)::(pre++post)) σ σ':=by
 intro pre
 induction pre with
 |nil=>intro σ σ' h _;exact h
 |cons x pre ih=>
  obtain ⟨j,g,q⟩:=x
  intro σ σ' h ha
  obtain ⟨o,σ1,ho,h1,h2⟩:=h
  obtain ⟨o',σ2,ho',h3,h4⟩:=ih h2 (fun x hx=>ha x (by simp [hx]))
  obtain ⟨τ1,τ2,h5,h6,h7⟩:=Rel.swap K h1 h3 (ha (j,g,q) (by simp))
  exact ⟨o',τ1,ho',h5,o,τ2,ho,h6,h4.pre h7⟩
structure Alike (σ0 σ σ':St U):Prop where
 b: ∀id,(σ0.b id).isSome=true→σ'.b id=σ.b id
 o: ∀i,σ'.o i=σ.o i
 u: ∀i,σ'.u i=σ.u i
theorem SeqR.harmless {σ0:St U}: ∀ (l:List (Nat×List Loc×MR U)) {σ σ1:St U},SeqR V K S ops l σ σ1→(∀x∈l,PI.harmless σ0 x.2.1=true)→Alike σ0 σ σ1:=by
 intro l
 induction l with
 |nil=>intro σ σ1 h _;exact ⟨fun id _=>(h.b id).symm,fun i=>(h.o i).symm,fun i=>(h.u i).symm⟩
 |cons x l ih=>
  obtain ⟨j,g,q⟩:=x
  intro σ σ1 h ha
  obtain ⟨o,σa,ho,h1,h2⟩:=h
  obtain ⟨g',hg,l1⟩:=h1.loc K
  simp at hg
  subst hg
  have hg:=ha (j,g,q) (by simp)
  have hst: ∀k,(∀n,k≠ .r n)→(∀id,k= .b id→(σ0.b id).isSome=true)→σa.at_ k=σ.at_ k:=by
   intro k hk hb
   refine l1.stay k fun l hl hw e=> ?_
   have:=List.all_eq_true.1 hg l hl
   cases l with
   |wr n=>exact hk _ e.symm
   |wb id=>
    have h3:=hb id e.symm
    simp only [Option.isNone_iff_eq_none] at this
    rw [this] at h3;cases h3
   |wo n=>exact Bool.noConfusion this
   |wu n=>exact Bool.noConfusion this
   |fu n=>exact Bool.noConfusion this
   |_=>exact Bool.noConfusion hw
  have a:=ih h2 fun x hx=>ha x (by simp [hx])
  refine ⟨fun id hid=>(a.b id hid).trans ?_,fun i=>(a.o i).trans ?_,fun i=>(a.u i).trans ?_⟩
  ·have:=hst (.b id) (by simp) (by intro id' e;injection e with e;subst e;exact hid)
   simpa [St.at_] using this
  ·have:=hst (.o i) (by simp) (by intro id' e;cases e)
   simpa [St.at_] using this
  ·have:=hst (.u i) (by simp) (by intro id' e;cases e)
   simpa [St.at_] using this
theorem JA {p:Nat→Bool}: ∀ (n s:Nat),(bR s n).all p=true→ ∀i,s≤i→i<s+n→p i=true:=by
 intro n
 induction n with
 |zero=>intro s _ i h1 h2;omega
 |succ n ih=>
  intro s h i h1 h2
  simp only [bR,List.all_cons,Bool.and_eq_true] at h
  by_cases he:i=s
  ·subst he;exact h.1
  ·exact ih (s+1) h.2 i (by omega) (by omega)
structure Raises (ops:Array Oper) (σ0:St U) (L:List (Nat×List Loc×MR U)) (j:Nat) (v:PV U):Prop where
 nodup:(L.map (·.1)).Nodup
 lt: ∀x∈L,x.1<ops.size
 order:L.Pairwise fun x y=>((cJ ops.toList []).getD y.1 0).testBit x.1=true∨cH x.2.1 y.2.1=true
 first: ∀pre x post,L=pre++x::post→ ∀o,ops[x.1]? =some o→ ∀e∈o.after.toList,Region.binds .any e=true→e.on∈pre.map (·.1)
 done: ∀x∈L,x.1≠j→x.2.2= .done
 raise: ∀x∈L,x.1=j→x.2.2= .raise v
 harm: ∀x∈L,x.1≠j→((cJ ops.toList []).getD j 0).testBit x.1=true∨PI.harmless σ0 x.2.1=true
 after: ∀i,i<ops.size→i∉L.map (·.1)→((cJ ops.toList []).getD i 0).testBit j=true
theorem TI (hS:jo X K S c) (hall:ops.toList.all (aU c.nt)=true) (hfor:fm 0 ops.toList=true) {σ0 σe:St U} {L:List (Nat×List Loc×MR U)} {j:Nat} {v:PV U} (hR:Raises ops σ0 L j v) {ds:List Deferred}
  (hl: ∀a' w' g' D' τ,a'.defers=ds→Sim X c a'.tmps w' τ g' D'→Alike σ0 τ σe→ ∀val,Rep X w' (c.N g' D') g' val v→Q (.panic [{v:=val,recovered:=false}]) a' w'):
  ∀ (m:Nat) (listed:Array Bool) (rem:List (Nat×List Loc×MR U)) (a:Act) (w:World) (σ:St U) (g:Gh U) (D:Nat→Option Nat),rem.length=m→listed.size=ops.size→rem=L.filter (fun x=> !listed.getD x.1 true)→
   (∀i,i<ops.size→i∉L.map (·.1)→listed.getD i false=false)→listed.getD j false=false→j∈L.map (·.1)→sN ops (fun i=>listed.getD i false=true)→a.defers=ds→Sim X c a.tmps w σ g D→SeqR V K S ops rem σ σe→
   wpAny P .any ops Q (m+(ops.size-L.length)) listed a w:=by
 have unl: ∀ {listed:Array Bool} {i:Nat},i<listed.size→listed.getD i true=listed.getD i false:=by
  intro listed i hi;simp [Array.getD_eq_getD_getElem?,hi]
 have hfj: ∀ {listed:Array Bool} {i:Nat},i<ops.size→listed.size=ops.size→i∈Region.ready .any ops listed→listed.getD i true=false∧ ∃o,ops[i]? =some o∧ ∀e∈o.after.toList,Region.binds .any e=true→listed.getD e.on false=true:=by
  intro listed i hi _ hin
  simp only [Region.ready,List.mem_filter,List.mem_range,Bool.and_eq_true] at hin
  refine ⟨by simpa using hin.2.1,ops[i],Array.getElem?_eq_getElem hi,fun e he hb=> ?_⟩
  have h2:=hin.2.2
  rw [Array.getElem?_eq_getElem hi] at h2
  simp only [Option.map_some,Option.getD_some] at h2
  have:=Array.all_eq_true_iff_forall_mem.1 h2 e (Array.mem_toList_iff.1 he)
  simpa [hb] using this
 intro m
 induction m with
 |zero=>
  intro listed rem a w σ g D hlen hsz hrem hge hj hjL hcl hds h hseq
  exfalso
  have hnil:rem=[]:=List.eq_nil_of_length_eq_zero hlen
  obtain ⟨x,hx,hxj⟩:=List.mem_map.1 hjL
  have:x∈rem:=by rw [hrem];exact List.mem_filter.2 ⟨hx,by rw [hxj,unl (by rw [hsz,←hxj];exact hR.lt x hx),hj];rfl⟩
  rw [hnil] at this;cases this
 |succ m ih=>
  intro listed rem a w σ g D hlen hsz hrem hge hj hjL hcl hds h hseq
  rw [show m+1+(ops.size-L.length)=(m+(ops.size-L.length))+1 by omega]
  have hmem: ∀x∈rem,x∈L∧listed.getD x.1 false=false:=by
   intro x hx
   rw [hrem] at hx
   obtain ⟨h1,h2⟩:=List.mem_filter.1 hx
   refine ⟨h1, ?_⟩
   rw [unl (by rw [hsz];exact hR.lt x h1)] at h2
   simpa using h2
  refine ⟨fun hr=> ?_,fun i hi=> ?_⟩
  ·exfalso
   cases hrm:rem with
   |nil=>rw [hrm] at hlen;simp at hlen
   |cons x rest=>
    have hxm:=hmem x (by rw [hrm];simp)
    have hxlt:=hR.lt x hxm.1
    obtain ⟨pre,post,hpp⟩:=List.append_of_mem hxm.1
    have hpre: ∀y∈pre,listed.getD y.1 false=true:=by
     intro y hy
     cases hly:listed.getD y.1 false with
     |true=>rfl
     |false=>
      exfalso
      have hyL:y∈L:=by rw [hpp];simp [hy]
      have hyr:(!listed.getD y.1 true)=true:=by rw [unl (by rw [hsz];exact hR.lt y hyL),hly];rfl
      rw [hpp,List.filter_append] at hrem
      have hne:pre.filter (fun x=> !listed.getD x.1 true)≠[]:=fun e=>by
       have:y∈pre.filter (fun x=> !listed.getD x.1 true):=List.mem_filter.2 ⟨hy,hyr⟩
       rw [e] at this;cases this
      obtain ⟨z,zs,hz⟩:=List.exists_cons_of_ne_nil hne
      rw [hz,hrm] at hrem
      injection hrem with e1 e2
      subst e1
      have hxp:x∈pre:=by
       have:x∈pre.filter (fun x=> !listed.getD x.1 true):=by rw [hz];simp
       exact (List.mem_filter.1 this).1
      have hnd:=hR.nodup
      rw [hpp,List.map_append,List.map_cons] at hnd
      exact (List.nodup_append.1 hnd).2.2 x.1 (List.mem_map_of_mem hxp) x.1 (by simp) rfl
    have hin:x.1∈Region.ready .any ops listed:=by
     simp only [Region.ready,List.mem_filter,List.mem_range,Bool.and_eq_true]
     refine ⟨hxlt,by rw [unl (by rw [hsz];exact hxlt),hxm.2];rfl, ?_⟩
     rw [Array.getElem?_eq_getElem hxlt]
     simp only [Option.map_some,Option.getD_some]
     refine Array.all_eq_true_iff_forall_mem.2 fun e he=> ?_
     cases hb:Region.binds .any e with
     |false=>rfl
     |true=>
      have:=hR.first pre x post hpp _ (Array.getElem?_eq_getElem hxlt) e (Array.mem_toList_iff.2 he) hb
      obtain ⟨y,hy,hye⟩:=List.mem_map.1 this
      simp only [Bool.not_true,Bool.false_or]
      rw [←hye];exact hpre y hy
    rw [hr] at hin;cases hin
  ·have his:i<ops.size:=by simp only [Region.ready,List.mem_filter,List.mem_range] at hi;exact hi.1
   obtain ⟨h1,o,ho,hdir⟩:=hfj his hsz hi
   rw [unl (by omega)] at h1
   have hmask: ∀p,((cJ ops.toList []).getD i 0).testBit p=true→listed.getD p false=true:=fun p hp=>BE hfor hcl (i+1) i (Nat.lt_succ_self i) o ho hdir hp
   have hdo:aU c.nt o=true:=List.all_eq_true.1 hall o (Array.mem_toList_iff.2 (Array.mem_of_getElem? ho))
   by_cases hiL:i∈L.map (·.1)
   ·obtain ⟨x,hxL,hxi⟩:=List.mem_map.1 hiL
    have hxr:x∈rem:=by rw [hrem];exact List.mem_filter.2 ⟨hxL,by rw [hxi,unl (by omega),h1];rfl⟩
    obtain ⟨pre,post,hpp⟩:=List.append_of_mem hxr
    have hord:rem.Pairwise fun x y=>((cJ ops.toList []).getD y.1 0).testBit x.1=true∨cH x.2.1 y.2.1=true:=by rw [hrem];exact hR.order.filter _
    have hnd:(rem.map (·.1)).Nodup:=by
     rw [hrem]
     exact hR.nodup.sublist ((List.filter_sublist).map _)
    have hpre: ∀y∈pre,cH y.2.1 x.2.1=true:=by
     intro y hy
     rw [hpp,List.pairwise_append] at hord
     rcases hord.2.2 y hy x (by simp) with hb|hb
     ·exfalso
      rw [hxi] at hb
      have:=hmask y.1 hb
      rw [(hmem y (by rw [hpp];simp [hy])).2] at this;cases this
     ·exact hb
    rw [hpp] at hseq
    obtain ⟨xi,xf,xr⟩:=x
    simp only at hxi
    subst hxi
    obtain ⟨o',σa,ho',h2,h3⟩:=hseq.front pre hpre
    rw [ho] at ho'
    injection ho' with ho'
    subst ho'
    by_cases hij:xi=j
    ·subst hij
     have hrr:=hR.raise _ hxL rfl
     simp only at hrr
     subst hrr
     have hro: ∀y∈pre++post,PI.harmless σ0 y.2.1=true:=by
      intro y hy
      have hyr:y∈rem:=by rw [hpp];simp at hy ⊢;rcases hy with h|h<;>simp [h]
      obtain ⟨hyL,hyl⟩:=hmem y hyr
      have hne:y.1≠xi:=by
       intro e
       rw [hpp,List.map_append,List.map_cons] at hnd
       obtain ⟨_,n2,n3⟩:=List.nodup_append.1 hnd
       rcases List.mem_append.1 hy with hy|hy
       ·exact n3 y.1 (List.mem_map_of_mem hy) y.1 (by simp [e]) rfl
       ·exact (List.nodup_cons.1 n2).1 (e▸List.mem_map_of_mem (f:=(·.1)) hy)
      rcases hR.harm y hyL hne with hb|hb
      ·exfalso
       have:=hmask y.1 hb
       rw [hyl] at this;cases this
      ·exact hb
     unfold wpOp
     rw [ho]
     refine nM hS hdo h h2 ⟨(fun hv=>by cases hv),fun v' hv w' g' D' val hrep hs=> ?_⟩
     injection hv with hv
     subst hv
     exact hl a w' g' D' σa hds hs (SeqR.harmless _ h3 hro) val hrep
    ·have hrr:=hR.done _ hxL hij
     simp only at hrr
     subst hrr
     have hi':xi<listed.size:=by omega
     unfold wpOp
     rw [ho]
     have hset: ∀k,k≠xi→ ∀d,(listed.setIfInBounds xi true).getD k d=listed.getD k d:=by
      intro k hk d
      simp [Array.getD_eq_getD_getElem?,Ne.symm hk]
     refine nM hS hdo h h2 ⟨fun _ a' w' g' D' hdf hs=>ih (listed.setIfInBounds xi true) (pre++post) a' w' σa g' D' (by rw [hpp] at hlen;simp at hlen ⊢;omega) (by simp [hsz]) ?_ (fun k hk hkL=> ?_) (by rw [hset j (Ne.symm hij)];exact hj) hjL (fun k o' hk ho' e he hb=> ?_) (hdf.trans hds) hs h3,(fun v hv=>by cases hv)⟩
     ·have e1:L.filter (fun x=> !(listed.setIfInBounds xi true).getD x.1 true)=rem.filter (fun x=>x.1 !=xi):=by
       rw [hrem,List.filter_filter]
       refine List.filter_congr fun y hy=> ?_
       by_cases hyx:y.1=xi
       ·rw [hyx];simp [Array.getD_eq_getD_getElem?,hi']
       ·rw [hset y.1 hyx];simp [hyx]
      rw [e1,hpp,List.filter_append,List.filter_cons_of_neg (by simp)]
      rw [hpp,List.map_append,List.map_cons] at hnd
      obtain ⟨_,n2,n3⟩:=List.nodup_append.1 hnd
      rw [List.filter_eq_self.2,List.filter_eq_self.2]
      ·intro y hy
       have:y.1≠xi:=fun e=>(List.nodup_cons.1 n2).1 (e▸List.mem_map_of_mem (f:=(·.1)) hy)
       simpa using this
      ·intro y hy
       have:y.1≠xi:=fun e=>n3 y.1 (List.mem_map_of_mem hy) y.1 (by simp [e]) rfl
       simpa using this
     ·have:k≠xi:=fun e=>hkL (e▸hiL)
      rw [hset k this];exact hge k hk hkL
     ·show (listed.setIfInBounds xi true).getD e.on false=true
      have hk2:(listed.setIfInBounds xi true).getD k false=true:=hk
      by_cases hki:k=xi
      ·subst hki
       rw [ho] at ho'
       injection ho' with ho'
       subst ho'
       have:=hdir e he hb
       by_cases hei:k=e.on
       ·rw [←hei];simp [Array.getD_eq_getD_getElem?,hi']
       ·rw [hset _ (Ne.symm hei)];exact this
      ·rw [hset k hki] at hk2
       have:=hcl k o' hk2 ho' e he hb
       by_cases hei:xi=e.on
       ·rw [←hei];simp [Array.getD_eq_getD_getElem?,hi']
       ·rw [hset _ (Ne.symm hei)];exact this
   ·exfalso
    have:=hmask j (hR.after i his hiL)
    rw [hj] at this;cases this
end
end Go.Proofs.YtapmagaejigpnaaGreatDoor.PI
namespace Go.Proofs.YtapmagaejigpnaaGreatDoor.PI
open Go
set_option linter.unusedVariables false
set_option linter.unusedSimpArgs false
section
variable {U:Uni} {V:Env U} {P:Program} {X:Link V P} {K:bJ U} {S:Side U} {c:Ctx} {ops:Array Oper} {σ0 σ1:St U}
theorem np {o:Oper} {y:Tmp×Nat} (h:nn V S σ0 σ1 o=some y): ∃t z,o.op= .alloc t∧o.dst=some y.1∧o.guard=none∧V.zero t=some z∧y.2=S.boxId y.1∧σ0.b y.2=none∧σ1.b y.2=none∧ ∀e∈o.after.toList,Region.binds .any e=false:=by
 unfold nn at h
 split at h
 case h_2=>cases h
 rename_i t d h1 h2 h3
 cases hb:((V.zero t).isSome&&((σ0.b (S.boxId d)).isNone&&((σ1.b (S.boxId d)).isNone&&(o.after.toList.all fun e=> !Region.binds .any e)))) with
 |false=>rw [hb] at h;cases h
 |true=>
 rw [hb] at h
 injection h with h
 subst h
 simp only [Bool.and_eq_true,Option.isNone_iff_eq_none] at hb
 obtain ⟨a,b,c,d'⟩:=hb
 obtain ⟨z,hz⟩:=Option.isSome_iff_exists.1 a
 exact ⟨t,z,h1,h2,h3,hz,rfl,b,c,fun e he=>by have:=List.all_eq_true.1 d' e he;simpa using this⟩
theorem Oq {bf:List Nat} {j:Nat}: ∀ (l:List Oper) (i:Nat) (fps:List (List Loc)) (ll:List (Nat×List Loc)),ops.toList.drop i=l→li V S σ0 σ1 bf j i l fps=some ll→
  (∀x∈ll,i≤x.1∧x.1<ops.size∧ ∃o y,ops[x.1]? =some o∧nn V S σ0 σ1 o=some y∧x.2=ga y)∧(ll.map (·.1)).Pairwise (· < ·)∧(∀x∈ll,∀f∈fps,cH f x.2=true)∧ll.Pairwise (fun x y=>cH x.2 y.2=true)∧
  ∀k,i≤k→k<ops.size→k∉ll.map (·.1)→(bf.getD k 0).testBit j=true:=by
 intro l
 induction l with
 |nil=>
  intro i fps ll hd h
  simp only [li] at h
  injection h with h
  subst h
  refine ⟨by simp,by simp,by simp,by simp,fun k hk hk2 _=> ?_⟩
  exfalso
  have:=congrArg List.length hd
  simp at this;omega
 |cons o l ih=>
  intro i fps ll hd h
  have hi:ops[i]? =some o:=by
   have:=congrArg (·[0]?) hd
   simpa using this
  have his:i<ops.size:=(Array.getElem?_eq_some_iff.1 hi).1
  have hd':ops.toList.drop (i+1)=l:=by rw [←List.drop_drop,hd];rfl
  simp only [li] at h
  cases hb:(bf.getD i 0).testBit j with
  |true=>
   rw [hb] at h
   obtain ⟨a,b,c,d,e⟩:=ih (i+1) fps ll hd' h
   refine ⟨fun x hx=>by obtain ⟨p,q⟩:=a x hx;exact ⟨by omega,q⟩,b,c,d,fun k hk hk2 hkn=> ?_⟩
   by_cases hki:k=i
   ·rw [hki];exact hb
   ·exact e k (by omega) hk2 hkn
  |false=>
   rw [hb] at h
   simp only [cond_false] at h
   split at h
   case h_2=>cases h
   rename_i y hy
   cases hap:fps.all (fun f=>cH f (ga y)) with
   |false=>rw [hap] at h;cases h
   |true=>
   rw [hap] at h
   simp only [cond_true] at h
   split at h
   case h_2=>cases h
   rename_i l' hl'
   injection h with h
   subst h
   obtain ⟨a,b,c,d,e⟩:=ih (i+1) (ga y::fps) l' hd' hl'
   refine ⟨fun x hx=> ?_, ?_,fun x hx f hf=> ?_, ?_,fun k hk hk2 hkn=> ?_⟩
   ·rcases List.mem_cons.1 hx with rfl|hx
    ·exact ⟨Nat.le_refl _,his,o,y,hi,hy,rfl⟩
    ·obtain ⟨p,q⟩:=a x hx;exact ⟨by omega,q⟩
   ·simp only [List.map_cons,List.pairwise_cons]
    refine ⟨fun k hk=> ?_,b⟩
    obtain ⟨x,hx,rfl⟩:=List.mem_map.1 hk
    have:=(a x hx).1
    omega
   ·rcases List.mem_cons.1 hx with rfl|hx
    ·exact List.all_eq_true.1 hap f hf
    ·exact c x hx f (by simp [hf])
   ·simp only [List.pairwise_cons]
    exact ⟨fun x hx=>c x hx _ (by simp),d⟩
   ·simp only [List.map_cons,List.mem_cons,not_or] at hkn
    exact e k (by omega) hk2 hkn.2
theorem Oo: ∀ (ll:List (Nat×List Loc)) (σ:St U),(∀x∈ll,∃o y,ops[x.1]? =some o∧nn V S σ0 σ1 o=some y∧x.2=ga y∧σ.b y.2=none)→ll.Pairwise (fun x y=>cH x.2 y.2=true)→
  ∃σe,SeqR V K S ops (ll.map fun x=>(x.1,x.2,.done)) σ σe:=by
 intro ll
 induction ll with
 |nil=>intro σ _ _;exact ⟨σ,St.eqv.refl _⟩
 |cons x ll ih=>
  intro σ h hp
  obtain ⟨o,y,ho,hy,hx,hb⟩:=h x (by simp)
  obtain ⟨t,z,h1,h2,h3,h4,h5,_⟩:=np hy
  simp only [List.pairwise_cons] at hp
  obtain ⟨σe,he⟩:=ih ((σ.setB y.2 (.cells z)).setR y.1 (.ptr y.2 0)) (fun x' hx'=>by
   obtain ⟨o',y',a,b,c,d⟩:=h x' (by simp [hx'])
   refine ⟨o',y',a,b,c, ?_⟩
   have hne:y.2≠y'.2:=by
    intro e
    have:=hp.1 x' hx'
    rw [hx,c] at this
    simp [cH,ga,Loc.meets,e] at this
   simp [hne,d]) hp.2
  refine ⟨σe,o,_,ho, ?_,he⟩
  unfold gg
  rw [h3]
  simp only
  unfold a_
  rw [h1]
  simp only [h2,h4,←h5,M.Rel,hb]
  exact ⟨trivial,trivial,by rw [hx];rfl⟩
theorem AD {y:Tmp×Nat} (h:σ0.b y.2=none):PI.harmless σ0 (ga y)=true:=by
 simp [PI.harmless,ga,h]
theorem QD {fs:List (List Loc)} {f:List Loc} {o:Oper} {σ σa σ' σ'':St U} {v:PV U} (ho:ops[fs.length]? =some o) (hseq:SeqRel V K S ops ((List.range' 0 fs.length).zip fs) σ σa) (hj:(gg V S o (eS ops.toList)).Rel K σa [] (.raise v) σ' f) (he:σ'.eqv σ'')
  (hf:nZ V S ops.toList σ σ'' (fs++[f])=true): ∃L σe,Raises ops σ L fs.length v∧SeqR V K S ops L σ σe∧Alike σ σ'' σe∧fm 0 ops.toList=true∧fs.length∈L.map (·.1)∧L.length≤ops.size:=by
 unfold nZ at hf
 simp only [Bool.and_eq_true,List.length_append,List.length_singleton,Nat.add_sub_cancel] at hf
 obtain ⟨hfor,hfree,hharm,hlate⟩:=hf
 obtain ⟨ll,hll⟩:=Option.isSome_iff_exists.1 hlate
 obtain ⟨a,b,cc,d,e⟩:=Oq (ops:=ops) _ _ _ ll rfl hll
 have hjs:fs.length<ops.size:=(Array.getElem?_eq_some_iff.1 ho).1
 obtain ⟨σe,hse⟩:=Oo (K:=K) (V:=V) (S:=S) (ops:=ops) (σ0:=σ) (σ1:=σ'') ll σ' (fun x hx=>by
  obtain ⟨_,_,o',y,h1,h2,h3⟩:=a x hx
  obtain ⟨_,_,_,_,_,_,_,_,h4,_⟩:=np h2
  exact ⟨o',y,h1,h2,h3,(he.b _).trans h4⟩) d
 generalize hEx:(List.range' 0 fs.length).zip fs=ex at hseq
 have hex:ex.map (·.1)=List.range' 0 fs.length:=by rw [←hEx];exact List.map_fst_zip (by simp)
 have hexm: ∀x∈ex,x.1<fs.length∧fs[x.1]? =some x.2:=by
  intro x hx
  rw [←hEx] at hx
  obtain ⟨i,hi⟩:=List.mem_iff_getElem?.1 hx
  rw [List.getElem?_zip_eq_some] at hi
  obtain ⟨h1,h2⟩:=hi
  have hil:i<fs.length:=(List.getElem?_eq_some_iff.1 h2).1
  have h3:(List.range' 0 fs.length)[i]? =some i:=by simp [hil]
  rw [h3] at h1
  injection h1 with h1
  rw [←h1];exact ⟨hil,h2⟩
 let L:List (Nat×List Loc×MR U):=(ex.map fun x=>(x.1,x.2,MR.done))++((fs.length,f,MR.raise v)::ll.map fun x=>(x.1,x.2,MR.done))
 have hLm:L.map (·.1)=List.range' 0 (fs.length+1)++ll.map (·.1):=by
  simp only [L,List.map_append,List.map_map,List.map_cons]
  have:(fun x:Nat×List Loc×MR U=>x.1)∘(fun x:Nat×List Loc=>(x.1,x.2,(MR.done:MR U)))=fun x=>x.1:=rfl
  rw [this,hex,List.range'_concat]
  simp
 have hinc:(L.map (·.1)).Pairwise (· < ·):=by
  rw [hLm,List.pairwise_append]
  refine ⟨List.pairwise_lt_range',b,fun x hx y hy=> ?_⟩
  obtain ⟨z,hz,rfl⟩:=List.mem_map.1 hy
  have h1:=(a z hz).1
  have h2:x<fs.length+1:=by
   rw [List.mem_range'] at hx
   obtain ⟨i,hi,rfl⟩:=hx;omega
  omega
 have cases3: ∀x∈L,(∃y∈ex,x=(y.1,y.2,.done))∨x=(fs.length,f,.raise v)∨ ∃y∈ll,x=(y.1,y.2,.done):=by
  intro x hx
  simp only [L,List.mem_append,List.mem_map,List.mem_cons] at hx
  rcases hx with ⟨y,hy,rfl⟩|rfl|⟨y,hy,rfl⟩
  ·exact .inl ⟨y,hy,rfl⟩
  ·exact .inr (.inl rfl)
  ·exact .inr (.inr ⟨y,hy,rfl⟩)
 have hLlt: ∀x∈L,x.1<ops.size:=by
  intro x hx
  rcases cases3 x hx with ⟨y,hy,rfl⟩|rfl|⟨y,hy,rfl⟩
  ·have:=(hexm y hy).1;simp only;omega
  ·exact hjs
  ·exact (a y hy).2.1
 have hfps: ∀x∈ex,x.2∈fs++[f]:=fun x hx=>by
  have:=List.mem_of_getElem? (hexm x hx).2
  simp [this]
 refine ⟨L,σe,⟨hinc.imp Nat.ne_of_lt,hLlt, ?_, ?_, ?_, ?_, ?_, ?_⟩, ?_, ?_,hfor, ?_, ?_⟩
 ·
  simp only [L,List.pairwise_append,List.pairwise_cons]
  have fo: ∀p q g h,p<q→(fs++[f])[p]? =some g→(fs++[f])[q]? =some h→((cJ ops.toList []).getD q 0).testBit p=true∨cH g h=true:=fun p q g h hpq hp hq=>
   zX _ (fs++[f]) 0 [] rfl hfree p q g h hpq (by simpa using hp) (by simpa using hq) (by simp)
  refine ⟨?_,⟨fun y hy=> ?_, ?_⟩,fun x hx y hy=> ?_⟩
  ·have h1:ex.Pairwise fun x y=>x.1<y.1:=by
    have:(ex.map (·.1)).Pairwise (· < ·):=by rw [hex];exact List.pairwise_lt_range'
    exact List.pairwise_map.1 this
   rw [List.pairwise_map]
   refine (List.Pairwise.and_mem.1 h1).imp fun {x y} h=> ?_
   obtain ⟨hx,hy,hlt⟩:=h
   exact fo x.1 y.1 x.2 y.2 hlt (by rw [List.getElem?_append_left (hexm x hx).1];exact (hexm x hx).2) (by rw [List.getElem?_append_left (hexm y hy).1];exact (hexm y hy).2)
  ·obtain ⟨z,hz,rfl⟩:=List.mem_map.1 hy
   exact .inr (cc z hz f (by simp))
  ·rw [List.pairwise_map]
   exact d.imp fun h=> .inr h
  ·obtain ⟨x',hx',rfl⟩:=List.mem_map.1 hx
   rcases List.mem_cons.1 hy with rfl|hy
   ·exact fo x'.1 fs.length x'.2 f (hexm x' hx').1 (by rw [List.getElem?_append_left (hexm x' hx').1];exact (hexm x' hx').2) (by simp)
   ·obtain ⟨z,hz,rfl⟩:=List.mem_map.1 hy
    exact .inr (cc z hz x'.2 (hfps x' hx'))
 ·
  intro pre x post hpp o' ho' ed hed hb
  have hxL:x∈L:=by rw [hpp];simp
  have hk:x.1≤fs.length∨fs.length<x.1:=by omega
  rcases hk with hk|hk
  ·have hlt:=uE ops.toList 0 x.1 _ hfor (by simpa using ho') ed hed hb
   rw [Nat.zero_add] at hlt
   have hin:ed.on∈L.map (·.1):=by
    rw [hLm]
    refine List.mem_append.2 (.inl ?_)
    rw [List.mem_range']
    exact ⟨ed.on,by omega,by omega⟩
   rw [hpp,List.map_append,List.map_cons] at hin hinc
   rcases List.mem_append.1 hin with h|h
   ·exact h
   ·exfalso
    rw [List.pairwise_append,List.pairwise_cons] at hinc
    rcases List.mem_cons.1 h with h|h
    ·omega
    ·have:=hinc.2.1.1 ed.on h;omega
  ·exfalso
   rcases cases3 x hxL with ⟨y,hy,rfl⟩|rfl|⟨y,hy,rfl⟩
   ·have:=(hexm y hy).1;simp only at hk;omega
   ·simp at hk
   ·obtain ⟨_,_,o2,y2,h1,h2,_⟩:=a y hy
    simp only at ho'
    rw [h1] at ho'
    injection ho' with ho'
    subst ho'
    obtain ⟨_,_,_,_,_,_,_,_,_,h3⟩:=np h2
    rw [h3 ed hed] at hb;cases hb
 ·intro x hx hne
  rcases cases3 x hx with ⟨y,hy,rfl⟩|rfl|⟨y,hy,rfl⟩
  ·rfl
  ·exact absurd rfl hne
  ·rfl
 ·intro x hx heq
  rcases cases3 x hx with ⟨y,hy,rfl⟩|rfl|⟨y,hy,rfl⟩
  ·have:=(hexm y hy).1;simp only at heq;omega
  ·rfl
  ·have:=(a y hy).1;simp only at heq;omega
 ·intro x hx hne
  rcases cases3 x hx with ⟨y,hy,rfl⟩|rfl|⟨y,hy,rfl⟩
  ·have:=JA _ _ hharm y.1 (by omega) (by have:=(hexm y hy).1;omega)
   simp only [Bool.or_eq_true] at this
   rcases this with h|h
   ·exact .inl h
   ·refine .inr ?_
    rw [List.getD_eq_getElem?_getD,List.getElem?_append_left (hexm y hy).1,(hexm y hy).2] at h
    exact h
  ·exact absurd rfl hne
  ·obtain ⟨_,_,o2,y2,h1,h2,h3⟩:=a y hy
   obtain ⟨_,_,_,_,_,_,_,h4,_⟩:=np h2
   refine .inr ?_
   simp only [h3]
   exact AD h4
 ·intro i hi hn
  rw [hLm,List.mem_append,not_or] at hn
  refine e i ?_ hi hn.2
  have: ¬i<fs.length+1:=fun h=>hn.1 (by rw [List.mem_range'];exact ⟨i,h,by omega⟩)
  omega
 ·exact SeqR.append (SeqR.ofSeq hseq) ⟨o,σ',ho,hj,hse⟩
 ·have hh:=SeqR.harmless (σ0:=σ) _ hse (fun x hx=>by
   obtain ⟨y,hy,rfl⟩:=List.mem_map.1 hx
   obtain ⟨_,_,o2,y2,h1,h2,h3⟩:=a y hy
   obtain ⟨_,_,_,_,_,_,_,h4,_⟩:=np h2
   simp only [h3]
   exact AD h4)
  exact ⟨fun id hid=>(hh.b id hid).trans (he.b id),fun i=>(hh.o i).trans (he.o i),fun i=>(hh.u i).trans (he.u i)⟩
 ·rw [hLm]
  refine List.mem_append.2 (.inl ?_)
  rw [List.mem_range']
  exact ⟨fs.length,by omega,by omega⟩
 ·have h1:(L.map (·.1)).length≤(List.range ops.size).length:=by
   have hnd:(L.map (·.1)).Nodup:=hinc.imp Nat.ne_of_lt
   refine List.Nodup.length_le_of_subset hnd fun i hi=> ?_
   obtain ⟨x,hx,rfl⟩:=List.mem_map.1 hi
   exact List.mem_range.2 (hLlt x hx)
  simpa using h1
theorem QO {σ τ:St U} (ho:σ.o=τ.o) (hu:σ.u=τ.u) (t:Option (Nat×Bool)) (v:PV U) (K:Kept U):i_ σ t v K=i_ τ t v K:=by
 unfold i_
 rw [ho,hu]
theorem J8 {σ τ:St U} (ho:σ.o=τ.o) (hu:σ.u=τ.u): ∀ (ts:List (Option (Nat×Bool))) (vs:List (PV U)) (K:Kept U),fQ σ ts vs K=fQ τ ts vs K:=by
 intro ts
 induction ts with
 |nil=>intro vs K;cases vs<;>rfl
 |cons t ts ih=>
  intro vs K
  cases vs with
  |nil=>rfl
  |cons v vs=>simp only [fQ,QO ho hu,ih]
theorem J6 {σ τ:St U} (ho:σ.o=τ.o) (hu:σ.u=τ.u): ∀ (l:List (Nat×List (Option (Nat×Bool)))) (K:Kept U),(∀x∈l,σ.b x.1=τ.b x.1)→eh σ l K=eh τ l K:=by
 intro l
 induction l with
 |nil=>intro K _;rfl
 |cons x l ih=>
  obtain ⟨n,ts⟩:=x
  intro K h
  have h1:=h (n,ts) (by simp)
  simp only at h1
  have h2: ∀K,eh σ l K=eh τ l K:=fun K=>ih K fun x hx=>h x (by simp [hx])
  simp only [eh,h1,J8 ho hu,h2]
theorem OV: ∀ (l:List Nat) (n:Nat),n∈kH l→n∈l:=by
 intro l
 induction l with
 |nil=>intro n h;exact h
 |cons m l ih=>
  intro n h
  simp only [kH] at h
  cases hb:l.any (Nat.beq m) with
  |true=>rw [hb] at h;simp [ih n h]
  |false=>
   rw [hb] at h
   rcases List.mem_cons.1 h with rfl|h
   ·simp
   ·simp [ih n h]
theorem ON {α:Type}: ∀ (l:List (Nat×α)) (n:Nat),n∈l.map (·.1)→(bH l n).isSome=true:=by
 intro l
 induction l with
 |nil=>intro n h;cases h
 |cons x l ih=>
  obtain ⟨m,v⟩:=x
  intro n h
  rw [fB]
  by_cases hm:m=n
  ·rw [if_pos hm];rfl
  ·rw [if_neg hm]
   refine ih n ?_
   simp only [List.map_cons,List.mem_cons] at h
   exact h.resolve_left (Ne.symm hm)
theorem yM {σ0 σ τ:St U} (h:Alike σ0 σ τ):cR (fJ σ0 τ) τ=cR (fJ σ0 σ) σ:=by
 have hkeys: ∀id∈kH (σ0.box.map (·.1)),τ.b id=σ.b id:=fun id hid=>h.b id (ON _ _ (OV _ _ hid))
 have hA:fJ σ0 τ=fJ σ0 σ:=by
  unfold fJ
  congr 1
  exact List.map_congr_left fun id hid=>by rw [hkeys id hid]
 rw [hA]
 have hB: ∀K,eh τ (fJ σ0 σ).boxes K=eh σ (fJ σ0 σ).boxes K:=fun K=>J6 (funext h.o) (funext h.u) _ K fun x hx=>by
  obtain ⟨id,hid,rfl⟩:=List.mem_map.1 hx
  exact hkeys id hid
 unfold cR
 simp only [fJ,ko] at hB ⊢
 rw [hB]
end
end Go.Proofs.YtapmagaejigpnaaGreatDoor.PI
namespace Go.Proofs.YtapmagaejigpnaaGreatDoor.PI
open Go
set_option linter.unusedVariables false
set_option linter.unusedSimpArgs false
section
variable {U:Uni} {V:Env U} {P:Program} {X:Link V P} {K:bJ U} {S:Side U} {c:Ctx} {ann:Nat→Option Ann}
theorem Lands.eqv {ds:List Deferred} {e:Ex U} {σ σ':St U} {Q:Exit→Act→World→Prop} (h:Lands X c ds e σ Q) (he:σ'.eqv σ):Lands X c ds e σ' Q:=
 fun a w g D hd hs=>h a w g D hd (hs.eqv he)
def oB (X:Link V P) (c:Ctx):Option Ann→Code→St U→Ex U→St U→Prop
 |none,code,σ,e,σ'=> ∀ (a:Act) (w:World) (g:Gh U) (D:Nat→Option Nat) (Q:Exit→Act→World→Prop),Sim X c a.tmps w σ g D→Lands X c a.defers e σ' Q→code.wp P Q a w
 |some A,code,σ,e,σ'=> ∃n,∀ (a:Act) (w:World) (g:Gh U) (D:Nat→Option Nat) (Q:Exit→Act→World→Prop),Sim X c a.tmps w σ g D→Lands X c a.defers e σ' Q→Code.rounds P code Q n a w
theorem F8 {next:Act→World→Prop} {Q:Exit→Act→World→Prop} {ds:List Deferred} {e:Ex U} {σ':St U} (h:Lands X c ds e σ' Q) (he:e≠ .normal):Lands X c ds e σ' (Exit.then next Q):=by
 intro a w g D hd hs
 have:=h a w g D hd hs
 cases e with
 |normal=>exact absurd rfl he
 |exit id=>exact this
 |ret=>exact this
 |panic v=>exact this
theorem Mw {Q:Exit→Act→World→Prop} {ds:List Deferred} {e:Ex U} {σ':St U} {id:Nat} (h:Lands X c ds e σ' Q) (he:e≠ .exit id):Lands X c ds e σ' (Exit.inBlock id Q):=by
 intro a w g D hd hs
 have:=h a w g D hd hs
 cases e with
 |normal=>exact this
 |exit j=>
  have hj:j≠id:=fun h=>he (by rw [h])
  simp only [Exit.inBlock,hj,if_false]
  exact this
 |ret=>exact this
 |panic v=>exact this
theorem kn (hm:P.follows .mixedOrders=true) (hS:jo X K S c) (hnt:c.nt=S.nt) {o:Option Ann} {code:Code} {σ:St U} {e:Ex U} {σ':St U} (h:Big K V S ann o code σ e σ'):oB X c o code σ e σ':=by
 induction h with
 |skip σ=>exact fun a w g D Q hs hl=>Go.wp_skip (hl a w g D rfl hs)
 |label l σ=>exact fun a w g D Q hs hl=>wp_label (hl a w g D rfl hs)
 |region id ops draw σ e σ' fps hd h hf=>
  intro a w g D Q hs hl
  rw [←hnt] at hd
  cases draw with
  |false=>
   refine wp_region ?_
   rw [List.range_eq_range']
   have:=GG (Q:=Q) hS ops.toList 0 a w σ g D fps (by simp) hd hs h hl
   simpa using this
  |true=>
   obtain ⟨rfl,hfor,hfree⟩:=hf rfl
   refine wp_region_any hm ?_
   obtain ⟨hlen,hseq⟩:=Se ops.toList 0 σ σ' fps (by simp) h
   have hlen':fps.length=ops.size:=by simpa using hlen
   refine TH hS hd hfor hfree hl ops.size _ ((List.range' 0 ops.toList.length).zip fps) a _ σ g D (by simp [hlen']) ⟨by simp, ?_,fun x hx=> ?_,fun k o hk=> ?_⟩ rfl hs.drew hseq
   ·have h1:((List.range' 0 ops.toList.length).zip fps).map (·.1)=List.range' 0 ops.toList.length:=List.map_fst_zip (by simp [hlen'])
    rw [h1,List.filter_eq_self.2,List.range_eq_range']
    ·simp
    ·intro i hi
     have hi':i<ops.size:=List.mem_range.1 hi
     simp [Array.getD_eq_getD_getElem?,hi']
   ·obtain ⟨i,hi⟩:=List.mem_iff_getElem?.1 hx
    rw [List.getElem?_zip_eq_some] at hi
    obtain ⟨h1,h2⟩:=hi
    have hil:i<ops.size:=by have:=(List.getElem?_eq_some_iff.1 h2).1;omega
    have h3:(List.range' 0 ops.toList.length)[i]? =some i:=by simp [hil]
    rw [h3] at h1
    injection h1 with h1
    rw [←h1];exact h2
   ·exfalso
    have:(Array.replicate ops.size false).getD k false=false:=by
     rw [Array.getD_eq_getD_getElem?,Array.getElem?_replicate]
     split<;>rfl
    dsimp only at hk
    rw [this] at hk;cases hk
 |regionP id ops σ v σ' σ'' τ fps hd h he hv hf hc=>
  intro a w g D Q hs hl
  rw [←hnt] at hd
  obtain ⟨fs,f,o,σ1,hfps,ho,hseq,hj⟩:=Sf (ops:=ops) ops.toList 0 σ σ' fps v (by simp) h
  subst hfps
  rw [Nat.zero_add] at ho
  obtain ⟨L,σe,hR,hsq,hal,hfor,hjL,hlen⟩:=QD ho hseq hj he hf
  refine wp_region_any hm ?_
  have hjs:fs.length<ops.size:=(Array.getElem?_eq_some_iff.1 ho).1
  have hrep: ∀i d,(Array.replicate ops.size false).getD i d=(if i<ops.size then false else d):=by
   intro i d
   rw [Array.getD_eq_getD_getElem?,Array.getElem?_replicate]
   split<;>rfl
  have hwp:=TI (v:=v) hS hd hfor hR (ds:=a.defers) (Q:=Q) (fun a' w' g' D' τ' hdf hs' hal' val hval=>by
    have hc2:cR (fJ σ τ') τ'=some τ:=by rw [←yM hal',yM hal];exact hc
    obtain ⟨g2,D2,hs2⟩:=pw hs' hc2
    refine hl a' w' g2 D2 hdf hs2 val ?_
    cases v with
    |iface t p=>
     cases p with
     |int k n=>cases hval with
      |iface _ u _ hu=>cases hu;exact .iface _ _ _ (.int _ _)
     |_=>cases hv
    |_=>cases hv) L.length (Array.replicate ops.size false) L a _ σ g D rfl (by simp) ?_ (fun i hi _=>by rw [hrep,if_pos hi]) (by rw [hrep,if_pos hjs]) hjL (fun k o' hk=> ?_) rfl hs.drew hsq
  ·rw [show L.length+(ops.size-L.length)=ops.size by omega] at hwp
   exact hwp
  ·rw [List.filter_eq_self.2]
   intro x hx
   rw [hrep,if_pos (hR.lt x hx)];rfl
  ·exfalso
   dsimp only at hk
   rw [hrep] at hk
   split at hk<;>cases hk
 |seqN x y σ σ1 e σ' h1 h2 i1 i2=>
  intro a w g D Q hs hl
  exact wp_seq (i1 a w g D _ hs fun a' w' g' D' hd hs'=>i2 a' w' g' D' Q hs' (by rw [hd];exact hl))
 |seqJ x y A σ σ1 τ e σ' h1 hA hc h2 i1 i2=>
  intro a w g D Q hs hl
  refine wp_seq (i1 a w g D _ hs fun a' w' g' D' hd hs'=> ?_)
  obtain ⟨g2,D2,hs2⟩:=pw hs' hc
  exact i2 a' w' g2 D2 Q hs2 (by rw [hd];exact hl)
 |seqE x y σ e σ' h1 he i1=>exact fun a w g D Q hs hl=>wp_seq (i1 a w g D _ hs (F8 hl he))
 |cond j x y σ t e σ' hj h ih=>
  intro a w g D Q hs hl
  have hR:=hs.regs j
  rw [hj] at hR
  refine wp_cond (t:=t) (g0 hR) ?_
  cases t with
  |true=>exact ih a w g D Q hs hl
  |false=>exact ih a w g D Q hs hl
 |blockIn id x σ σ' h ih=>
  intro a w g D Q hs hl
  refine wp_block (ih a w g D _ hs fun a' w' g' D' hd hs'=> ?_)
  simp only [Exit.inBlock,if_true]
  exact hl a' w' g' D' hd hs'
 |blockOut id x σ e σ' h he ih=>exact fun a w g D Q hs hl=>wp_block (ih a w g D _ hs (Mw hl he))
 |loop x A σ τ e σ' hA hc h ih=>
  intro a w g D Q hs hl
  obtain ⟨n,hn⟩:=ih
  obtain ⟨g',D',hs'⟩:=pw hs hc
  exact wp_loop_rounds n (hn a w g' D' Q hs' hl)
 |exit id σ=>exact fun a w g D Q hs hl=>wp_exit (hl a w g D rfl hs)
 |ret σ=>exact fun a w g D Q hs hl=>wp_ret (hl a w g D rfl hs)
 |round x A σ σ1 τ e σ' h hc h' i1 i2=>
  obtain ⟨n,hn⟩:=i2
  refine ⟨n+1,fun a w g D Q hs hl=> ?_⟩
  rw [rounds_succ]
  refine i1 a w g D _ hs fun a' w' g' D' hd hs'=> ?_
  obtain ⟨g2,D2,hs2⟩:=pw hs' hc
  exact hn a' w' g2 D2 Q hs2 (by rw [hd];exact hl)
 |leave x A σ e σ' h he i1=>
  refine ⟨1,fun a w g D Q hs hl=> ?_⟩
  rw [rounds_succ]
  exact i1 a w g D _ hs (F8 hl he)
 |pre o x σ0 σ e σ' he h ih=>
  cases o with
  |none=>exact fun a w g D Q hs hl=>ih a w g D Q (hs.eqv he) hl
  |some A=>obtain ⟨n,hn⟩:=ih;exact ⟨n,fun a w g D Q hs hl=>hn a w g D Q (hs.eqv he) hl⟩
 |post o x σ e σ1 σ' he h ih=>
  cases o with
  |none=>exact fun a w g D Q hs hl=>ih a w g D Q hs (hl.eqv he)
  |some A=>obtain ⟨n,hn⟩:=ih;exact ⟨n,fun a w g D Q hs hl=>hn a w g D Q hs (hl.eqv he)⟩
end
end Go.Proofs.YtapmagaejigpnaaGreatDoor.PI
namespace Go.Proofs.YtapmagaejigpnaaGreatDoor.PI
open Go
set_option linter.unusedVariables false
section
variable {U:Uni} {V:Env U} {P:Program} {X:Link V P} {S:Side U} {c:Ctx}
theorem j4 (hI:g_ X) (hS:S.rcv=none) (hP:PinOK S c):jo X (bS X) S c:=by
 intro o a w σ g D r τ fp gp next Q hd h hr ht
 obtain ⟨dst,op,ty,pos,after,gd⟩:=o
 cases op with
 |move x=>exact PC hd h hr ht
 |assign x=>exact Pj hd h hr ht
 |pick x y z=>exact PF hd h hr ht
 |alloc t=>exact Pi hP hd h hr ht
 |box t x=>exact Pl hP hd h hr ht
 |build t ps=>exact Pm hd h hr ht
 |buildSlice t n ps=>exact Pn hd h hr ht
 |load t x=>exact Pw hd h hr ht
 |store t x y=>exact PH h hr ht
 |nilCheck x=>exact PD hd h hr ht
 |binOp b t x y u=>exact Pk hd h hr ht
 |unOp u t x=>exact PK hd h hr ht
 |convert s t x=>exact Pq hd h hr ht
 |makeFunc f xs ys=>cases f with
  |func f=>exact Py hd h hr ht
  |_=>exact hr.elim
 |makeInterface t x=>exact Pz hd h hr ht
 |typeAssert x s t ok=>cases ok with
  |true=>exact PJ hd h hr ht
  |false=>exact hr.elim
 |makeMap t x=>cases x with
  |none=>exact PA hd h hr ht
  |some x=>exact hr.elim
 |lookup t m x ok=>exact Px hd h hr ht
 |mapUpdate t m x y=>exact PB h hr ht
 |slice t x lo hi mx=>exact PG hd h hr ht
 |fieldAddr s x f=>exact Pt hd h hr ht
 |field s x f=>exact Ps hd h hr ht
 |indexAddr t x i=>exact Pv hd h hr ht
 |index t x i=>exact Pu hd h hr ht
 |extract x i=>exact Pr hd h hr ht
 |panic x=>exact PE h hr ht
 |call cl=>
  cases hc:cl.callee with
  |builtin b=>
   by_cases hb:b= .recover
   ·subst hb
    obtain ⟨callee,args,ats⟩:=cl
    simp only at hc
    subst hc
    simp only [a_,hS] at hr
    exact hr.elim
   ·exact Po hc hb hd h hr ht
  |value f=>exact Pp hI hc hd h hr ht
  |invoke x n=>
   obtain ⟨callee,args,ats⟩:=cl
   simp only at hc
   subst hc
   exact hr.elim
 |_=>exact hr.elim
end
end Go.Proofs.YtapmagaejigpnaaGreatDoor.PI
namespace Go.Proofs.YtapmagaejigpnaaGreatDoor.PI
open Go
set_option linter.unusedVariables false
set_option linter.unusedSimpArgs false
section
variable {U:Uni} {V:Env U} {P:Program} {X:Link V P}
theorem Sv: ∀ (args:List (PV U)) (s n:Nat),bH (ot s args) n=if s≤n then (args[n-s]?).map (EO n) else none:=by
 intro args
 induction args with
 |nil=>intro s n;simp [ot,bH]
 |cons p args ih=>
  intro s n
  simp only [ot,fB,ih]
  by_cases h:s=n
  ·subst h;simp
  ·rw [if_neg h]
   by_cases h2:s≤n
   ·rw [if_pos h2,if_pos (by omega)]
    obtain ⟨k,rfl⟩: ∃k,n=s+(k+1):=⟨n-s-1,by omega⟩
    rw [show s+(k+1)-(s+1)=k by omega,show s+(k+1)-s=k+1 by omega]
    simp
   ·rw [if_neg h2,if_neg (by omega)]
def dY (args:List (PV U)) (j:Nat):Option (Ob U):=match args[j]? with|some (.fresh e l)=>some ⟨0,e,l⟩|_=>none
theorem EM: ∀ (args:List (PV U)) (s i:Nat),bH (eY s args) i=if 2000000+s≤i then dY args (i-2000000-s) else none:=by
 intro args
 induction args with
 |nil=>intro s i;simp [eY,bH,dY]
 |cons p args ih=>
  intro s i
  have tail:bH (eY (s+1) args) i=if 2000000+s≤i∧i≠2000000+s then dY (p::args) (i-2000000-s) else none:=by
   rw [ih]
   by_cases h:2000000+(s+1)≤i
   ·rw [if_pos h,if_pos ⟨by omega,by omega⟩]
    obtain ⟨k,rfl⟩: ∃k,i=2000000+s+(k+1):=⟨i-2000000-s-1,by omega⟩
    rw [show 2000000+s+(k+1)-2000000-(s+1)=k by omega,show 2000000+s+(k+1)-2000000-s=k+1 by omega]
    simp [dY]
   ·rw [if_neg h,if_neg (by omega)]
  have plain:p.notFresh=true→eY s (p::args)=eY (s+1) args:=by
   intro hp;cases p<;>first|rfl|cases hp
  by_cases hp:p.notFresh=true
  ·rw [plain hp,tail]
   by_cases h1:2000000+s≤i
   ·rw [if_pos h1]
    by_cases h2:i=2000000+s
    ·subst h2
     rw [if_neg (by omega)]
     have:2000000+s-2000000-s=0:=by omega
     rw [this]
     unfold dY
     simp only [List.getElem?_cons_zero]
     cases p<;>first|rfl|cases hp
    ·rw [if_pos ⟨h1,h2⟩]
   ·rw [if_neg h1,if_neg (by omega)]
  ·cases p with
   |fresh e l=>
    simp only [eY,fB,tail]
    by_cases h1:2000000+s=i
    ·subst h1
     rw [if_pos rfl,if_pos (Nat.le_refl _)]
     have:2000000+s-2000000-s=0:=by omega
     rw [this];rfl
    ·rw [if_neg h1]
     by_cases h2:2000000+s≤i
     ·rw [if_pos ⟨h2,Ne.symm h1⟩,if_pos h2]
     ·rw [if_neg (by omega),if_neg h2]
   |_=>exact absurd rfl hp
end
end Go.Proofs.YtapmagaejigpnaaGreatDoor.PI
namespace Go.Proofs.YtapmagaejigpnaaGreatDoor.PI
open Go
set_option linter.unusedVariables false
set_option linter.unusedSimpArgs false
section
variable {U:Uni} {V:Env U} {P:Program} {X:Link V P}
theorem TS {boxes:List (Box U)}: ∀ (n s id:Nat) (bs:List (Box U)),n=bs.length→bH ((bR s n).zip bs) id=if s≤id then bs[id-s]? else none:=by
 intro n
 induction n with
 |zero=>intro s id bs h;have:bs=[]:=List.eq_nil_of_length_eq_zero h.symm;subst this;simp [bR,bH]
 |succ n ih=>
  intro s id bs h
  cases bs with
  |nil=>simp at h
  |cons b bs=>
   simp only [bR,List.zip_cons_cons,fB]
   rw [ih (s+1) id bs (by simpa using h)]
   by_cases h1:s=id
   ·subst h1;simp
   ·rw [if_neg h1]
    by_cases h2:s≤id
    ·rw [if_pos h2,if_pos (by omega)]
     obtain ⟨k,rfl⟩: ∃k,id=s+(k+1):=⟨id-s-1,by omega⟩
     rw [show s+(k+1)-(s+1)=k by omega,show s+(k+1)-s=k+1 by omega]
     simp
    ·rw [if_neg h2,if_neg (by omega)]
def dN (n:Nat) (ν:Nat→Nat) (args:List (PV U)) (vs:Array Value):Gh U:=
 ⟨fun id=>if 1000000≤id∧id-1000000<n then some (ν (id-1000000)) else none,
  fun i=>if 2000000≤i then (dY args (i-2000000)).map (fun ob=>(0,ob.e,vs.getD (i-2000000) undef)) else none⟩
def jb (args:List (PV U)) (δ:Nat→Option Nat):Nat→Option Nat:=fun i=>if 2000000≤i then (dY args (i-2000000)).bind fun _=>δ (i-2000000) else none
def eN (w:World) (N0:au) (n m:Nat) (ν:Nat→Nat) (δ:Nat→Option Nat) (nt:Nat) (hnt:nt≤1000000) (h:Bnd w N0 n ν δ) (gl:List (Nat×Obj)) (hgl: ∀b o,(b,o)∈gl→w.heap[b]? =some o∧(∀i,i<n→ν i≠b)∧ ∀j,δ j≠some b):Ctx:=
 ⟨w,N0,j0 n m ν δ,nt,fun b o hn=>⟨(h.n0 b o hn).1,fun hm=>by
  rcases List.mem_append.1 hm with hm|hm
  ·obtain ⟨k,hk,e⟩:=List.mem_map.1 hm
   exact (h.n0 b o hn).2.1 k (List.mem_range.1 hk) e
  ·obtain ⟨j,_,hj⟩:=List.mem_filterMap.1 hm
   exact (h.n0 b o hn).2.2 j hj⟩,
  fun id=>if 1000000≤id∧id-1000000<n then some (ν (id-1000000)) else none,fun id k h=>(by
  split at h
  ·rename_i h1;exact ⟨h1.1,Nat.le_trans hnt h1.1⟩
  ·cases h),
  gl,fun b o hb=>⟨(hgl b o hb).1,fun hm=>by
  rcases List.mem_append.1 hm with hm|hm
  ·obtain ⟨k,hk,e⟩:=List.mem_map.1 hm
   exact (hgl b o hb).2.1 k (List.mem_range.1 hk) e
  ·obtain ⟨j,_,hj⟩:=List.mem_filterMap.1 hm
   exact (hgl b o hb).2.2 j hj⟩⟩
structure CtxOf (c:Ctx) (w:World) (N0:au) (n m:Nat) (ν:Nat→Nat) (δ:Nat→Option Nat):Prop where
 cw:c.w0=w
 cN:c.N0=N0
 bl:c.bl=j0 n m ν δ
 fix: ∀i,i<n→c.fix (ci i)=some (ν i)
 other: ∀id k,c.fix id=some k→(∃i,i<n∧id=ci i)∨w.heap.size≤k
 bnd:Bnd w N0 n ν δ
theorem g6 {w:World} {N0:au} {n m nt:Nat} {ν:Nat→Nat} {δ:Nat→Option Nat} {hnt:nt≤1000000} {h:Bnd w N0 n ν δ} {gl:List (Nat×Obj)} {hgl: ∀b o,(b,o)∈gl→w.heap[b]? =some o∧(∀i,i<n→ν i≠b)∧ ∀j,δ j≠some b}:CtxOf (eN w N0 n m ν δ nt hnt h gl hgl) w N0 n m ν δ where
 cw:=rfl
 cN:=rfl
 bl:=rfl
 fix i hi:=by
  simp only [eN,ci]
  rw [if_pos ⟨by omega,by omega⟩,show 1000000+i-1000000=i by omega]
 other id k hk:=by
  simp only [eN] at hk
  split at hk
  ·rename_i h1;exact .inl ⟨id-1000000,h1.2,by simp [ci];omega⟩
  ·cases hk
 bnd:=h
variable {w:World} {vs:Array Value} {N0:au} {ν:Nat→Nat} {δ:Nat→Option Nat} {args:List (PV U)} {boxes:List (Box U)}
theorem oq {i b:Nat} (h:jb args δ i=some b):2000000≤i∧δ (i-2000000)=some b∧(dY args (i-2000000)).isSome=true:=by
 unfold jb at h
 split at h
 ·rename_i hi
  cases hf:dY args (i-2000000) with
  |none=>rw [hf] at h;cases h
  |some ob=>rw [hf] at h;exact ⟨hi,h,rfl⟩
 ·cases h
theorem Sw (hg:Given X w vs N0 ν δ args boxes) (nt:Nat) (hnt:nt≤1000000): ∀b o,((eN w N0 boxes.length args.length ν δ nt hnt hg.bnd X.gblk hg.glob).N (dN boxes.length ν args vs) (jb args δ)) b o→(NB N0 boxes.length ν δ) b o:=by
 rintro b o (hn|⟨id,hid⟩|⟨i,hi⟩)
 ·exact .inl hn
 ·simp only [dN] at hid
  split at hid
  ·rename_i h1
   injection hid with hid
   exact .inr (.inl ⟨_,h1.2,hid⟩)
  ·cases hid
 ·exact .inr (.inr ⟨_,(oq hi).2.1⟩)
theorem EP (id:Nat):(eX args boxes).b id=if 1000000≤id then (boxes.map (Box.ren false ci))[id-1000000]? else none:=by
 unfold St.b eX
 simp only
 rw [TS (boxes:=boxes) _ _ _ _ (by simp)]
 rfl
theorem su (hg:Given X w vs N0 ν δ args boxes) {nt:Nat} (hnt:args.length≤nt) (hnt2:nt≤1000000):
  Sim X (eN w N0 boxes.length args.length ν δ nt hnt2 hg.bnd X.gblk hg.glob) (vs++Array.replicate (nt-vs.size) undef) w (eX args boxes) (dN boxes.length ν args vs) (jb args δ):=by
 have hsub:=Sw hg nt hnt2
 have hμ: ∀i b,(gB U boxes.length ν).μ i=some b→(dN boxes.length ν args vs).μ (ci i)=some b:=by
  intro i b hb
  simp only [gB] at hb
  split at hb
  ·rename_i hi
   simp only [dN,ci]
   rw [if_pos ⟨by omega,by omega⟩,show 1000000+i-1000000=i by omega]
   exact hb
  ·cases hb
 have hvs: ∀n,n<args.length→(vs++Array.replicate (nt-vs.size) undef).getD n undef=vs.getD n undef:=by
  intro n hn
  have:n<vs.size:=by rw [hg.size];exact hn
  simp [Array.getD_eq_getD_getElem?,Array.getElem?_append,this]
 have ho: ∀i ob,(eX args boxes).o i=some ob→2000000≤i∧dY args (i-2000000)=some ob:=by
  intro i ob h
  unfold St.o eX at h
  simp only [EM] at h
  split at h
  ·rename_i hi;exact ⟨by omega,by simpa using h⟩
  ·cases h
 have hb: ∀id b,(eX args boxes).b id=some b→1000000≤id∧ ∃b0,boxes[id-1000000]? =some b0∧b=b0.ren false ci:=by
  intro id b h
  rw [EP] at h
  by_cases hi:1000000≤id
  ·rw [if_pos hi,List.getElem?_map,Option.map_eq_some_iff] at h
   obtain ⟨b0,h1,h2⟩:=h
   exact ⟨by omega,b0,h1,h2.symm⟩
  ·rw [if_neg hi] at h;cases h
 refine {nt:=by simp [eN,hg.size];omega,regs:=fun n=> ?_,boxes:=fun id b h=> ?_,dom:=fun id k hk=> ?_,inj:=fun id id' k h1 h2=> ?_,new:=fun id k hk=> ?_,objs:=fun i ob h=> ?_,nobj:=fun i h=> ?_,dinj:=fun i j b h1 h2=> ?_,dnew:=fun i b h=> ?_,dbox:=fun i id b h1 h2=> ?_,ext:=Ext.refl _ _,gl:=rfl,fix:=fun id k hk=> .inl hk}
 ·unfold St.r eX
  simp only [Sv,Nat.zero_le,if_true,Nat.sub_zero]
  cases hp:args[n]? with
  |none=>simp only [Option.map_none];exact .undef _
  |some p=>
   simp only [Option.map_some]
   have hn:=(List.getElem?_eq_some_iff.1 hp).1
   rw [hvs n hn]
   have hr:=hg.args n p hp
   by_cases hf:p.notFresh=true
   ·have:=(hr.rep hf).ren (g':=dN boxes.length ν args vs) (N':=(eN w N0 boxes.length args.length ν δ nt hnt2 hg.bnd X.gblk hg.glob).N (dN boxes.length ν args vs) (jb args δ)) false ci (fun _ _ _ _=>rfl) (fun b o _ h=>hsub b o h) (.inr fun _=>rfl) fun i _ b hb=>hμ i b hb
    cases p<;>first|exact this|cases hf
   ·cases p with
    |fresh e l=>
     obtain ⟨A,n',cp,hval,_⟩:=(show ObOK X w _ _ e l (vs.getD n undef) .wr (δ n) from hr).val
     have hfa:dY args n=some ⟨0,e,l⟩:=by unfold dY;rw [hp]
     refine .own (2000000+n) 0 _ 0 e (vs.getD n undef) ?_ (Nat.le_refl _) (fun _=>rfl) ⟨A,n',cp,hval⟩
     simp only [dN]
     rw [if_pos (by omega),show 2000000+n-2000000=n by omega,hfa];rfl
    |_=>exact absurd rfl hf
 ·obtain ⟨h1,b0,h2,rfl⟩:=hb id b h
  have hlt:=(List.getElem?_eq_some_iff.1 h2).1
  have hμid:(dN boxes.length ν args vs).μ id=some (ν (id-1000000)):=if_pos ⟨h1,hlt⟩
  refine ⟨ν (id-1000000),hμid, ?_⟩
  exact (hg.boxes _ b0 h2).ren false ci rfl (fun _ _ _ _=>rfl) (fun b o _ h=>hsub b o h) (.inr fun _=>rfl) fun i _ b hb=>hμ i b hb
 ·simp only [dN] at hk
  split at hk
  ·rename_i h1
   obtain ⟨hx1,hx2⟩:=h1
   obtain ⟨b0,hb0⟩: ∃b0,boxes[id-1000000]? =some b0:=⟨_,List.getElem?_eq_getElem hx2⟩
   exact ⟨b0.ren false ci,by rw [EP,if_pos hx1,List.getElem?_map,hb0];rfl⟩
  ·cases hk
 ·simp only [dN] at h1 h2
  split at h1
  ·rename_i q1
   split at h2
   ·rename_i q2
    injection h1 with h1
    injection h2 with h2
    have:=hg.bnd.inj _ _ q1.2 q2.2 (h1.trans h2.symm)
    omega
   ·cases h2
  ·cases h1
 ·simp only [dN] at hk
  split at hk
  ·rename_i h1
   injection hk with hk
   subst hk
   exact ⟨hg.bnd.lt _ h1.2,.inl (List.mem_append.2 (.inl (List.mem_map.2 ⟨_,List.mem_range.2 h1.2,rfl⟩)))⟩
  ·cases hk
 ·obtain ⟨h1,h2⟩:=ho i ob h
  have hp: ∃e l,args[i-2000000]? =some (.fresh e l)∧ob=⟨0,e,l⟩:=by
   unfold dY at h2
   split at h2
   ·rename_i e l hq
    injection h2 with h2
    exact ⟨e,l,hq,h2.symm⟩
   ·cases h2
  obtain ⟨e,l,hp,rfl⟩:=hp
  have hO:ObOK X w (NB N0 boxes.length ν δ) (gB U boxes.length ν) e l (vs.getD (i-2000000) undef) .wr (δ (i-2000000)):=hg.args _ _ hp
  refine ⟨vs.getD (i-2000000) undef,by simp only [dN];rw [if_pos h1,h2];rfl, ?_⟩
  have hu:(eX args boxes).u i= .wr:=by
   unfold St.u eX
   simp only
   have hlook: ∀ (l:List (Nat×Ob U)) (n:Nat),bH (l.map fun x=>(x.1,Use.wr)) n=(bH l n).map fun _=>Use.wr:=by
    intro l n
    induction l with
    |nil=>rfl
    |cons x l ih=>
     obtain ⟨m,y⟩:=x
     simp only [List.map_cons,fB,ih]
     split<;>rfl
   rw [hlook]
   have h':bH (eY 0 args) i=some ⟨0,e,l⟩:=h
   rw [h'];rfl
  have hD:jb args δ i=δ (i-2000000):=by simp only [jb];rw [if_pos h1,h2];rfl
  rw [hu,hD]
  exact hO.turn (fun _ _=>rfl) (fun _ _ _ _=>rfl) (fun b o _ h=>hsub b o h)
 ·have hf:2000000≤i→dY args (i-2000000)=none:=by
   intro hi
   have h':bH (eY 0 args) i=none:=h
   rw [EM,if_pos (by omega)] at h'
   simpa using h'
  constructor
  ·simp only [dN]
   split
   ·rename_i hi;rw [hf hi];rfl
   ·rfl
  ·simp only [jb]
   split
   ·rename_i hi;rw [hf hi];rfl
   ·rfl
 ·obtain ⟨a1,a2,_⟩:=oq h1
  obtain ⟨b1,b2,_⟩:=oq h2
  have:=hg.bnd.dinj _ _ _ a2 b2
  omega
 ·obtain ⟨a1,a2,_⟩:=oq h
  exact ⟨hg.bnd.dlt _ _ a2,.inl (List.mem_append.2 (.inr (List.mem_filterMap.2 ⟨_,List.mem_range.2 (hg.dom _ _ a2),a2⟩)))⟩
 ·obtain ⟨a1,a2,_⟩:=oq h1
  simp only [dN] at h2
  split at h2
  ·rename_i q
   injection h2 with h2
   exact hg.bnd.dν _ _ a2 _ q.2 h2
  ·cases h2
end
end Go.Proofs.YtapmagaejigpnaaGreatDoor.PI
namespace Go.Proofs.YtapmagaejigpnaaGreatDoor.PI
open Go
set_option linter.unusedVariables false
set_option linter.unusedSimpArgs false
section
variable {U:Uni} {V:Env U} {P:Program} {X:Link V P} {K:bJ U} {c:Ctx} {tm:Array Value} {w:World} {σ:St U} {g:Gh U} {D:Nat→Option Nat}
variable {r:MR U} {τ:St U} {gp:List Loc}
def i9 (tmps:Array Value):ResultVar→Sem Value
 | .tmp t=>pure (tmps.getD t undef)
 | .cell a t=>do loadVar t (←asAddr (tmps.getD a undef))
theorem QL (fn:Func) (tmps:Array Value):results fn tmps=(do
  let vs←fn.results.mapM (i9 tmps)
  pure (if h:vs.size=1 then vs[0] else .tuple vs)):=by
 unfold results i9
 rfl
theorem QK (h:Sim X c tm w σ g D): ∀ (res:List ResultVar) {k:List (PV U)→M U} {fp:List Loc},(lJ V res k).Rel K σ fp r τ gp→
  ∃ps us fp',(k ps).Rel K σ fp' r τ gp∧us.length=ps.length∧(∀ (j:Nat) p,ps[j]? =some p→Rep X w (c.N g D) g (us.getD j undef) p)∧(res.mapM (i9 tm)).run P w= .ok us w:=by
 intro res
 induction res with
 |nil=>intro k fp hr;exact ⟨[],[],fp,hr,rfl,by simp,by simp⟩
 |cons x res ih=>
  intro k fp hr
  have step: ∀ {p:PV U} {v:Value} {fp1:List Loc},(lJ V res fun vs=>k (p::vs)).Rel K σ fp1 r τ gp→Rep X w (c.N g D) g v p→(i9 tm x).run P w= .ok v w→
    ∃ps us fp',(k ps).Rel K σ fp' r τ gp∧us.length=ps.length∧(∀ (j:Nat) p,ps[j]? =some p→Rep X w (c.N g D) g (us.getD j undef) p)∧((x::res).mapM (i9 tm)).run P w= .ok us w:=by
   intro p v fp1 hr1 hp hv
   obtain ⟨ps,us,fp',h1,h2,h3,h4⟩:=ih hr1
   refine ⟨p::ps,v::us,fp',h1,by simp [h2],fun j q hq=> ?_,by simp [List.mapM_cons,Sem.run_bind,hv,h4]⟩
   cases j with
   |zero=>simp at hq;subst hq;exact hp
   |succ j=>exact h3 j q (by simpa using hq)
  cases x with
  |tmp t=>exact step hr (h.regs t) (by simp [i9])
  |cell a t=>
   simp only [lJ,M.Rel] at hr
   obtain ⟨x,fp',v,h1,h2,h3⟩:=AO (a:=⟨tm,[]⟩) h (h.regs a) hr
   refine step h1 h3 ?_
   have h2':=h2
   unfold Instr.loadAt at h2'
   simp only [i9]
   cases hu:tm.getD a undef with
   |pointer q=>
    rw [hu] at h2'
    cases q with
    |none=>simp [Instr.sureAddr] at h2'
    |some q=>simpa [Instr.sureAddr,asAddr] using h2'
   |_=>rw [hu] at h2';simp [Instr.sureAddr] at h2'
theorem uI: ∀ (l:List Nat) {k:List (Nat×Box U)→M U} {fp:List Loc},(fq l k).Rel K σ fp r τ gp→ ∃bs fp',(k bs).Rel K σ fp' r τ gp∧bs.map (·.1)=l∧ ∀x∈bs,σ.b x.1=some x.2:=by
 intro l
 induction l with
 |nil=>intro k fp hr;exact ⟨[],fp,hr,rfl,by simp⟩
 |cons id l ih=>
  intro k fp hr
  simp only [fq,M.Rel] at hr
  split at hr
  ·rename_i b hb
   obtain ⟨bs,fp',h1,h2,h3⟩:=ih hr
   exact ⟨(id,b)::bs,fp',h1,by simp [h2],fun x hx=>by
    rcases List.mem_cons.1 hx with rfl|hx
    ·exact hb
    ·exact h3 x hx⟩
  ·exact hr.elim
theorem Mj: ∀ (n:Nat) (todo:List Nat) (acc:List (Nat×Box U)) {k:List (Nat×Box U)→M U} {fp:List Loc},(∀x∈acc,σ.b x.1=some x.2)→(iD n todo acc k).Rel K σ fp r τ gp→
  ∃bs fp',(k (acc++bs)).Rel K σ fp' r τ gp∧ ∀x∈acc++bs,σ.b x.1=some x.2:=by
 intro n
 induction n with
 |zero=>intro todo acc k fp _ hr;exact hr.elim
 |succ n ih=>
  intro todo acc k fp hacc hr
  cases todo with
  |nil=>exact ⟨[],fp,by rw [List.append_nil];exact hr,by simpa using hacc⟩
  |cons id todo=>
   simp only [iD] at hr
   split at hr
   ·exact ih todo acc hacc hr
   ·simp only [M.Rel] at hr
    split at hr
    ·rename_i b hb
     obtain ⟨bs,fp',h1,h2⟩:=ih _ _ (fun x hx=>by
      rcases List.mem_append.1 hx with hx|hx
      ·exact hacc x hx
      ·simp at hx;subst hx;exact hb) hr
     exact ⟨(id,b)::bs,fp',by simpa using h1,by simpa using h2⟩
    ·exact hr.elim
theorem RepG.lessN {N N':au} {v:Value} {Do:Option Nat} {p:PV U} (h:RepG X w N g v Do p) (hN: ∀b o,N' b o→N b o):RepG X w N' g v Do p:=by
 by_cases hp:p.notFresh=true
 ·have:=(h.rep hp).mono X (w':=w) (N':=N') (g':=g) (fun _ _ _ _=>rfl) (fun b o _ hn=>hN b o hn) (Gh.le.refl g)
  cases p<;>first|exact this|cases hp
 ·cases p with
  |fresh e l=>exact ObOK.mono h (fun _ _=>rfl) (fun _ _ _ _=>rfl) (fun b o _ hn=>hN b o hn) (Gh.le.refl g)
  |_=>exact absurd rfl hp
theorem yD {w0:World} {N0:au} {n m:Nat} {ν:Nat→Nat} {δ:Nat→Option Nat} (hc:CtxOf c w0 N0 n m ν δ) (hdom: ∀j b,δ j=some b→j<m)
  (h:Sim X c tm w σ g D) {bs:List (Nat×Box U)} {qs:List (PV U)} {vs:Array Value} {ν':Nat→Nat} {δ':Nat→Option Nat} {keep:Bool} {N1:au}
  (hkeys: ∃more,bs.map (·.1)=bR (ci 0) n++more) (hnd:(bs.map (·.1)).Nodup) (hν: ∀ (k:Nat) id,(bs.map (·.1))[k]? =some id→g.μ id=some (ν' k))
  (hδ: ∀j b,δ' j=some b→ ∃i,D i=some b)
  (hg:Given X w vs N1 ν' δ' qs (bs.map fun b=>b.2.ren keep (a7 (bs.map (·.1)))))
  (hN1:NB N1 bs.length ν' δ'=c.N g D):
  Back X w0 w N0 ν δ n m ν' δ' (bs.map fun b=>b.2.ren keep (a7 (bs.map (·.1))))∧ ∀b o,(NB N0 bs.length ν' δ') b o→(NB N1 bs.length ν' δ') b o:=by
 obtain ⟨more,hmore⟩:=hkeys
 obtain ⟨c0,cN,cbl,cfix,cother,hb0⟩:=hc
 have hlen:bs.length=n+more.length:=by have:=congrArg List.length hmore;simpa [rk] using this
 have hext: ∀i,i<n→(bs.map (·.1))[i]? =some (ci i):=by
  intro i hi
  rw [hmore,List.getElem?_append_left (by rw [rk];exact hi),BO _ _ _ hi]
  simp [ci]
 have hold: ∀i,i<n→ν' i=ν i:=by
  intro i hi
  have h1:=hν i _ (hext i hi)
  rcases h.fix _ _ h1 with h2|⟨h2,_⟩
  ·rw [cfix i hi] at h2;injection h2 with h2;exact h2.symm
  ·rw [cfix i hi] at h2;cases h2
 have hμν: ∀i,i<n→g.μ (ci i)=some (ν i):=fun i hi=>by rw [←hold i hi];exact hν i _ (hext i hi)
 have hget: ∀k,k<bs.length→ ∃id,(bs.map (·.1))[k]? =some id∧g.μ id=some (ν' k):=fun k hk=>⟨_,List.getElem?_eq_getElem (by simpa using hk),hν k _ (List.getElem?_eq_getElem (by simpa using hk))⟩
 have hsub: ∀b o,(NB N0 bs.length ν' δ') b o→(NB N1 bs.length ν' δ') b o:=by
  intro b o hn
  rw [hN1]
  rcases hn with hn|⟨k,hk,rfl⟩|⟨j,hj⟩
  ·exact .inl (by rw [cN];exact hn)
  ·obtain ⟨id,_,hid⟩:=hget k hk
   exact .inr (.inl ⟨id,hid⟩)
  ·obtain ⟨i,hi⟩:=hδ j b hj
   exact .inr (.inr ⟨i,hi⟩)
 have hnew: ∀i,n≤i→i<bs.length→w0.heap.size≤ν' i:=by
  intro i hi hlt
  obtain ⟨id,h1,h2⟩:=hget i hlt
  rcases h.fix _ _ h2 with h3|⟨_,h3⟩
  ·rcases cother _ _ h3 with ⟨j,hj,e⟩|h4
   ·exfalso
    subst e
    have h7:=hext j hj
    have:=(List.getElem?_inj (by simpa using hlt) hnd).1 (h1.trans h7.symm)
    omega
   ·exact h4
  ·rw [c0] at h3;exact h3
 have hdnew: ∀j b,δ' j=some b→w0.heap.size≤b∨ ∃i,δ i=some b:=by
  intro j b hj
  obtain ⟨i,hi⟩:=hδ j b hj
  rcases (h.dnew i b hi).2 with h1|h1
  ·rw [cbl] at h1
   rcases List.mem_append.1 h1 with h1|h1
   ·obtain ⟨k,hk,e⟩:=List.mem_map.1 h1
    rw [List.mem_range] at hk
    subst e
    exact absurd (hμν k hk) (h.dbox i _ _ hi)
   ·obtain ⟨k,_,hk⟩:=List.mem_filterMap.1 h1
    exact .inr ⟨k,hk⟩
  ·rw [c0] at h1;exact .inl h1
 have hl:(bs.map fun b=>b.2.ren keep (a7 (bs.map (·.1)))).length=bs.length:=by simp
 have hgb:=hg.bnd
 rw [hl] at hgb
 have hex:Ext (j0 n m ν δ) w0 w:=by have:=h.ext;rwa [c0,cbl] at this
 refine ⟨⟨hex,by rw [hl];omega,hold,by rw [hl];exact hnew,hdnew, ?_,fun k b hb=> ?_⟩,hsub⟩
 ·rw [hl]
  refine ⟨hgb.inj,hgb.lt,hgb.dlt,hgb.dinj,hgb.dν,fun b o hn=>⟨Nat.lt_of_lt_of_le (hb0.n0 b o hn).1 hex.size,fun i hi e=> ?_,fun j hj=> ?_⟩⟩
  ·by_cases hin:i<n
   ·exact (hb0.n0 b o hn).2.1 i hin (by rw [←hold i hin];exact e)
   ·have:=hnew i (by omega) hi
    have:=(hb0.n0 b o hn).1
    omega
  ·rcases hdnew j b hj with h1|⟨i,h1⟩
   ·have:=(hb0.n0 b o hn).1;omega
   ·exact (hb0.n0 b o hn).2.2 i h1
 ·have:=hg.boxes k b hb
  rw [hl] at this ⊢
  exact this.mono rfl (fun _ _ _ _=>rfl) (fun b o _ hn=>hsub b o hn) (Gh.le.refl _)
end
end Go.Proofs.YtapmagaejigpnaaGreatDoor.PI
namespace Go.Proofs.YtapmagaejigpnaaGreatDoor.PI
open Go
set_option linter.unusedVariables false
set_option linter.unusedSimpArgs false
section
variable {U:Uni} {V:Env U} {P:Program} {X:Link V P}
theorem RepG.ofAny {w:World} {N:au} {g:Gh U} {v:Value} {Do:Option Nat} {p:PV U} (h:Rep X w N g v p):RepG X w N g v Do p:=by
 cases p<;>first|exact h|cases h
theorem RepR.ofG {w:World} {N:au} {g:Gh U} {v:Value} {δ:Nat→Option Nat} {p:PV U} (h:RepG X w N g v (δ 0) p):RepR X w N g v δ p:=by
 cases p with
 |tuple ps=>
  cases (show Rep X w N g v (.tuple ps) from h) with
  |tuple vs _ hl hh=>exact ⟨vs,rfl,hl,fun j p hp=> .ofAny (hh j p hp)⟩
 |_=>exact h
theorem QM {fn:Func} {tmps:Array Value} {us:List Value} {w:World} (h:(fn.results.toList.mapM (i9 tmps)).run P w= .ok us w):
  (results fn tmps).run P w= .ok (if h:us.toArray.size=1 then us.toArray[0] else .tuple us.toArray) w:=by
 rw [QL,Array.mapM_eq_mapM_toList]
 simp [Sem.run_bind,h]
variable {w0:World} {N0:au} {n m:Nat} {ν:Nat→Nat} {δ:Nat→Option Nat} {K:bJ U} {c:Ctx}
theorem lK {fn:Func} {tm:Array Value} {w:World} {σ:St U} {g:Gh U} {D:Nat→Option Nat} (hc:CtxOf c w0 N0 n m ν δ) (hdom: ∀j b,δ j=some b→j<m) (h:Sim X c tm w σ g D)
  {keep:Bool} {hand:List Bool} {out:Out U} {τ:St U} {fp gp:List Loc} (hr:(gi V keep hand fn.results.toList n).Rel K σ fp (.out out) τ gp):
  ∃v,(results fn tm).run P w= .ok v w∧du X w0 N0 ν δ n m out (.returned v) w:=by
 unfold gi at hr
 obtain ⟨ps,us,fp1,hr1,hl1,hp1,hrun⟩:=QK h _ hr
 obtain ⟨q1,σ1,D1,fp2,hr2,hF1,hl2,hq1⟩:=zY hand ps h (fun j=>us.getD j undef) hp1 hr1
 obtain ⟨bs0,fp3,hr3,hk0,hb0'⟩:=uI _ hr2
 obtain ⟨bs1,fp4,hr4,hb1⟩:=Mj 100 _ bs0 hb0' hr3
 obtain ⟨bs2,σ2,D2,fp5,hr5,hF2,hkeys,hb2⟩:=uG _ hF1.sim (fun x hx=>hF1.sim.boxes x.1 x.2 (hb1 x hx)) hr4
 have h2:=hF2.sim
 obtain ⟨qs,σ3,fp6,G,δ',hr6,hl6,hSp,_,hδ,hδi,hqs⟩:=z7 h2 hand q1 (fun j=>us.getD j undef) (.refl σ2) (fun j p hp=>hF2.rep (hq1 j p hp)) hr5
 cases hh:gN qs bs2 with
 |false=>rw [hh] at hr6;exact hr6.elim
 |true=>
 rw [hh] at hr6
 obtain ⟨e1,_,_⟩:=hr6
 injection e1 with e1
 subst e1
 obtain ⟨ν',hν⟩:=BN hb2
 have hgd: ∀j,us.toArray.getD j undef=us.getD j undef:=fun j=>kL j (by simp)
 obtain ⟨hNB,hg⟩:=uJ h2 keep (vs:=us.toArray) (by simp;omega) hb2 hh (fun j b hj=>by rw [hl6];exact hδ j b hj) hδi (fun j q hq=>by rw [hgd];exact hqs j q hq) hν
 have hnd:=(qN hh).2.2.1
 obtain ⟨hback,hsub⟩:=yD hc hdom h2 ⟨bs1.map (·.1),by rw [hkeys,List.map_append,hk0]⟩ hnd hν (fun j b hj=>by obtain ⟨_,i,_,hi⟩:=hδ j b hj;exact ⟨i,hi⟩) hg hNB
 suffices hR:RepR X w (NB N0 bs2.length ν' δ') (gB U bs2.length ν') (if h:us.toArray.size=1 then us.toArray[0] else .tuple us.toArray) δ' (iW (PV.renL keep (a7 (bs2.map (·.1))) qs)) by
  have hrr:=QM hrun
  generalize (if h:us.toArray.size=1 then us.toArray[0] else .tuple us.toArray)=v at hR hrr
  have hbl:(bs2.map fun b=>b.2.ren keep (a7 (bs2.map (·.1)))).length=bs2.length:=by simp
  have hret:du X w0 N0 ν δ n m (.ret (iW (PV.renL keep (a7 (bs2.map (·.1))) qs)) (bs2.map fun b=>b.2.ren keep (a7 (bs2.map (·.1))))) (.returned v) w:=by
   simp only [du]
   refine ⟨ν',δ',hback, ?_⟩
   rw [hbl];exact hR
  exact ⟨v,hrr,hret⟩
 have hbl:(bs2.map fun b=>b.2.ren keep (a7 (bs2.map (·.1)))).length=bs2.length:=by simp
 have hargs: ∀ (j:Nat) p,(PV.renL keep (a7 (bs2.map (·.1))) qs)[j]? =some p→RepG X w (NB N0 bs2.length ν' δ') (gB U bs2.length ν') (us.toArray.getD j undef) (δ' j) p:=fun j p hp=>by
  have:=hg.args j p hp
  rw [hbl] at this
  exact this.lessN hsub
 have hlr:(PV.renL keep (a7 (bs2.map (·.1))) qs).length=us.length:=by rw [fH];simp;omega
 generalize PV.renL keep (a7 (bs2.map (·.1))) qs=rs at hargs hlr
 by_cases h1:us.toArray.size=1
 ·rw [dif_pos h1]
  have hu1:us.length=1:=by simpa using h1
  obtain ⟨p,rfl⟩: ∃p,rs=[p]:=by
   match rs,hlr with
   |[p],_=>exact ⟨p,rfl⟩
   |[],h=>simp at h;omega
   |_::_::_,h=>simp at h;omega
  have:=hargs 0 p rfl
  have hu:us.toArray.getD 0 undef=us.toArray[0]:=by simp [Array.getD,h1]
  rw [hu] at this
  exact .ofG this
 ·rw [dif_neg h1]
  have hone:iW rs= .tuple rs:=by
   match rs,hlr with
   |[],_=>rfl
   |[p],h=>simp at h h1;omega
   |_::_::_,_=>rfl
  rw [hone]
  exact ⟨us.toArray,rfl,by simpa using hlr.symm,hargs⟩
theorem vL {tm:Array Value} {w:World} {σ:St U} {g:Gh U} {D:Nat→Option Nat} (hc:CtxOf c w0 N0 n m ν δ) (hdom: ∀j b,δ j=some b→j<m) (h:Sim X c tm w σ g D)
  {v:PV U} {val:Value} (hv:Rep X w (c.N g D) g val v) {out:Out U} {τ:St U} {fp gp:List Loc} (hr:(vK v n).Rel K σ fp (.out out) τ gp):
  du X w0 N0 ν δ n m out (.panicked [{v:=val,recovered:=false}]) w:=by
 unfold vK at hr
 obtain ⟨bs0,fp3,hr3,hk0,hb0'⟩:=uI _ hr
 obtain ⟨bs2,σ2,D2,fp5,hr5,hF2,hkeys,hb2⟩:=uG _ h (fun x hx=>h.boxes x.1 x.2 (hb0' x hx)) hr3
 obtain ⟨q,σ3,D3,fp6,hr6,hF3,hq,_⟩:=jK v hF2.sim (hF2.rep hv) hr5
 cases hh:gN [q] bs2 with
 |false=>simp only [hh] at hr6;exact hr6.elim
 |true=>
 simp only [hh] at hr6
 obtain ⟨e1,_,_⟩:=hr6
 injection e1 with e1
 subst e1
 have hb3: ∀x∈bs2,lW X w (c.N g D3) g x:=fun x hx=>by
  obtain ⟨k,hk,hbx⟩:=hb2 x hx
  exact ⟨k,hk,hbx.mono rfl (fun _ _ _ _=>rfl) (fun b o _ hn=>by
   rcases hn with hn|hn|⟨i,hi⟩
   ·exact .inl hn
   ·exact .inr (.inl hn)
   ·exact .inr (.inr ⟨i,hF3.D i b hi⟩)) (Gh.le.refl g)⟩
 have hkk:bs2.map (·.1)=bR (ci 0) n:=hkeys.trans hk0
 have hlen:bs2.length=n:=by have:=congrArg List.length hkk;simpa [rk] using this
 have hν: ∀ (k:Nat) id,(bs2.map (·.1))[k]? =some id→g.μ id=some (ν k):=by
  intro k id hid
  obtain ⟨x,hx,rfl⟩:=List.mem_map.1 (List.mem_of_getElem? hid)
  obtain ⟨kb,hk,_⟩:=hb3 x hx
  have hkn:k<n:=by have:=(List.getElem?_eq_some_iff.1 hid).1;simp at this;omega
  rw [hkk,BO _ _ _ hkn] at hid
  injection hid with hid
  have hfix:c.fix x.1=some (ν k):=by
   rw [←hid,←hc.fix k hkn]
   simp [ci]
  rcases h.fix _ _ hk with h2|⟨h2,_⟩
  ·rw [hfix] at h2;rw [hk,←h2]
  ·rw [hfix] at h2;cases h2
 obtain ⟨hNB,hg⟩:=uJ (G:=[]) (δ:=fun _=>none) hF3.sim false (vs:= #[val]) (by simp) hb3 hh (by simp) (by simp) (fun j q' hq'=>by
  cases j with
  |zero=>simp at hq';subst hq';exact .of hq
  |succ j=>simp at hq') hν
 obtain ⟨hback,hsub⟩:=yD hc hdom hF3.sim ⟨[],by rw [hkk];simp⟩ (qN hh).2.2.1 hν (by simp) hg hNB
 refine ⟨by simp [hlen],val,rfl,hback, ?_⟩
 have hbl:(bs2.map fun b=>b.2.ren false (a7 (bs2.map (·.1)))).length=bs2.length:=by simp
 have:=hg.args 0 _ rfl
 rw [hbl] at this
 have:=this.lessN hsub
 rw [hlen] at this
 have hf:(q.ren false (a7 (bs2.map (·.1)))).notFresh=true:=by
  rw [rY]
  cases q<;>first|rfl|cases hq
 exact this.rep hf
theorem QX (hm:P.follows .mixedOrders=true) (hI:g_ X) {S:Side U} (hS:S.rcv=none) (hpin:S.pin=fun _=>false) {R:Type} {C:Oracle U R} (hC:C.Tells (bS X)) {f:FuncId} {fn:Func} (hf:P.funcs[f]? =some fn)
  (hname:(fn.name== "runtime.NumGoroutine")=false) (hbody:fn.body.isNone=false) (hnt:fn.ntmps=S.nt) (hlow:S.nt≤1000000) {args:List (PV U)} {boxes:List (Box U)} (hargs:args.length≤S.nt)
  {ann:Nat→Option Ann} {fuel:Nat} {keep:Bool} {hand:List Bool} {κ:Out U→Option R} {x:R} (h:n4 V S C ann fuel keep hand fn args boxes κ=some x): ∃out,κ out=some x∧bS X f args boxes out:=by
 obtain ⟨code,hcode⟩: ∃code,fn.body=some code:=by
  cases hb:fn.body with
  |none=>rw [hb] at hbody;cases hbody
  |some code=>exact ⟨code,rfl⟩
 unfold n4 eP at h
 rw [hcode] at h
 obtain ⟨e,τ,hbig,hk⟩:=sc (bS X) V S ann hC fuel code h
 have key: ∀ {M:M U} {out:Out U} {τ0:St U} {gp:List Loc},M.Rel (bS X) τ [] (.out out) τ0 gp→(∀ (w:World) (vs:Array Value) (N0:au) (ν:Nat→Nat) (δ:Nat→Option Nat) (hg:Given X w vs N0 ν δ args boxes),
   Lands X (eN w N0 boxes.length args.length ν δ S.nt hlow hg.bnd X.gblk hg.glob) [] e τ (bodyPost P fn (du X w N0 ν δ boxes.length args.length out)))→bS X f args boxes out:=by
  intro M out τ0 gp _ hl
  refine ⟨⟨fn,hf,hname,hbody⟩,fun w vs N0 ν δ hg=> ?_⟩
  refine calls_of_wp hf hcode ?_
  have hs:=su hg hargs hlow
  rw [hnt]
  exact kn hm (j4 hI hS fun d hd=>by rw [hpin] at hd;cases hd) rfl hbig _ w _ _ _ hs (hl w vs N0 ν δ hg)
 cases e with
 |exit id=>cases hk
 |normal=>
  obtain ⟨r,τ0,τ1,gp,hr,ht,hfin⟩:=eQ hC _ hk (St.eqv.refl τ)
  cases r with
  |out o=>
   refine ⟨o,hfin,key hr fun w vs N0 ν δ hg a' w' g' D' hd hs=> ?_⟩
   obtain ⟨v,h1,h2⟩:=lK g6 hg.dom hs hr
   exact ⟨hd,v,h1,h2⟩
  |_=>cases hfin
 |ret=>
  obtain ⟨r,τ0,τ1,gp,hr,ht,hfin⟩:=eQ hC _ hk (St.eqv.refl τ)
  cases r with
  |out o=>
   refine ⟨o,hfin,key hr fun w vs N0 ν δ hg a' w' g' D' hd hs=> ?_⟩
   obtain ⟨v,h1,h2⟩:=lK g6 hg.dom hs hr
   exact ⟨hd,v,h1,h2⟩
  |_=>cases hfin
 |panic v=>
  obtain ⟨r,τ0,τ1,gp,hr,ht,hfin⟩:=eQ hC _ hk (St.eqv.refl τ)
  cases r with
  |out o=>
   refine ⟨o,hfin,key hr fun w vs N0 ν δ hg a' w' g' D' hd hs val hval=> ?_⟩
   exact ⟨hd,vL g6 hg.dom hs hval hr⟩
  |_=>cases hfin
end
end Go.Proofs.YtapmagaejigpnaaGreatDoor.PI
namespace Go.Proofs.YtapmagaejigpnaaGreatDoor.PI
open Go
section
variable {U:Uni} {R:Type} (V:Env U) (S:Side U) (C:Oracle U R) (ann:Nat→Option Ann) (fuel:Nat)
def Dx (o:Oper):Option Tmp:=
 match o.dst,o.op,o.guard with
 |some d,.call c,.none=>match c.callee with
  | .builtin .recover=>some d
  |_=> .none
 |_,_,_=> .none
def DN (v:PV U):Code→St U→(Ex U→St U→Option R)→Option R
 | .seq (.region _ ops draw) b,σ,κ=>match ops.toList with
  |o::more=>match Dx o with
   |some d=>bif !draw&&(Nat.blt d S.nt&&more.all (aU S.nt)) then lL V S C ops.toList more [] (σ.setR d v) fun
     | .normal,σ',_=>run V S C ann fuel b σ' κ
     |_,_,_=> .none
    else .none
   | .none=> .none
  |[]=> .none
 |_,_,_=> .none
def wE (keep:Bool) (hand:List Bool) (fn:Func) (v:PV U) (args:List (PV U)) (boxes:List (Box U)) (κ:Out U→Option R):Option R:=
 DN V S C ann fuel v (eP fn) (eX args boxes) (kF V C keep hand fn boxes.length κ)
def um:List Oper→Option (Oper×Tmp)
 |[o,q]=>match o.dst,o.guard,q.dst,q.op,q.guard with
  |some m,.none,.none,.defer c,.none=>match c.callee with
   | .value (.tmp n)=>bif Nat.beq m n&&c.args.isEmpty then some (o,n) else .none
   |_=> .none
  |_,_,_,_,_=> .none
 |_=> .none
def PV.pinned:PV U→Bool
 | .ptr id _=>Nat.ble 1000000 id
 |_=>false
def j_:Code→St U→(Ex U→St U→Option R)→(FuncId→List (PV U)→Ex U→St U→Option R)→Option R
 | .seq a b,σ,κ0,κ1=>match a with
  | .region id ops draw=>match um ops.toList with
   |some (o,n)=>bif !draw&&aU S.nt o then (a_ V S o).cps C σ [] fun
     | .done,σ',_=>match σ'.r n with
      | .func h [] caps=>bif caps.all PV.pinned then run V {S with pin:=fun _=>false} C ann fuel b σ' (κ1 h caps) else .none
      |_=> .none
     |_,_,_=> .none
    else .none
   | .none=>run V S C ann fuel (.region id ops draw) σ fun
    | .normal,σ'=>j_ b σ' κ0 κ1
    |e,σ'=>κ0 e σ'
  |a=>run V S C ann fuel a σ fun
   | .normal,σ'=>j_ b σ' κ0 κ1
   |e,σ'=>κ0 e σ'
 |_,_,_,_=> .none
def kD (Cd:PV U→Oracle U R) (keep:Bool) (hand:List Bool) (fn:Func) (nb:Nat) (κ:Out U→Option R) (h:FuncId) (caps:List (PV U)):Ex U→St U→Option R
 | .normal,σ=>(fq (PV.idsL caps) fun _=>fP [] .none (.func h [] caps) []).cps (Cd .nilIface) σ [] fun
  | .done,σ',_=>(gi V keep hand fn.results.toList nb).cps C σ' [] (fin κ)
  |_,_,_=> .none
 | .ret,σ=>(fq (PV.idsL caps) fun _=>fP [] .none (.func h [] caps) []).cps (Cd .nilIface) σ [] fun
  | .done,σ',_=>(gi V keep hand fn.results.toList nb).cps C σ' [] (fin κ)
  |_,_,_=> .none
 | .panic v,σ=>match v with
  | .iface t (.int k n)=>(fq (PV.idsL caps) fun _=>fP [] .none (.func h [] caps) []).cps (Cd (.iface t (.int k n))) σ [] fun
   | .done,σ',_=>(gi V keep hand fn.results.toList nb).cps C σ' [] (fin κ)
   |_,_,_=> .none
  |_=> .none
 | .exit _,_=> .none
def AC:Code→List Bool→List (St U→Option R)→(Nat→Option Ann)→(Ex U→St U→Option R)→(FuncId→List (PV U)→Ex U→St U→Option R)→Ex U→St U→Option R
 | .seq a b,false::p,rs,an,κ0,κ1=>iE V S C ann fuel a p rs an fun
  | .normal,σ'=>j_ V S C ann fuel b σ' κ0 κ1
  |e,σ'=>κ0 e σ'
 | .seq _ b,true::p,rs,an,κ0,κ1=>AC b p rs an κ0 κ1
 |_,_,_,_,κ0,_=>κ0
def wD (Cd:PV U→Oracle U R) (keep:Bool) (hand:List Bool) (fn:Func) (args:List (PV U)) (boxes:List (Box U)) (κ:Out U→Option R):Option R:=
 j_ V S C ann fuel (eP fn) (eX args boxes) (kF V C keep hand fn boxes.length κ) (kD V C Cd keep hand fn boxes.length κ)
end
end Go.Proofs.YtapmagaejigpnaaGreatDoor.PI
namespace Go.Proofs.YtapmagaejigpnaaGreatDoor.PI
open Go
set_option linter.unusedVariables false
set_option linter.unusedSimpArgs false
section
variable {U:Uni} {V:Env U} {P:Program} {X:Link V P}
inductive RcvOK:PV U→FrameMode→FrameMode→Prop
 |nil:RcvOK .nilIface .returning .returning
 |err (t:TypeId) (k:IntKind) (n:Int):RcvOK (.iface t (.int k n)) (.panicking [{v:= .iface t (.int k n),recovered:=false}]) (.panicking [{v:= .iface t (.int k n),recovered:=true}])
def g9 (P:Program) (u u':FrameMode):FuncId→Array Value→World→(Ending→World→Prop)→Prop:=fun f vs w R=>CallsD P f vs u w fun e u2 w'=>u2=u'∧R e w'
theorem TJ {ops:Array Oper} {cs:List Frame} {Q:Exit→Act→List Frame→World→Prop} (hQ: ¬LetsOut (fun e a' w'=>Q e a' cs w')): ∀ (l:List Nat) (a:Act) (w:World),wpOps P ops (fun e a' w'=>Q e a' cs w') l a w→wpOpsS P ops Q l a cs w:=by
 intro l
 induction l with
 |nil=>intro a w h;exact h
 |cons i l ih=>
  intro a w h
  simp only [wpOps,wpOpsS] at h ⊢
  cases ho:ops[i]? with
  |none=>rw [ho] at h;exact ih _ _ h
  |some o=>
   rw [ho] at h
   simp only at h ⊢
   split
   ·rename_i hw
    rw [if_pos hw] at h
    have h:=h.resolve_right fun h=>hQ h.2
    have h:=Oper.wp_mono ih h
    unfold Oper.wp at h
    split
    ·rename_i w' hrun
     rw [hrun] at h
     exact h.elim
    ·exact h
   ·rename_i hw
    rw [if_neg hw] at h
    exact ih _ _ h
theorem QY (hm:P.follows .mixedOrders=true) (hI:g_ X) {S:Side U} (hS:S.rcv=none) (hpin:S.pin=fun _=>false) {R:Type} {C:Oracle U R} (hC:C.Tells (bS X)) {f:FuncId} {fn:Func} (hf:P.funcs[f]? =some fn)
  (hname:(fn.name== "runtime.NumGoroutine")=false) (hbody:fn.body.isNone=false) (hnt:fn.ntmps=S.nt) (hlow:S.nt≤1000000) {v:PV U} {u u':FrameMode} (hv:RcvOK v u u') {args:List (PV U)} {boxes:List (Box U)} (hargs:args.length≤S.nt)
  {ann:Nat→Option Ann} {fuel:Nat} {keep:Bool} {hand:List Bool} {κ:Out U→Option R} {x:R} (h:wE V S C ann fuel keep hand fn v args boxes κ=some x): ∃out,κ out=some x∧gz X (g9 P u u') f args boxes out:=by
 obtain ⟨code,hcode⟩: ∃code,fn.body=some code:=by
  cases hb:fn.body with
  |none=>rw [hb] at hbody;cases hbody
  |some code=>exact ⟨code,rfl⟩
 unfold wE eP at h
 rw [hcode] at h
 simp only at h
 unfold DN at h
 split at h
 case h_2=>cases h
 rename_i id ops draw b
 split at h
 case h_2=>cases h
 rename_i o more hops
 split at h
 case h_2=>cases h
 rename_i d hrec
 cases hc:(!draw&&(Nat.blt d S.nt&&more.all (aU S.nt))) with
 |false=>rw [hc] at h;cases h
 |true=>
 rw [hc] at h
 simp only [cond_true] at h
 simp only [Bool.and_eq_true,Bool.not_eq_true'] at hc
 obtain ⟨hdraw,hd,hall⟩:=hc
 subst hdraw
 have hd:d<S.nt:=by simpa using hd
 unfold Dx at hrec
 obtain ⟨dst,op,ty,pos,after,gd⟩:=o
 simp only at hrec
 split at hrec
 case h_2=>cases hrec
 rename_i d0 cl
 split at hrec
 case h_2=>cases hrec
 rename_i hcl
 injection hrec with hrec
 subst hrec
 obtain ⟨e1,fps,τ0,τ1,hops1,ht1,hk1⟩:=DM (bS X) V S hC ops.toList more h (St.eqv.refl _)
 cases e1 with
 |exit id=>cases hk1
 |ret=>cases hk1
 |panic v=>cases hk1
 |normal=>
 simp only at hk1
 obtain ⟨e,τ,hbig,hk⟩:=sc (bS X) V S ann hC fuel b hk1
 have hsz:ops.size=more.length+1:=by have:=congrArg List.length hops;simpa using this
 have key: ∀ {out:Out U},(∀ (w:World) (vs:Array Value) (N0:au) (ν:Nat→Nat) (δ:Nat→Option Nat) (hg:Given X w vs N0 ν δ args boxes),
   Lands X (eN w N0 boxes.length args.length ν δ S.nt hlow hg.bnd X.gblk hg.glob) [] e τ (bodyPost P fn (du X w N0 ν δ boxes.length args.length out)))→gz X (g9 P u u') f args boxes out:=by
  intro out hl
  refine ⟨⟨fn,hf,hname,hbody⟩,fun w vs N0 ν δ hg=> ?_⟩
  refine callsD_of_wpS hf hcode fun c₀ cs hu=> ?_
  have hs:=su hg hargs hlow
  rw [hnt]
  have hl:=hl w vs N0 ν δ hg
  generalize hcx:eN w N0 boxes.length args.length ν δ S.nt hlow hg.bnd X.gblk hg.glob=c at hs hl
  have hcnt:c.nt=S.nt:=by rw [←hcx];rfl
  have hOS:jo X (bS X) S c:=j4 hI hS fun d hd=>by rw [hpin] at hd;cases hd
  obtain ⟨val,cs2,hrv,hrep⟩: ∃val cs2,(match recoverD (c₀::cs) with|some (v,cs')=>v=val∧cs'=cs2|none=>val= .nilIface∧cs2=c₀::cs)∧(∃c1:Frame,cs2={c₀ with mode:=u'}::cs)∧ ∀ (w:World) (N:au) (g:Gh U),Rep X w N g val v:=by
   cases hv with
   |nil=>
    refine ⟨.nilIface,c₀::cs, ?_,⟨c₀, ?_⟩,fun _ _ _=> .nilIface⟩
    ·simp [recoverD,hu]
    ·rw [←hu]
   |err t k n=>
    refine ⟨.iface t (.int k n),_, ?_,⟨c₀,rfl⟩,fun _ _ _=> .iface _ _ _ (.int _ _)⟩
    simp [recoverD,hu]
  obtain ⟨⟨_,hcs2⟩,hrep⟩:=hrep
  refine wpS_seq (wpS_region ?_)
  rw [hsz,List.range_eq_range',List.range'_succ]
  have h0:ops[0]? =some ⟨some d0,.call cl,ty,pos,after,none⟩:=by rw [←Array.getElem?_toList,hops];rfl
  simp only [wpOpsS,h0]
  have hrun:(execOp (Act.eval ⟨vs++Array.replicate (S.nt-vs.size) undef,[]⟩) ⟨some d0,.call cl,ty,pos,after,none⟩).run P w= .ok .recover w:=by
   rw [DQ hcl]
   simp [builtin]
  rw [if_pos (by simp [Region.wanted]),hrun]
  simp only
  have hnext:wpOpsS P ops (Exit.thenS (b.wpS P (bodyPostS P fn c₀ cs fun e u2 w'=>u2=u'∧du X w N0 ν δ boxes.length args.length out e w')) (bodyPostS P fn c₀ cs fun e u2 w'=>u2=u'∧du X w N0 ν δ boxes.length args.length out e w')) (List.range' (0+1) more.length)
    (Act.put ⟨vs++Array.replicate (S.nt-vs.size) undef,[]⟩ (some d0) val) cs2 w:=by
   have hs1:=hs.put (d:=d0) (by rw [hcnt];exact hd) (hrep w _ _)
   have hLO: ∀ {next:Act→List Frame→World→Prop},¬LetsOut (fun e a' w'=>Exit.thenS next (bodyPostS P fn c₀ cs fun e u2 w'=>u2=u'∧du X w N0 ν δ boxes.length args.length out e w') e a' cs2 w'):=by
    rintro next ⟨a',w',u2,_,hq⟩
    exact hq
   refine TJ hLO _ _ _ ?_
   refine GG hOS more 1 _ w _ _ _ fps (by rw [hops];rfl) (by rw [hcnt];exact hall) hs1 hops1 ?_
   intro a2 w2 g2 D2 hd2 hs2
   simp only [Exit.thenS]
   refine wpS_of_wp (kn hm hOS hcnt hbig a2 w2 g2 D2 _ (hs2.eqv ht1) ?_)
   intro a3 w3 g3 D3 hd3 hs3
   have hd0:a3.defers=[]:=hd3.trans hd2
   have hb:=hl a3 w3 g3 D3 hd0 hs3
   rw [hcs2]
   cases e with
   |normal=>obtain ⟨q1,v1,q2,q3⟩:=hb;exact ⟨q1,u',rfl,v1,q2,rfl,q3⟩
   |ret=>obtain ⟨q1,v1,q2,q3⟩:=hb;exact ⟨q1,u',rfl,v1,q2,rfl,q3⟩
   |exit id=>exact hb.elim
   |panic pv=>intro val' hval';obtain ⟨q1,q3⟩:=hb val' hval';exact ⟨q1,u',rfl,rfl,q3⟩
  cases hrd:recoverD (c₀::cs) with
  |none=>rw [hrd] at hrv;obtain ⟨rfl,rfl⟩:=hrv;exact hnext
  |some p=>obtain ⟨v1,cs1⟩:=p;rw [hrd] at hrv;obtain ⟨rfl,rfl⟩:=hrv;exact hnext
 cases e with
 |exit id=>cases hk
 |normal=>
  obtain ⟨r,τ0,τ1,gp,hr,ht,hfin⟩:=eQ hC _ hk (St.eqv.refl τ)
  cases r with
  |out o=>
   refine ⟨o,hfin,key fun w vs N0 ν δ hg a' w' g' D' hd hs=> ?_⟩
   obtain ⟨v,h1,h2⟩:=lK g6 hg.dom hs hr
   exact ⟨hd,v,h1,h2⟩
  |_=>cases hfin
 |ret=>
  obtain ⟨r,τ0,τ1,gp,hr,ht,hfin⟩:=eQ hC _ hk (St.eqv.refl τ)
  cases r with
  |out o=>
   refine ⟨o,hfin,key fun w vs N0 ν δ hg a' w' g' D' hd hs=> ?_⟩
   obtain ⟨v,h1,h2⟩:=lK g6 hg.dom hs hr
   exact ⟨hd,v,h1,h2⟩
  |_=>cases hfin
 |panic v=>
  obtain ⟨r,τ0,τ1,gp,hr,ht,hfin⟩:=eQ hC _ hk (St.eqv.refl τ)
  cases r with
  |out o=>
   refine ⟨o,hfin,key fun w vs N0 ν δ hg a' w' g' D' hd hs val hval=> ?_⟩
   exact ⟨hd,vL g6 hg.dom hs hval hr⟩
  |_=>cases hfin
end
end Go.Proofs.YtapmagaejigpnaaGreatDoor.PI
namespace Go.Proofs.YtapmagaejigpnaaGreatDoor.PI
open Go
set_option linter.unusedVariables false
set_option linter.unusedSimpArgs false
section
variable {U:Uni} {V:Env U} {P:Program} {X:Link V P}
def Ctx.refix (c:Ctx) (μ:Nat→Option Nat) (L:List Nat) (hnt:c.nt≤1000000) (hL: ∀id∈L,1000000≤id):Ctx:=
 {c with
  fix:=fun id=>if id∈L then μ id else c.fix id
  low:=fun id k h=>by
   split at h
   ·rename_i h1;exact ⟨hL id h1,Nat.le_trans hnt (hL id h1)⟩
   ·exact c.low id k h}
theorem Sim.refix {c:Ctx} {tm:Array Value} {w:World} {σ:St U} {g:Gh U} {D:Nat→Option Nat} (h:Sim X c tm w σ g D) {L:List Nat} {hnt:c.nt≤1000000} {hL: ∀id∈L,1000000≤id}:
  Sim X (c.refix g.μ L hnt hL) tm w σ g D where
 nt:=h.nt
 regs:=h.regs
 boxes:=h.boxes
 dom:=h.dom
 inj:=h.inj
 new:=h.new
 objs:=h.objs
 nobj:=h.nobj
 dinj:=h.dinj
 dnew:=h.dnew
 dbox:=h.dbox
 ext:=h.ext
 gl:=h.gl
 fix:=fun id k hk=>by
  simp only [Ctx.refix]
  by_cases hin:id∈L
  ·rw [if_pos hin];exact .inl hk
  ·rw [if_neg hin];exact h.fix id k hk
theorem CtxOf.refix {c:Ctx} {tm:Array Value} {w:World} {σ:St U} {g:Gh U} {D:Nat→Option Nat} (h:Sim X c tm w σ g D) {L:List Nat} {hnt:c.nt≤1000000} {hL: ∀id∈L,1000000≤id} (hLμ: ∀id∈L,∃b,g.μ id=some b)
  {w0:World} {N0:au} {n m:Nat} {ν:Nat→Nat} {δ:Nat→Option Nat} (hc:CtxOf c w0 N0 n m ν δ):CtxOf (c.refix g.μ L hnt hL) w0 N0 n m ν δ where
 cw:=hc.cw
 cN:=hc.cN
 bl:=hc.bl
 fix i hi:=by
  simp only [Ctx.refix]
  by_cases hin:ci i∈L
  ·rw [if_pos hin]
   obtain ⟨b,hb⟩:=hLμ _ hin
   rcases h.fix _ _ hb with h1|⟨h1,_⟩
   ·rw [hb,←h1];exact hc.fix i hi
   ·rw [hc.fix i hi] at h1;cases h1
  ·rw [if_neg hin];exact hc.fix i hi
 other id k hk:=by
  simp only [Ctx.refix] at hk
  by_cases hin:id∈L
  ·rw [if_pos hin] at hk
   rcases h.fix _ _ hk with h1|⟨_,h1⟩
   ·exact hc.other id k h1
   ·rw [hc.cw] at h1;exact .inr h1
  ·rw [if_neg hin] at hk;exact hc.other id k hk
 bnd:=hc.bnd
def sM (c':Ctx) (caps:List (PV U)) (us:Array Value):Prop:=us.size=caps.length∧ ∀ (j:Nat) p,caps[j]? =some p→ ∃id off b,p= .ptr id off∧c'.fix id=some b∧us.getD j undef= .pointer (some ⟨b,off,none⟩)
def sO (X:Link V P) (S:Side U) (code:Code) (σ:St U) (h:FuncId) (caps:List (PV U)) (e:Ex U) (τ:St U):Prop:=
 ∀ (c:Ctx),PinOK S c→c.nt=S.nt→ ∀ (a:Act) (w:World) (g:Gh U) (D:Nat→Option Nat) (Q:Exit→Act→World→Prop),Sim X c a.tmps w σ g D→a.defers=[]→
  (∀ (us:Array Value) (c':Ctx),(∀w0 N0 n m ν δ,CtxOf c w0 N0 n m ν δ→CtxOf c' w0 N0 n m ν δ)→c'.nt=c.nt→sM c' caps us→Lands X c' [{target:= .fn (.func h) us,args:= #[]}] e τ Q)→code.wp P Q a w
theorem Km {l:List Oper} {o:Oper} {n:Tmp} (h:um l=some (o,n)): ∃q cl,l=[o,q]∧o.dst=some n∧o.guard=none∧q.dst=none∧q.op= .defer cl∧q.guard=none∧cl.callee= .value (.tmp n)∧cl.args= #[]:=by
 unfold um at h
 split at h
 case h_2=>cases h
 rename_i o' q
 split at h
 case h_2=>cases h
 rename_i m cl h1 h2 h3 h4 h5
 split at h
 case h_2=>cases h
 rename_i n' hcl
 cases hb:(Nat.beq m n'&&cl.args.isEmpty) with
 |false=>rw [hb] at h;cases h
 |true=>
 rw [hb] at h
 injection h with h
 injection h with e1 e2
 subst e1;subst e2
 simp only [Bool.and_eq_true] at hb
 have hmn:m=n':=by simpa using hb.1
 subst hmn
 exact ⟨q,cl,rfl,h1,h2,h3,h4,h5,hcl,by simpa using hb.2⟩
theorem QW (hm:P.follows .mixedOrders=true) (hI:g_ X) {S:Side U} (hS:S.rcv=none) (hlow:S.nt≤1000000) {R:Type} {C:Oracle U R} (hC:C.Tells (bS X)) {ann:Nat→Option Ann} {fuel:Nat}:
  ∀ (code:Code) {σ:St U} {κ0:Ex U→St U→Option R} {κ1:FuncId→List (PV U)→Ex U→St U→Option R} {x:R},j_ V S C ann fuel code σ κ0 κ1=some x→
   (∃e τ,e≠ .normal∧κ0 e τ=some x∧ ∀c,PinOK S c→c.nt=S.nt→oB X c none code σ e τ)∨
   (∃h caps e τ,κ1 h caps e τ=some x∧sO X S code σ h caps e τ):=by
 intro code
 induction code with
 |seq a b iha ihb=>
  intro σ κ0 κ1 x h
  have step:run V S C ann fuel a σ (fun| .normal,σ'=>j_ V S C ann fuel b σ' κ0 κ1|e,σ'=>κ0 e σ')=some x→
    (∃e τ,e≠ .normal∧κ0 e τ=some x∧ ∀c,PinOK S c→c.nt=S.nt→oB X c none (.seq a b) σ e τ)∨
    (∃h caps e τ,κ1 h caps e τ=some x∧sO X S (.seq a b) σ h caps e τ):=by
   intro h
   obtain ⟨e,τ,hbig,hk⟩:=sc (bS X) V S ann hC fuel a h
   have early:e≠ .normal→κ0 e τ=some x→_:=fun he hk=>(.inl ⟨e,τ,he,hk,fun c hP hnt=>kn hm (j4 hI hS hP) hnt (.seqE a b _ _ _ hbig he)⟩:
    (∃e τ,e≠ .normal∧κ0 e τ=some x∧ ∀c,PinOK S c→c.nt=S.nt→oB X c none (.seq a b) σ e τ)∨(∃h caps e τ,κ1 h caps e τ=some x∧sO X S (.seq a b) σ h caps e τ))
   cases e with
   |normal=>
    rcases ihb hk with ⟨e',τ',he',hk',hB⟩|⟨hh,caps,e',τ',hk',hB⟩
    ·exact .inl ⟨e',τ',he',hk',fun c hP hnt a' w g D Q hs hl=>wp_seq (kn hm (j4 hI hS hP) hnt hbig a' w g D _ hs fun a2 w2 g2 D2 hd2 hs2=>hB c hP hnt a2 w2 g2 D2 Q hs2 (by rw [hd2];exact hl))⟩
    ·exact .inr ⟨hh,caps,e',τ',hk',fun c hP hnt a' w g D Q hs hd hl=>wp_seq (kn hm (j4 hI hS hP) hnt hbig a' w g D _ hs fun a2 w2 g2 D2 hd2 hs2=>hB c hP hnt a2 w2 g2 D2 Q hs2 (hd2.trans hd) hl)⟩
   |exit id=>exact early (by simp) hk
   |ret=>exact early (by simp) hk
   |panic v=>exact early (by simp) hk
  clear iha
  unfold j_ at h
  split at h
  case h_2=>exact step h
  rename_i id ops draw
  split at h
  case h_2=>exact step h
  rename_i o n hdfr
  obtain ⟨q,cl,hops,ho1,ho2,hq1,hq2,hq3,hcl,hargs⟩:=Km hdfr
  cases hc:(!draw&&aU S.nt o) with
  |false=>rw [hc] at h;cases h
  |true=>
  rw [hc] at h
  simp only [cond_true] at h
  simp only [Bool.and_eq_true,Bool.not_eq_true'] at hc
  obtain ⟨hdraw,hdo⟩:=hc
  subst hdraw
  obtain ⟨r,τ0,τ,gp,hrel,ht,hk⟩:=eQ hC _ h (St.eqv.refl σ)
  cases r with
  |raise v=>cases hk
  |out o=>cases hk
  |done=>
  simp only at hk
  split at hk
  case h_2=>cases hk
  rename_i hh caps hfun
  cases hp:caps.all PV.pinned with
  |false=>rw [hp] at hk;cases hk
  |true=>
  rw [hp] at hk
  simp only [cond_true] at hk
  obtain ⟨e,τ2,hbig,hk2⟩:=sc (bS X) V {S with pin:=fun _=>false} ann hC fuel b hk
  refine .inr ⟨hh,caps,e,τ2,hk2,fun c hP hnt a w g D Q hs hdef hl=>wp_seq (wp_region ?_)⟩
  have hsz:ops.size=2:=by have:=congrArg List.length hops;simpa using this
  have h0:ops[0]? =some o:=by rw [←Array.getElem?_toList,hops];rfl
  have h1:ops[1]? =some q:=by rw [←Array.getElem?_toList,hops];rfl
  rw [hsz,show List.range 2=[0,1] from rfl]
  simp only [wpOps,h0,h1]
  rw [if_pos (by simp [Region.wanted,ho2])]
  refine .inl (j4 hI hS hP o a w σ g D .done τ0 [] gp _ _ (by rw [hnt];exact hdo) hs hrel ⟨fun _ a2 w2 g2 D2 hd2 hs2=> ?_,fun v hv=>by cases hv⟩)
  rw [if_pos (by simp [Region.wanted,hq3])]
  refine .inl ?_
  have hs3:=hs2.eqv ht
  have hR:=hs3.regs n
  rw [hfun] at hR
  generalize hev:a2.tmps.getD n undef=ev at hR
  cases hR with
  |func _ _ _ vs us hvs hus hf1 hf2=>
  have hvs0:vs= #[]:=by
   have:vs.size=0:=by simpa using hvs
   exact Array.eq_empty_of_size_eq_zero this
  subst hvs0
  obtain ⟨qd,qo,qt,qp,qa,qg⟩:=q
  simp only at hq1 hq2 hq3
  subst hq1;subst hq2;subst hq3
  have hrun:(execOp a2.eval ⟨none,.defer cl,qt,qp,qa,none⟩).run P w2= .ok (.defer {target:= .fn (.func hh) us,args:= #[]}) w2:=by
   have hev':a2.eval (.tmp n)= .func (.func hh) #[] us:=hev
   simp [execOp,resolve,hcl,hargs,hev',Deferred.ofValue]
  unfold Oper.wp
  rw [hrun,Oper.upon_defer]
  have hids: ∀id∈PV.idsL caps,1000000≤id∧ ∃b,g2.μ id=some b:=by
   intro id hid
   obtain ⟨p,hpm,hpi⟩: ∃p∈caps,id∈p.ids:=by
    clear hl hk2 hbig hk hf1 hf2 hus hfun hp h step
    induction caps with
    |nil=>cases hid
    |cons p caps ih=>
     simp only [PV.idsL,List.mem_append] at hid
     rcases hid with hid|hid
     ·exact ⟨p,by simp,hid⟩
     ·obtain ⟨q,hq,hqi⟩:=ih hid;exact ⟨q,by simp [hq],hqi⟩
   have hpp:=List.all_eq_true.1 hp p hpm
   obtain ⟨j,hj⟩:=List.mem_iff_getElem?.1 hpm
   have hr:=hf2 j p hj
   cases p with
   |ptr id' off=>
    simp only [PV.ids,List.mem_singleton] at hpi
    subst hpi
    refine ⟨by simpa [PV.pinned] using hpp, ?_⟩
    generalize us.getD j undef=uv at hr
    cases hr with
    |ptr _ _ b hb=>exact ⟨b,hb⟩
   |_=>cases hpp
  have hcnt:c.nt≤1000000:=by rw [hnt];exact hlow
  refine kn (S:={S with pin:=fun _=>false}) hm (j4 hI hS fun d hd=>by cases hd) (c:=c.refix g2.μ (PV.idsL caps) hcnt fun id hid=>(hids id hid).1) hnt hbig _ w2 g2 D2 Q hs3.refix ?_
  have hld:=hl us (c.refix g2.μ (PV.idsL caps) hcnt fun id hid=>(hids id hid).1) (fun w0 N0 n m ν δ hc=>CtxOf.refix hs3 (fun id hid=>(hids id hid).2) hc) rfl ⟨hus,fun j p hj=> ?_⟩
  ·have hd3:((Act.put {a2 with defers:={target:= .fn (.func hh) us,args:= #[]}::a2.defers} none undef).defers)=[{target:= .fn (.func hh) us,args:= #[]}]:=by
    have:a2.defers=[]:=hd2.trans hdef
    simp [Act.put,this]
   rw [hd3];exact hld
  ·have hpp:=List.all_eq_true.1 hp p (List.mem_of_getElem? hj)
   have hr:=hf2 j p hj
   cases p with
   |ptr id off=>
    have hin:id∈PV.idsL caps:=dJ hj id (by simp [PV.ids])
    generalize us.getD j undef=uv at hr
    cases hr with
    |ptr _ _ b hb=>exact ⟨id,off,b,rfl,by simp only [Ctx.refix];rw [if_pos hin];exact hb,rfl⟩
   |_=>cases hpp
 |_=>intro σ κ0 κ1 x h;cases h
end
end Go.Proofs.YtapmagaejigpnaaGreatDoor.PI
