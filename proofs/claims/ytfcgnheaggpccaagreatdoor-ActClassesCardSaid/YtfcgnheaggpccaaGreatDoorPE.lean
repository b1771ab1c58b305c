/- The symbolic executor: that one order of a drawn region stands for all; code, loops, deferred calls, runs. No condition. -/
import Derived.Test.YtfcgnheaggpccaaGreatDoorPD
import Derived.Scope
namespace Go.SE
open Go.RowKit

section
variable {c : Ctx} {P : Program} {Q : ExS → State → Prop} {ops : Array Oper} {env : Env} {ρ : Val}

theorem dstAt_some {i : Nat} {d : Tmp} (h : dstAt ops i = some d) : ∃ o, ops[i]? = some o ∧ o.dst = some d := by
  unfold dstAt at h
  cases ho : ops[i]? with
  | none => rw [ho] at h; cases h
  | some o => rw [ho] at h; exact ⟨o, rfl, h⟩
theorem dstAt_of {i : Nat} {o : Oper} (h : ops[i]? = some o) : dstAt ops i = o.dst := by unfold dstAt; rw [h]; rfl
theorem lt_of_some {i : Nat} {o : Oper} (h : ops[i]? = some o) : i < ops.size := (Array.getElem?_eq_some_iff.1 h).1
theorem pmAt_of {i j : Nat} {o : Oper} (h : ops[i]? = some o) : (pmAt ops i).testBit j = true ↔ j ∈ preds o := by unfold pmAt; rw [h]; exact has_maskOf
theorem mem_preds {o : Oper} {j : Nat} : j ∈ preds o ↔ ∃ e ∈ o.after, Region.binds .any e = true ∧ e.on = j := by
  unfold preds; simp [List.mem_map, List.mem_filter, and_assoc]

theorem good_pair (hg : goodRegion c ops = true) {q j : Nat} (hq : q < ops.size) (hj : j < ops.size) : goodPair c ops q j = true := by
  unfold goodRegion at hg
  rw [Bool.and_eq_true, List.all_eq_true] at hg
  have h1 := hg.2 q (List.mem_range.2 hq)
  rw [List.all_eq_true] at h1
  exact h1 j (List.mem_range.2 hj)
theorem good_looks (hg : goodRegion c ops = true) {q j : Nat} {o : Oper} {d : Tmp} (hq : ops[q]? = some o) (hj : dstAt ops j = some d) (hl : d ∈ o.looksAt ops) :
    (pmAt ops q).testBit j = true ∨ ((pmAt ops j).testBit q = true ∧ (kindAt c ops j).isLoud = true) := by
  obtain ⟨oj, hoj, _⟩ := dstAt_some hj
  have h := good_pair hg (lt_of_some hq) (lt_of_some hoj)
  unfold goodPair at h
  rw [hq, hj] at h
  simp only [Bool.and_eq_true, Bool.or_eq_true, Bool.not_eq_true'] at h
  rcases h.1 with (h1 | h1) | h1
  · have h2 : (maskOf (o.looksAt ops)).testBit d = true := has_maskOf.2 hl
    rw [h1] at h2; cases h2
  · exact Or.inl h1
  · exact Or.inr h1
theorem good_dst (hg : goodRegion c ops = true) {q j : Nat} {d : Tmp} (hne : q ≠ j) (hq : dstAt ops q = some d) : dstAt ops j ≠ some d := by
  intro hj
  obtain ⟨oq, hoq, hd⟩ := dstAt_some hq
  obtain ⟨oj, hoj, _⟩ := dstAt_some hj
  have h := good_pair hg (lt_of_some hoq) (lt_of_some hoj)
  unfold goodPair at h
  rw [hoq, hj] at h
  simp only [Bool.and_eq_true, Bool.or_eq_true, hd, Nat.beq_eq, Bool.not_eq_true'] at h
  rcases h.2 with h1 | h1
  · exact hne h1
  · simp at h1
theorem good_select (hg : goodRegion c ops = true) {q : Nat} {o : Oper} (hq : ops[q]? = some o) : ∀ cs b, o.op ≠ .select cs b := by
  unfold goodRegion at hg
  rw [Bool.and_eq_true] at hg
  exact fun cs b => Region.noSelect_spec hg.1 q o cs b hq
theorem quiet_not_loud {k : Kind} (h : k.isQuiet = true) : k.isLoud = false := by cases k <;> first | rfl | cases h
theorem lazy_not_loud {k : Kind} (h : k.isLazy = true) : k.isLoud = false := by cases k <;> first | rfl | cases h
theorem lazy_not_quiet {k : Kind} (h : k.isLazy = true) : k.isQuiet = false := by cases k <;> first | rfl | cases h

/-- what is laid already though it is not yet spoken of -/
def EFact (c : Ctx) (P : Program) (ops : Array Oper) (env : Env) (ρ : Val) (V : Nat) (h : Heap) (b : Act) (w : World) (x : Nat × Nat) : Prop :=
  ∃ (o : Oper) (obj : Obj) (vf : Nat → Value), ops[x.1]? = some o ∧ (kindAt c ops x.1).isLazy = true ∧ V.testBit x.1 = false ∧ (∀ j, (pmAt ops x.1).testBit j = true → V.testBit j = true) ∧
    (∀ w1 : World, (execOp b.eval o).run P w1 = .ok (.value (vf w1.heap.size)) (w1.alloc obj)) ∧ (∀ d, o.dst = some d → d < b.tmps.size → b.tmps.getD d undef = vf x.2) ∧ w.heap[x.2]? = some obj ∧ x.2 < w.heap.size ∧ env.w0.heap.size ≤ x.2 ∧ Off ρ h x.2

structure Sit (c : Ctx) (P : Program) (ops : Array Oper) (env : Env) (ρ : Val) (V : Nat) (hd : List Nat) (s : State) (ls : Array Bool) (H : List (Nat × Value)) (E : List (Nat × Nat)) (a : Act) (w : World) : Prop where
  st : RelSt env ρ s (putsH ops H a) w
  lst : ∀ i, i < ops.size → (ls.getD i true = true ↔ (V.testBit i = true ∧ ∀ p ∈ H, p.1 ≠ i) ∨ ∃ x ∈ E, x.1 = i)
  hv : ∀ p ∈ H, V.testBit p.1 = true ∧ (kindAt c ops p.1).isQuiet = true
  hpre : ∀ p ∈ H, (pmAt ops p.1).testBit p.1 = false ∧ ∀ j, (pmAt ops p.1).testBit j = true → V.testBit j = true
  hord : H.Pairwise (fun p q => p.1 ≠ q.1 ∧ (pmAt ops p.1).testBit q.1 = false)
  hy : ∀ p ∈ H, ∃ o, ops[p.1]? = some o ∧ ((∀ w', Yld P ops o p.2 (putsH ops H a) w') ∨ (p.1 ∈ hd ∧ Region.wanted o (yielded ops (putsH ops H a).tmps) = true ∧ ∀ d, o.dst = some d → p.2 = (putsH ops H a).tmps.getD d undef))
  lz : ∀ i d, (kindAt c ops i).isLazy = true → V.testBit i = false → dstAt ops i = some d → s.slot d = .any
  ef : ∀ x ∈ E, EFact c P ops env ρ V s.h (putsH ops H a) w x
  eord : E.Pairwise (fun x y => x.1 ≠ y.1 ∧ x.2 ≠ y.2)
  down : ∀ i, i < ops.size → ls.getD i true = true → ∀ j, (pmAt ops i).testBit j = true → ls.getD j true = true
  size : ls.size = ops.size

variable {V : Nat} {hd : List Nat} {s : State} {ls : Array Bool} {H : List (Nat × Value)} {E : List (Nat × Nat)} {a : Act} {w : World}

theorem Sit.notListed (S : Sit c P ops env ρ V hd s ls H E a w) {p : Nat × Value} (hp : p ∈ H) : ls.getD p.1 true = false := by
  obtain ⟨o, ho, _⟩ := S.hy p hp
  rw [← Bool.not_eq_true]
  intro hl
  rcases (S.lst p.1 (lt_of_some ho)).1 hl with ⟨_, h⟩ | ⟨x, hx, he⟩
  · exact h p hp rfl
  · obtain ⟨o', obj, vf, h1, h2, h3, _⟩ := S.ef x hx
    rw [he, (S.hv p hp).1] at h3; cases h3

/-- what comes up in truth sees nothing of what is put off -/
theorem Sit.sees (S : Sit c P ops env ρ V hd s ls H E a w) (hg : goodRegion c ops = true) {j : Nat} {o : Oper} (hj : ops[j]? = some o) (hpm : ∀ i, (pmAt ops j).testBit i = true → ls.getD i true = true) :
    execOp (putsH ops H a).eval o = execOp a.eval o ∧ Region.wanted o (yielded ops (putsH ops H a).tmps) = Region.wanted o (yielded ops a.tmps) := by
  refine putsH_same (good_select hg hj) H a (fun p hp d hd hl => ?_)
  rcases good_looks hg hj hd hl with h | ⟨_, h⟩
  · have h1 := hpm _ h
    rw [S.notListed hp] at h1; cases h1
  · rw [quiet_not_loud (S.hv p hp).2] at h; cases h

theorem Sit.yld (S : Sit c P ops env ρ V hd s ls H E a w) (K : c.Ok P) (hs : ∀ q ∈ hd, SymHeld c ops s q) {p : Nat × Value} (hp : p ∈ H) : ∃ o, ops[p.1]? = some o ∧ Yld P ops o p.2 (putsH ops H a) w := by
  obtain ⟨o, ho, h⟩ := S.hy p hp
  refine ⟨o, ho, ?_⟩
  rcases h with h | ⟨hm, hw, hv⟩
  · exact h w
  · obtain ⟨o', d, ho', hd', hlt, hq, hk⟩ := hs p.1 hm
    rw [ho] at ho'; injection ho' with ho'; subst ho'
    have hkind : (kindAt c ops p.1).isQuiet = true := (S.hv p hp).2
    have hkind' : (kindOf c o).isQuiet = true := by rw [← kindAt_quiet ho hkind]; exact hkind
    obtain ⟨v, h1, h2⟩ := run_quietS K S.st.ev (fun _ => S.st.rel) (by cases hkk : kindOf c o <;> rw [hkk] at hkind' <;> first | rfl | cases hkind') hq
    have h3 := S.st.slots d
    have h4 := V_det hk h2 h3
    exact Or.inl ⟨hw, by rw [h1, h4, hv d hd']⟩

theorem set_getD {i j : Nat} (hs : i < ls.size) : (ls.setIfInBounds i true).getD j true = true ↔ ls.getD j true = true ∨ j = i := by
  by_cases hij : i = j
  · subst hij; simp [hs]
  · rw [getD_set_ne true hij]
    constructor
    · exact Or.inl
    · rintro (h | h)
      · exact h
      · exact absurd h.symm hij

theorem ready_pm {j : Nat} (hj : j ∈ Region.ready .any ops ls) (hsz : ls.size = ops.size) : ls.getD j true = false ∧ ∃ o, ops[j]? = some o ∧ ∀ i, (pmAt ops j).testBit i = true → ls.getD i true = true := by
  obtain ⟨h0, o, ho, h⟩ := mem_ready.1 hj
  refine ⟨h0, o, ho, fun i hi => ?_⟩
  obtain ⟨e, he, hb, hon⟩ := mem_preds.1 ((pmAt_of ho).1 hi)
  have h1 := h e he hb
  rw [hon] at h1
  rcases Nat.lt_or_ge i ls.size with h' | h'
  · simp [h'] at h1 ⊢; exact h1
  · simp [Array.getElem?_eq_none h'] at h1
theorem ready_of {j : Nat} {o : Oper} (ho : ops[j]? = some o) (h0 : ls.getD j true = false) (hsz : ls.size = ops.size) (hp : ∀ i, (pmAt ops j).testBit i = true → ls.getD i true = true ∧ i < ops.size) : j ∈ Region.ready .any ops ls := by
  refine mem_ready.2 ⟨h0, o, ho, fun e he hb => ?_⟩
  obtain ⟨h1, h2⟩ := hp e.on ((pmAt_of ho).2 (mem_preds.2 ⟨e, he, hb, rfl⟩))
  have h3 : e.on < ls.size := by omega
  simp [h3] at h1 ⊢; exact h1

/-- what was put off comes up -/
theorem Sit.hstep {A B : List (Nat × Value)} {j : Nat} {v : Value} (S : Sit c P ops env ρ V hd s ls (A ++ (j, v) :: B) E a w) (hg : goodRegion c ops = true) (hjs : j < ops.size) (hpm : ∀ i, (pmAt ops j).testBit i = true → ls.getD i true = true) :
    Sit c P ops env ρ V hd s (ls.setIfInBounds j true) (A ++ B) E (a.put (dstAt ops j) v) w := by
  have hlt : j < ls.size := by rw [S.size]; exact hjs
  have hAj : ∀ p ∈ A, p.1 ≠ j := fun p hp => ((List.pairwise_append.1 S.hord).2.2 p hp (j, v) (by simp)).1
  have hBj : ∀ p ∈ B, p.1 ≠ j := fun p hp => Ne.symm ((List.pairwise_cons.1 (List.pairwise_append.1 S.hord).2.1).1 p hp).1
  have heq : putsH ops (A ++ B) (a.put (dstAt ops j) v) = putsH ops (A ++ (j, v) :: B) a := by
    rw [putsH_append, putsH_append, putsH_put A a (fun p hp d hd' => good_dst hg (Ne.symm (hAj p hp)) hd')]
    rfl
  have hmem : ∀ p, p ∈ A ++ B → p ∈ A ++ (j, v) :: B := fun p hp => by
    rcases List.mem_append.1 hp with h | h
    · exact List.mem_append.2 (Or.inl h)
    · exact List.mem_append.2 (Or.inr (List.mem_cons_of_mem _ h))
  have hsub : (A ++ B).Sublist (A ++ (j, v) :: B) := List.Sublist.append (List.Sublist.refl A) (List.sublist_cons_self _ _)
  have hV := (S.hv (j, v) (by simp)).1
  refine ⟨by rw [heq]; exact S.st, fun i hi => ?_, fun p hp => S.hv p (hmem p hp), fun p hp => S.hpre p (hmem p hp), S.hord.sublist hsub, fun p hp => by rw [heq]; exact S.hy p (hmem p hp), S.lz, by rw [heq]; exact S.ef, S.eord, fun i hi hl k hk => ?_, by simp [S.size]⟩
  · rw [set_getD hlt, S.lst i hi]
    constructor
    · rintro ((⟨h1, h2⟩ | h1) | rfl)
      · exact Or.inl ⟨h1, fun p hp => h2 p (hmem p hp)⟩
      · exact Or.inr h1
      · exact Or.inl ⟨hV, fun p hp => by rcases List.mem_append.1 hp with h | h; exact hAj p h; exact hBj p h⟩
    · rintro (⟨h1, h2⟩ | h1)
      · by_cases hij : i = j
        · exact Or.inr hij
        · refine Or.inl (Or.inl ⟨h1, fun p hp => ?_⟩)
          rcases List.mem_append.1 hp with h | h
          · exact h2 p (List.mem_append.2 (Or.inl h))
          · rcases List.mem_cons.1 h with rfl | h
            · exact fun he => hij he.symm
            · exact h2 p (List.mem_append.2 (Or.inr h))
      · exact Or.inl (Or.inr h1)
  · rw [set_getD hlt] at hl ⊢
    rcases hl with hl | rfl
    · exact Or.inl (S.down i hi hl k hk)
    · exact Or.inl (hpm k hk)

/-- the act as it will be takes a value in -/
theorem put_getD_ne {b : Act} {dst : Option Tmp} {v : Value} {d : Tmp} (h : dst ≠ some d) : (b.put dst v).tmps.getD d undef = b.tmps.getD d undef := by
  cases dst with
  | none => rfl
  | some e =>
    have hne : e ≠ d := fun he => h (by rw [he])
    simp only [Act.put]
    rw [Array.getD_eq_getD_getElem?, Array.getD_eq_getD_getElem?, Array.getElem?_setIfInBounds_ne hne]
theorem put_size {b : Act} {dst : Option Tmp} {v : Value} : (b.put dst v).tmps.size = b.tmps.size := by cases dst <;> simp [Act.put]
theorem put_getD_self {b : Act} {v : Value} {d : Tmp} (h : d < b.tmps.size) : (b.put (some d) v).tmps.getD d undef = v := by
  simp only [Act.put]
  rw [Array.getD_eq_getD_getElem?, Array.getElem?_setIfInBounds_self_of_lt h]; rfl

/-- what is laid early, comes up -/
theorem Sit.lstep (S : Sit c P ops env ρ V hd s ls H E a w) (hg : goodRegion c ops = true) {i : Nat} {o : Oper} (ho : ops[i]? = some o) (hk : (kindAt c ops i).isLazy = true) (hV : V.testBit i = false) (hE : ∀ x ∈ E, x.1 ≠ i) (hpV : ∀ j, (pmAt ops i).testBit j = true → V.testBit j = true)
    (hpm : ∀ j, (pmAt ops i).testBit j = true → ls.getD j true = true) {obj : Obj} {vf : Nat → Value} (hrun : ∀ w1 : World, (execOp (putsH ops H a).eval o).run P w1 = .ok (.value (vf w1.heap.size)) (w1.alloc obj)) :
    Sit c P ops env ρ V hd s (ls.setIfInBounds i true) H ((i, w.heap.size) :: E) (a.put o.dst (vf w.heap.size)) (w.alloc obj) := by
  have his := lt_of_some ho
  have hlt : i < ls.size := by rw [S.size]; exact his
  have hHi : ∀ p ∈ H, p.1 ≠ i := fun p hp he => by have := (S.hv p hp).1; rw [he, hV] at this; cases this
  have heq : putsH ops H (a.put o.dst (vf w.heap.size)) = (putsH ops H a).put o.dst (vf w.heap.size) := by
    refine putsH_put H a (fun p hp d hd' => good_dst hg (Ne.symm (hHi p hp)) ?_)
    rw [dstAt_of ho]; exact hd'
  -- an operation that does not look at what i gives
  have blind : ∀ (q : Nat) (oq : Oper), ops[q]? = some oq → (pmAt ops q).testBit i = false → ∀ d, o.dst = some d → d ∉ oq.looksAt ops := by
    intro q oq hq hn d hd' hl
    rcases good_looks hg hq (by rw [dstAt_of ho]; exact hd' : dstAt ops i = some d) hl with h | ⟨_, h⟩
    · rw [hn] at h; cases h
    · rw [lazy_not_loud hk] at h; cases h
  have bl : ∀ (q : Nat), (∀ j, (pmAt ops q).testBit j = true → V.testBit j = true) → (pmAt ops q).testBit i = false := by
    intro q hq
    rw [← Bool.not_eq_true]
    intro h
    rw [hq i h] at hV; cases hV
  have hnew : (w.alloc obj).heap[w.heap.size]? = some obj := by show (w.heap.push obj)[w.heap.size]? = some obj; simp
  refine ⟨?_, fun k hk' => ?_, S.hv, S.hpre, S.hord, fun p hp => ?_, S.lz, ?_, ?_, fun k hks hl m hm => ?_, by simp [S.size]⟩
  · rw [heq]
    have h1 := S.st.put_any (dst := o.dst) (fun d hd' => S.lz i d hk hV (by rw [dstAt_of ho]; exact hd')) (vf w.heap.size)
    exact ⟨h1.size, h1.slots, h1.defers, h1.rel.grow obj⟩
  · rw [set_getD hlt, S.lst k hk']
    constructor
    · rintro ((h | ⟨x, hx, he⟩) | rfl)
      · exact Or.inl h
      · exact Or.inr ⟨x, List.mem_cons_of_mem _ hx, he⟩
      · exact Or.inr ⟨_, List.mem_cons_self, rfl⟩
    · rintro (h | ⟨x, hx, he⟩)
      · exact Or.inl (Or.inl h)
      · rcases List.mem_cons.1 hx with rfl | hx
        · exact Or.inr he.symm
        · exact Or.inl (Or.inr ⟨x, hx, he⟩)
  · obtain ⟨oq, hoq, h⟩ := S.hy p hp
    have hb := blind p.1 oq hoq (bl p.1 (S.hpre p hp).2)
    have e1 := execOp_put oq (good_select hg hoq) (putsH ops H a) o.dst (vf w.heap.size) hb
    have e2 := wanted_put oq (putsH ops H a) o.dst (vf w.heap.size) hb
    refine ⟨oq, hoq, ?_⟩
    rw [heq]
    rcases h with h | ⟨h1, h2, h3⟩
    · exact Or.inl fun w' => (h w').of_same e1 e2
    · refine Or.inr ⟨h1, by rw [e2]; exact h2, fun d hd' => ?_⟩
      rw [put_getD_ne]
      · exact h3 d hd'
      · intro he
        exact good_dst hg (hHi p hp) (by rw [dstAt_of hoq]; exact hd' : dstAt ops p.1 = some d) (by rw [dstAt_of ho]; exact he)
  · intro x hx
    rcases List.mem_cons.1 hx with rfl | hx
    · refine ⟨o, obj, vf, ho, hk, hV, hpV, ?_, fun d hd' hlt' => ?_, hnew, by simp, S.st.rel.kept.size, S.st.rel.off_new⟩
      · rw [heq, execOp_put o (good_select hg ho) _ _ _ (blind i o ho (bl i hpV))]; exact hrun
      · rw [heq] at hlt' ⊢
        rw [put_size] at hlt'
        rw [hd', put_getD_self hlt']
    · obtain ⟨oe, obj', vf', h1, h2, h3, h4, h5, h6, h7, h8, h9, h10⟩ := S.ef x hx
      refine ⟨oe, obj', vf', h1, h2, h3, h4, ?_, fun d hd' hlt' => ?_, ?_, by simp; omega, h9, h10⟩
      · rw [heq, execOp_put oe (good_select hg h1) _ _ _ (blind x.1 oe h1 (bl x.1 h4))]; exact h5
      · rw [heq] at hlt' ⊢
        rw [put_size] at hlt'
        rw [put_getD_ne]
        · exact h6 d hd' hlt'
        · intro he
          exact good_dst hg (hE x hx) (by rw [dstAt_of h1]; exact hd' : dstAt ops x.1 = some d) (by rw [dstAt_of ho]; exact he)
      · rw [Below.heap_alloc _ _ _ h8]; exact h7
  · refine List.pairwise_cons.2 ⟨fun x hx => ⟨Ne.symm (hE x hx), ?_⟩, S.eord⟩
    obtain ⟨oe, obj', vf', h1, h2, h3, h4, h5, h6, h7, h8, h9, h10⟩ := S.ef x hx
    show w.heap.size ≠ x.2
    omega
  · rw [set_getD hlt] at hl ⊢
    rcases hl with hl | rfl
    · exact Or.inl (S.down k hks hl m hm)
    · exact Or.inl (hpm m hm)

/-- a quiet operation is taken first -/
theorem Sit.qstep (S : Sit c P ops env ρ V hd s ls H E a w) (hg : goodRegion c ops = true) {i : Nat} {o : Oper} (ho : ops[i]? = some o) (hk : (kindAt c ops i).isQuiet = true) (hV : V.testBit i = false) (hpV : ∀ j, (pmAt ops i).testBit j = true → V.testBit j = true)
    {v : Value} {hd' : List Nat} {s' : State} (hhd : ∀ q ∈ hd, q ∈ hd')
    (hs : RelSt env ρ s' ((putsH ops H a).put o.dst v) w) (hh : s'.h = s.h) (hsl : ∀ d, o.dst ≠ some d → s'.slot d = s.slot d)
    (hy : (∀ w', Yld P ops o v (putsH ops H a) w') ∨ (i ∈ hd' ∧ Region.wanted o (yielded ops (putsH ops H a).tmps) = true ∧ ∀ d, o.dst = some d → d < (putsH ops H a).tmps.size)) :
    Sit c P ops env ρ (addm V i) hd' s' ls (H ++ [(i, v)]) E a w := by
  have his := lt_of_some ho
  have hHi : ∀ p ∈ H, p.1 ≠ i := fun p hp he => by have := (S.hv p hp).1; rw [he, hV] at this; cases this
  have heq : putsH ops (H ++ [(i, v)]) a = (putsH ops H a).put o.dst v := by rw [putsH_append]; show (putsH ops H a).put (dstAt ops i) v = _; rw [dstAt_of ho]
  have blind : ∀ (q : Nat) (oq : Oper), ops[q]? = some oq → (pmAt ops q).testBit i = false → ∀ d, o.dst = some d → d ∉ oq.looksAt ops := by
    intro q oq hq hn d hd' hl
    rcases good_looks hg hq (by rw [dstAt_of ho]; exact hd' : dstAt ops i = some d) hl with h | ⟨_, h⟩
    · rw [hn] at h; cases h
    · rw [quiet_not_loud hk] at h; cases h
  have bl : ∀ (q : Nat), (∀ j, (pmAt ops q).testBit j = true → V.testBit j = true) → (pmAt ops q).testBit i = false := by
    intro q hq
    rw [← Bool.not_eq_true]
    intro h
    rw [hq i h] at hV; cases hV
  have hEi : ∀ x ∈ E, x.1 ≠ i := fun x hx he => by
    obtain ⟨oe, obj', vf', h1, h2, _⟩ := S.ef x hx
    rw [he] at h2
    rw [lazy_not_quiet h2] at hk; cases hk
  have hmem : ∀ p, p ∈ H ++ [(i, v)] → p ∈ H ∨ p = (i, v) := fun p hp => by
    rcases List.mem_append.1 hp with h | h
    · exact Or.inl h
    · exact Or.inr (by simpa using h)
  refine ⟨by rw [heq]; exact hs, fun k hks => ?_, fun p hp => ?_, fun p hp => ?_, ?_, fun p hp => ?_, fun k d hkk hkV hkd => ?_, fun x hx => ?_, S.eord, S.down, S.size⟩
  · rw [S.lst k hks]
    constructor
    · rintro (⟨h1, h2⟩ | h)
      · refine Or.inl ⟨has_addm.2 (Or.inl h1), fun p hp => ?_⟩
        rcases hmem p hp with h | rfl
        · exact h2 p h
        · rintro rfl; rw [hV] at h1; cases h1
      · exact Or.inr h
    · rintro (⟨h1, h2⟩ | h)
      · refine Or.inl ⟨?_, fun p hp => h2 p (List.mem_append.2 (Or.inl hp))⟩
        rcases has_addm.1 h1 with h | h
        · exact h
        · exact absurd h.symm (h2 (i, v) (by simp))
      · exact Or.inr h
  · rcases hmem p hp with h | rfl
    · exact ⟨has_addm.2 (Or.inl (S.hv p h).1), (S.hv p h).2⟩
    · exact ⟨has_addm.2 (Or.inr rfl), hk⟩
  · rcases hmem p hp with h | rfl
    · exact ⟨(S.hpre p h).1, fun j hj => has_addm.2 (Or.inl ((S.hpre p h).2 j hj))⟩
    · exact ⟨bl i hpV, fun j hj => has_addm.2 (Or.inl (hpV j hj))⟩
  · refine List.pairwise_append.2 ⟨S.hord, by simp, fun p hp q hq => ?_⟩
    have hq' : q = (i, v) := by simpa using hq
    subst hq'
    exact ⟨hHi p hp, bl p.1 (S.hpre p hp).2⟩
  · rw [heq]
    rcases hmem p hp with h | rfl
    · obtain ⟨oq, hoq, h'⟩ := S.hy p h
      have hb := blind p.1 oq hoq (bl p.1 (S.hpre p h).2)
      have e1 := execOp_put oq (good_select hg hoq) (putsH ops H a) o.dst v hb
      have e2 := wanted_put oq (putsH ops H a) o.dst v hb
      refine ⟨oq, hoq, ?_⟩
      rcases h' with h' | ⟨h1, h2, h3⟩
      · exact Or.inl fun w' => (h' w').of_same e1 e2
      · refine Or.inr ⟨hhd _ h1, by rw [e2]; exact h2, fun d hd' => ?_⟩
        rw [put_getD_ne]
        · exact h3 d hd'
        · intro he
          exact good_dst hg (hHi p h) (by rw [dstAt_of hoq]; exact hd' : dstAt ops p.1 = some d) (by rw [dstAt_of ho]; exact he)
    · have hb := blind i o ho (bl i hpV)
      have e1 := execOp_put o (good_select hg ho) (putsH ops H a) o.dst v hb
      have e2 := wanted_put o (putsH ops H a) o.dst v hb
      refine ⟨o, ho, ?_⟩
      rcases hy with hy | ⟨h1, h2, h3⟩
      · exact Or.inl fun w' => (hy w').of_same e1 e2
      · refine Or.inr ⟨h1, by rw [e2]; exact h2, fun d hd' => ?_⟩
        rw [hd', put_getD_self (h3 d hd')]
  · have hki : k ≠ i := by rintro rfl; rw [lazy_not_quiet hkk] at hk; cases hk
    rw [hsl d (fun he => good_dst hg hki hkd (by rw [dstAt_of ho]; exact he))]
    refine S.lz k d hkk ?_ hkd
    rw [← Bool.not_eq_true] at hkV ⊢
    exact fun h => hkV (has_addm.2 (Or.inl h))
  · obtain ⟨oe, obj', vf', h1, h2, h3, h4, h5, h6, h7, h8, h9, h10⟩ := S.ef x hx
    refine ⟨oe, obj', vf', h1, h2, ?_, fun j hj => has_addm.2 (Or.inl (h4 j hj)), ?_, fun d hd' hlt' => ?_, h7, h8, h9, by rw [hh]; exact h10⟩
    · rw [← Bool.not_eq_true] at h3 ⊢
      intro h
      rcases has_addm.1 h with h | h
      · exact h3 h
      · exact hEi x hx h
    · rw [heq, execOp_put oe (good_select hg h1) _ _ _ (blind x.1 oe h1 (bl x.1 h4))]; exact h5
    · rw [heq] at hlt' ⊢
      rw [put_size] at hlt'
      rw [put_getD_ne]
      · exact h6 d hd' hlt'
      · intro he
        exact good_dst hg (hEi x hx) (by rw [dstAt_of h1]; exact hd' : dstAt ops x.1 = some d) (by rw [dstAt_of ho]; exact he)
end
end Go.SE

namespace Go.SE
open Go.RowKit

section
variable {c : Ctx} {P : Program} {Q : ExS → State → Prop} {ops : Array Oper} {env : Env} {ρ : Val}
variable {V : Nat} {hd : List Nat} {s : State} {ls : Array Bool} {H : List (Nat × Value)} {E : List (Nat × Nat)} {a : Act} {w : World}

theorem add_false {V i k : Nat} (h : (addm V i).testBit k = false) : V.testBit k = false ∧ k ≠ i := by
  constructor
  · rw [← Bool.not_eq_true] at h ⊢
    exact fun hv => h (has_addm.2 (Or.inl hv))
  · rintro rfl
    rw [has_addm.2 (Or.inr rfl)] at h; cases h

/-- what is laid already is spoken of -/
theorem Sit.astep {A B : List (Nat × Nat)} {i b : Nat} (S : Sit c P ops env ρ V hd s ls H (A ++ (i, b) :: B) a w) (K : c.Ok P) (hg : goodRegion c ops = true) {o : Oper} (ho : ops[i]? = some o) (hfit : s.fits o.dst = true) {out : Out} {Qh : SV → Heap → Prop} (hout : opS c o s.ev s.h s.h.n = .out out) (hq : out.holds Qh) :
    ∃ sv h' ρ', ρ.le ρ' ∧ Qh sv h' ∧ Sit c P ops env ρ' (addm V i) hd (s.put o.dst sv h') ls H (A ++ B) a w := by
  obtain ⟨oe, obj, vf, h1, hk, h3, h4, h5, h6, h7, h8, h9, h10⟩ := S.ef (i, b) (by simp)
  simp only at h1 h3 h4 h6 h7 h8 h9 h10 hk
  rw [ho] at h1; injection h1 with h1; subst h1
  have hkk : (kindOf c o).isLazy = true := by rw [← kindAt_lazy ho hk]; exact hk
  obtain ⟨sv, r, act, he, hlz, hfree, hQ⟩ := run_lazyS (ρ := ρ) K S.st.ev hout (by cases hx : kindOf c o <;> rw [hx] at hkk <;> first | rfl | cases hkk) hq
  obtain ⟨obj', vf', cp, hr, hv, hh⟩ := hlz
  have hboth : obj = obj' ∧ vf b = vf' b := by
    have g1 := h5 { w with heap := w.heap.extract 0 b }
    rw [he] at g1
    simp only [Sem.run_bind, hr, Result.andThen_ok, Sem.run_pure, Result.ok.injEq, Next.value.injEq] at g1
    have hsz : (w.heap.extract 0 b).size = b := by simp; omega
    rw [hsz] at g1
    refine ⟨?_, g1.1.symm⟩
    have g2 : ((w.heap.extract 0 b).push obj') = ((w.heap.extract 0 b).push obj) := congrArg World.heap g1.2
    exact (Array.push_eq_push.1 g2).1.symm
  obtain ⟨rfl, hvf⟩ := hboth
  obtain ⟨hle, hrel⟩ := S.st.rel.adopt hfree (b := b) (cp := cp) (r := r) (Or.inl h9) (fun j s' b' c' g1 g2 g3 => h10.1 j true s' b' c' g1 g2 g3) (fun k x j q b' c' g1 g2 => Or.inr (h10.2 k x j q b' c' g1 g2)) (hh ρ b w (Val.le.refl ρ) h7)
  have hAB : ∀ x, x ∈ A ++ B → x ∈ A ++ (i, b) :: B := fun x hx => by
    rcases List.mem_append.1 hx with h | h
    · exact List.mem_append.2 (Or.inl h)
    · exact List.mem_append.2 (Or.inr (List.mem_cons_of_mem _ h))
  have hne : ∀ x, x ∈ A ++ B → x.1 ≠ i ∧ x.2 ≠ b := fun x hx => by
    have h1 := List.pairwise_append.1 S.eord
    rcases List.mem_append.1 hx with h | h
    · exact h1.2.2 x h (i, b) (by simp)
    · have h2 := (List.pairwise_cons.1 h1.2.1).1 x h
      exact ⟨Ne.symm h2.1, Ne.symm h2.2⟩
  have hHi : ∀ p ∈ H, p.1 ≠ i := fun p hp he => by have := (S.hv p hp).1; rw [he, h3] at this; cases this
  refine ⟨sv, _, _, hle, hQ, ?_, fun k hks => ?_, fun p hp => ⟨has_addm.2 (Or.inl (S.hv p hp).1), (S.hv p hp).2⟩, fun p hp => ⟨(S.hpre p hp).1, fun j hj => has_addm.2 (Or.inl ((S.hpre p hp).2 j hj))⟩, S.hord, S.hy, fun k d hkk hkV hkd => ?_, fun x hx => ?_, S.eord.sublist (List.Sublist.append (List.Sublist.refl A) (List.sublist_cons_self _ _)), S.down, S.size⟩
  · refine S.st.put_same hle (fun d hd' => ?_) hrel
    have hlt : d < (putsH ops H a).tmps.size := by
      rw [S.st.size]; rw [hd'] at hfit; simpa [State.fits] using hfit
    rw [h6 d hd' hlt, hvf]
    exact hv _ b hle (Val.put_self _ _ _ _)
  · rw [S.lst k hks]
    constructor
    · rintro (⟨g1, g2⟩ | ⟨x, hx, rfl⟩)
      · exact Or.inl ⟨has_addm.2 (Or.inl g1), g2⟩
      · rcases List.mem_append.1 hx with h | h
        · exact Or.inr ⟨x, List.mem_append.2 (Or.inl h), rfl⟩
        · rcases List.mem_cons.1 h with rfl | h
          · exact Or.inl ⟨has_addm.2 (Or.inr rfl), hHi⟩
          · exact Or.inr ⟨x, List.mem_append.2 (Or.inr h), rfl⟩
    · rintro (⟨g1, g2⟩ | ⟨x, hx, rfl⟩)
      · rcases has_addm.1 g1 with g | rfl
        · exact Or.inl ⟨g, g2⟩
        · exact Or.inr ⟨(k, b), by simp, rfl⟩
      · exact Or.inr ⟨x, hAB x hx, rfl⟩
  · obtain ⟨hkV, hki⟩ := add_false hkV
    rw [slot_put, if_neg (fun he => good_dst hg hki hkd (by rw [dstAt_of ho]; exact he))]
    exact S.lz k d hkk hkV hkd
  · obtain ⟨oe, obj2, vf2, g1, g2, g3, g4, g5, g6, g7, g8, g9, g10⟩ := S.ef x (hAB x hx)
    refine ⟨oe, obj2, vf2, g1, g2, ?_, fun j hj => has_addm.2 (Or.inl (g4 j hj)), g5, g6, g7, g8, g9, ?_⟩
    · rw [← Bool.not_eq_true] at g3 ⊢
      intro h
      rcases has_addm.1 h with h | h
      · exact g3 h
      · exact (hne x hx).1 h
    · have hhr := hh ρ b w (Val.le.refl ρ) h7
      refine ⟨?_, ?_⟩
      · intro j y r' b' c' hj hl hρ
        have hj' : (s.h.m.set s.h.n (true, r)).get j = some (y, r') := hj
        rw [T.get_set] at hj'
        unfold Val.put at hρ
        by_cases hji : j = s.h.n
        · rw [if_pos hji] at hρ
          injection hρ with hρ; injection hρ with e1 e2
          rw [← e1]; exact Ne.symm (hne x hx).2
        · rw [if_neg hji] at hρ hj'
          exact g10.1 j y r' b' c' hj' hl hρ
      · intro j y k q b' c' hj hρ
        have hj' : (s.h.m.set s.h.n (true, r)).get j = some (y, .was k q) := hj
        rw [T.get_set] at hj'
        unfold Val.put at hρ
        by_cases hji : j = s.h.n
        · rw [if_pos hji] at hj'; injection hj' with hj'; injection hj' with _ e2; rw [e2] at hhr; exact hhr.elim
        · rw [if_neg hji] at hρ hj'
          exact g10.2 j y k q b' c' hj' hρ

/-- behind a loud operation -/
theorem Sit.after (S : Sit c P ops env ρ V hd s ls H E a w) (hg : goodRegion c ops = true) {l : Nat} {o : Oper} (ho : ops[l]? = some o) (hk : (kindAt c ops l).isLoud = true) (hV : V.testBit l = false) (hpV : ∀ j, (pmAt ops l).testBit j = true → V.testBit j = true)
    (hpm : ∀ j, (pmAt ops l).testBit j = true → ls.getD j true = true) {hd2 : List Nat} (hfil : ∀ p ∈ H, p.1 ∈ hd → p.1 ∈ hd2) {ρ' : Val} {s' : State} {a' b' : Act} {w' : World} (hb : putsH ops H a' = b') (hs : RelSt env ρ' s' b' w')
    (hgd : ∀ d, o.dst ≠ some d → b'.tmps.getD d undef = (putsH ops H a).tmps.getD d undef) (hsz : b'.tmps.size = (putsH ops H a).tmps.size)
    (hsame : ∀ oq : Oper, (∀ cs b, oq.op ≠ .select cs b) → (∀ d, o.dst = some d → d ∉ oq.looksAt ops) → execOp b'.eval oq = execOp (putsH ops H a).eval oq ∧ Region.wanted oq (yielded ops b'.tmps) = Region.wanted oq (yielded ops (putsH ops H a).tmps))
    (hfr : ∀ b, b < w.heap.size → Off ρ s.h b → w'.heap[b]? = w.heap[b]? ∧ Off ρ' s'.h b) (hgrow : w.heap.size ≤ w'.heap.size) :
    Sit c P ops env ρ' (addm V l) hd2 (s'.forget (lazyDsts c ops V)) (ls.setIfInBounds l true) H E a' w' := by
  have hls := lt_of_some ho
  have hlt : l < ls.size := by rw [S.size]; exact hls
  have hHl : ∀ p ∈ H, p.1 ≠ l := fun p hp he => by have := (S.hv p hp).1; rw [he, hV] at this; cases this
  have hEl : ∀ x ∈ E, x.1 ≠ l := fun x hx he => by
    obtain ⟨oe, obj', vf', h1, h2, _⟩ := S.ef x hx
    rw [he] at h2
    rw [lazy_not_loud h2] at hk; cases hk
  have bl : ∀ (q : Nat), (∀ j, (pmAt ops q).testBit j = true → V.testBit j = true) → (pmAt ops q).testBit l = false := by
    intro q hq
    rw [← Bool.not_eq_true]
    intro h
    rw [hq l h] at hV; cases hV
  refine ⟨hb ▸ hs.forget rfl rfl (fun _ _ => rfl), fun k hks => ?_, fun p hp => ⟨has_addm.2 (Or.inl (S.hv p hp).1), (S.hv p hp).2⟩, fun p hp => ⟨(S.hpre p hp).1, fun j hj => has_addm.2 (Or.inl ((S.hpre p hp).2 j hj))⟩, S.hord, fun p hp => ?_, fun k d hkk hkV hkd => ?_, fun x hx => ?_, S.eord, fun i hi hl k hk' => ?_, by simp [S.size]⟩
  · rw [set_getD hlt, S.lst k hks]
    constructor
    · rintro ((⟨g1, g2⟩ | h) | rfl)
      · exact Or.inl ⟨has_addm.2 (Or.inl g1), g2⟩
      · exact Or.inr h
      · exact Or.inl ⟨has_addm.2 (Or.inr rfl), hHl⟩
    · rintro (⟨g1, g2⟩ | h)
      · rcases has_addm.1 g1 with g | rfl
        · exact Or.inl (Or.inl ⟨g, g2⟩)
        · exact Or.inr rfl
      · exact Or.inl (Or.inr h)
  · obtain ⟨oq, hoq, h⟩ := S.hy p hp
    have hbl : ∀ d, o.dst = some d → d ∉ oq.looksAt ops := by
      intro d hd' hl
      rcases good_looks hg hoq (by rw [dstAt_of ho]; exact hd' : dstAt ops l = some d) hl with h | ⟨h, _⟩
      · rw [bl p.1 (S.hpre p hp).2] at h; cases h
      · have h1 := hpm _ h
        rw [S.notListed hp] at h1; cases h1
    obtain ⟨e1, e2⟩ := hsame oq (good_select hg hoq) hbl
    refine ⟨oq, hoq, ?_⟩
    rw [hb]
    rcases h with h | ⟨h1, h2, h3⟩
    · exact Or.inl fun w1 => (h w1).of_same e1 e2
    · refine Or.inr ⟨hfil p hp h1, by rw [e2]; exact h2, fun d hd' => ?_⟩
      rw [hgd d (fun he => good_dst hg (hHl p hp) (by rw [dstAt_of hoq]; exact hd' : dstAt ops p.1 = some d) (by rw [dstAt_of ho]; exact he))]
      exact h3 d hd'
  · obtain ⟨hkV, hki⟩ := add_false hkV
    rw [slot_forget, if_pos]
    obtain ⟨ok, hok, _⟩ := dstAt_some hkd
    unfold lazyDsts
    rw [List.mem_filterMap]
    exact ⟨k, by rw [List.mem_filter, List.mem_range]; exact ⟨lt_of_some hok, by rw [hkV, hkk]; rfl⟩, hkd⟩
  · obtain ⟨oe, obj', vf', h1, h2, h3, h4, h5, h6, h7, h8, h9, h10⟩ := S.ef x hx
    have hbl : ∀ d, o.dst = some d → d ∉ oe.looksAt ops := by
      intro d hd' hl
      rcases good_looks hg h1 (by rw [dstAt_of ho]; exact hd' : dstAt ops l = some d) hl with h | ⟨h, _⟩
      · rw [bl x.1 h4] at h; cases h
      · have := hpV _ h
        rw [h3] at this; cases this
    obtain ⟨e1, e2⟩ := hsame oe (good_select hg h1) hbl
    obtain ⟨f1, f2⟩ := hfr x.2 h8 h10
    obtain ⟨_, fh, _⟩ := forget_n (s := s') (ds := lazyDsts c ops V)
    refine ⟨oe, obj', vf', h1, h2, ?_, fun j hj => has_addm.2 (Or.inl (h4 j hj)), ?_, fun d hd' hlt' => ?_, f1.trans h7, by omega, h9, by rw [fh]; exact f2⟩
    · rw [← Bool.not_eq_true] at h3 ⊢
      intro h
      rcases has_addm.1 h with h | h
      · exact h3 h
      · exact hEl x hx h
    · rw [hb, e1]; exact h5
    · rw [hb] at hlt' ⊢
      rw [hsz] at hlt'
      rw [hgd d (fun he => good_dst hg (hEl x hx) (by rw [dstAt_of h1]; exact hd' : dstAt ops x.1 = some d) (by rw [dstAt_of ho]; exact he))]
      exact h6 d hd' hlt'
  · rw [set_getD hlt] at hl ⊢
    rcases hl with hl | rfl
    · exact Or.inl (S.down i hi hl k hk')
    · exact Or.inl (hpm k hk')

/-- a loud operation comes up -/
theorem Sit.loud (S : Sit c P ops env ρ V hd s ls H E a w) (K : c.Ok P) (hg : goodRegion c ops = true) {l : Nat} {o : Oper} (ho : ops[l]? = some o) (hk : (kindAt c ops l).isLoud = true) (hV : V.testBit l = false) (hpV : ∀ j, (pmAt ops l).testBit j = true → V.testBit j = true)
    (hpm : ∀ j, (pmAt ops l).testBit j = true → ls.getD j true = true) {hd2 : List Nat} (hfil : ∀ p ∈ H, p.1 ∈ hd → p.1 ∈ hd2) {kk : State → Tree} {kkx : ExS → State → Tree} (ht : (runGuarded c ops o s s.h.n kk kkx).holds P Q)
    {next2 : Act → World → Prop} {Qx : Exit → Act → World → Prop}
    (hn : ∀ ρ' s' a' w', ρ.le ρ' → (kk s').holds P Q → Sit c P ops env ρ' (addm V l) hd2 (s'.forget (lazyDsts c ops V)) (ls.setIfInBounds l true) H E a' w' → next2 a' w')
    (hx : ∀ ρ' e' e s' w', ρ.le ρ' → ExRel ρ' e' e → RelSt env ρ' (s'.forget (allDsts ops)) a w' → (kkx e' s').holds P Q → Qx e a w') : wpOp P ops Qx l next2 a w := by
  have hHl : ∀ p ∈ H, p.1 ≠ l := fun p hp he => by have := (S.hv p hp).1; rw [he, hV] at this; cases this
  obtain ⟨e', he0, hrel', hfr, hback⟩ := S.st.rel.reframe
  have hst' : RelSt e' ρ s (putsH ops H a) w := ⟨S.st.size, S.st.slots, S.st.defers, hrel'⟩
  have hrun := runGuarded_sound K ht hst' (next := fun a'' w' => ∃ ρ' s', ρ.le ρ' ∧ RelSt e' ρ' s' a'' w' ∧ (kk s').holds P Q) (Qx := fun e a'' w' => e ≠ .outgrown ∧ ∃ ρ' ex s', ρ.le ρ' ∧ ExRel ρ' ex e ∧ RelSt e' ρ' s' a'' w' ∧ (kkx ex s').holds P Q)
    (fun ρ' s' a' w' h1 h2 h3 => ⟨ρ', s', h1, h2, h3⟩) (fun ρ' e ex s' a' w' h1 h2 h3 h4 => ⟨by
      cases ex with
      | normal => have : e = _ := h2; rw [this]; simp
      | exit id => have : e = _ := h2; rw [this]; simp
      | goto l => have : e = _ := h2; rw [this]; simp
      | ret => have : e = _ := h2; rw [this]; simp
      | pnc v => obtain ⟨u, h2, _⟩ := h2; rw [h2]; simp, ρ', ex, s', h1, h2, h3, h4⟩)
  obtain ⟨hex, hwant⟩ := S.sees hg ho hpm
  have hcomm : ∀ v, putsH ops H (a.put o.dst v) = (putsH ops H a).put o.dst v := fun v => putsH_put H a (fun p hp d hd' => good_dst hg (Ne.symm (hHl p hp)) (by rw [dstAt_of ho]; exact hd'))
  have grow : ∀ ρ' s' a'' w', RelSt e' ρ' s' a'' w' → w.heap.size ≤ w'.heap.size := fun ρ' s' a'' w' h => by have := h.rel.kept.size; rw [he0] at this; exact this
  have fwd : ∀ v w', (∃ ρ' s', ρ.le ρ' ∧ RelSt e' ρ' s' ((putsH ops H a).put o.dst v) w' ∧ (kk s').holds P Q) → next2 (a.put o.dst v) w' := by
    rintro v w' ⟨ρ', s', h1, h2, h3⟩
    refine hn ρ' s' _ w' h1 h3 (S.after hg ho hk hV hpV hpm hfil (hcomm v) ⟨h2.size, h2.slots, h2.defers, hback _ _ _ h2.rel⟩ (fun d hd' => put_getD_ne hd') put_size (fun oq hsel hbl => ⟨execOp_put oq hsel _ _ _ hbl, wanted_put oq _ _ _ hbl⟩) (fun b hb hoff => hfr b hb hoff _ _ _ h2.rel) (grow _ _ _ _ h2))
  have fwdD : ∀ d w', (∃ ρ' s', ρ.le ρ' ∧ RelSt e' ρ' s' (Act.put { putsH ops H a with defers := d :: (putsH ops H a).defers } o.dst undef) w' ∧ (kk s').holds P Q) → next2 (Act.put { a with defers := d :: a.defers } o.dst undef) w' := by
    rintro d w' ⟨ρ', s', h1, h2, h3⟩
    have hc2 : putsH ops H (Act.put { a with defers := d :: a.defers } o.dst undef) = Act.put { putsH ops H a with defers := d :: (putsH ops H a).defers } o.dst undef := by
      rw [putsH_put H _ (fun p hp d hd' => good_dst hg (Ne.symm (hHl p hp)) (by rw [dstAt_of ho]; exact hd')), putsH_defers]
    refine hn ρ' s' _ w' h1 h3 (S.after hg ho hk hV hpV hpm hfil hc2 ⟨h2.size, h2.slots, h2.defers, hback _ _ _ h2.rel⟩ (fun _ ht' => put_getD_ne (b := { putsH ops H a with defers := d :: (putsH ops H a).defers }) ht') (put_size (b := { putsH ops H a with defers := d :: (putsH ops H a).defers })) (fun oq hsel hbl => ⟨execOp_put oq hsel { putsH ops H a with defers := d :: (putsH ops H a).defers } _ _ hbl, wanted_put oq { putsH ops H a with defers := d :: (putsH ops H a).defers } _ _ hbl⟩) (fun b hb hoff => hfr b hb hoff _ _ _ h2.rel) (grow _ _ _ _ h2))
  unfold wpOp
  simp only [ho]
  rw [← hwant]
  cases hw : Region.wanted o (yielded ops (putsH ops H a).tmps) with
  | false =>
    rw [hw, if_neg (by simp)] at hrun
    rw [if_neg (by simp)]
    exact fwd undef w hrun
  | true =>
    rw [hw, if_pos rfl] at hrun
    rw [if_pos rfl]
    refine Or.inl (wp_transfer hrun hex.symm fwd fwdD ?_ ?_)
    · rintro ch w' ⟨_, ρ', ex, s', h1, h2, h3, h4⟩
      refine hx ρ' ex _ s' w' h1 h2 ?_ h4
      have h5 : RelSt env ρ' s' (putsH ops H a) w' := ⟨h3.size, h3.slots, h3.defers, hback _ _ _ h3.rel⟩
      obtain ⟨z1, z2⟩ := putsH_size (ops := ops) H a
      refine h5.forget z1.symm z2.symm (fun i hi => (putsH_getD H a (fun p hp hd' => hi ?_)).symm)
      obtain ⟨op, hop, _⟩ := dstAt_some hd'
      unfold allDsts
      rw [List.mem_filterMap]
      exact ⟨p.1, List.mem_range.2 (lt_of_some hop), hd'⟩
    · rintro ⟨_, _, h, _⟩; exact (h rfl).elim
end
end Go.SE

namespace Go.SE
open Go.RowKit

section
variable {c : Ctx} {P : Program} {Q : ExS → State → Prop} {ops : Array Oper} {env : Env} {ρ : Val}
variable {V : Nat} {hd : List Nat} {s : State} {ls : Array Bool} {H : List (Nat × Value)} {E : List (Nat × Nat)} {a : Act} {w : World}

def HdOk (c : Ctx) (ops : Array Oper) (V : Nat) (hd : List Nat) (s : State) : Prop :=
  ∀ q ∈ hd, SymHeld c ops s q ∧ V.testBit q = true ∧ (∀ j, (pmAt ops q).testBit j = true → V.testBit j = true) ∧ (kindAt c ops q).isRead = true

theorem quietS_congr {o : Oper} {ev ev' : Operand → SV} {h : Heap} (hk : (kindOf c o).isRead = true) (he : ∀ x ∈ o.op.operands, ev x = ev' x) : quietS c o ev h = quietS c o ev' h := by
  obtain ⟨dst, op, ty, pos, after, guard⟩ := o
  cases op <;> simp only [kindOf] at hk <;> try (cases hk; done)
  case load t x => have := he x (by simp [Op.operands]); simp only [quietS, this]
  case convert sr d x => have := he x (by simp [Op.operands]); simp only [quietS, this]
  case call cl =>
    exfalso
    split at hk <;> try (cases hk; done)
    split at hk <;> try (cases hk; done)
    rename_i t _; cases hc : isMapT c t <;> (rw [hc] at hk; cases hk)
  case alloc t => split at hk <;> cases hk
  case makeSlice t l cp => split at hk <;> cases hk
  case buildSlice t n ps => split at hk <;> cases hk

theorem ev_of_slots {s s' : State} {o : Oper} (h : ∀ d, d ∈ o.looksAt ops → s'.slot d = s.slot d) : ∀ x ∈ o.op.operands, s'.ev x = s.ev x := by
  intro x hx
  cases x with
  | tmp t => exact h t (List.mem_append_left _ (List.mem_filterMap.2 ⟨.tmp t, by simpa using hx, rfl⟩))
  | _ => rfl

theorem SymHeld.of_slots {s s' : State} {q : Nat} (h : SymHeld c ops s q) (hk : (kindAt c ops q).isRead = true) (hn : s'.n = s.n) (hh : s'.h = s.h) (hs : ∀ o, ops[q]? = some o → (∀ d, d ∈ o.looksAt ops → s'.slot d = s.slot d) ∧ ∀ d, o.dst = some d → s'.slot d = s.slot d) : SymHeld c ops s' q := by
  obtain ⟨o, d, ho, hd, hlt, hq, hkn⟩ := h
  obtain ⟨h1, h2⟩ := hs o ho
  have hkk : (kindOf c o).isRead = true := by rw [← kindAt_read ho hk]; exact hk
  refine ⟨o, d, ho, hd, by rw [hn]; exact hlt, ?_, by rw [h2 d hd]; exact hkn⟩
  rw [hh, h2 d hd, quietS_congr hkk (ev_of_slots h1)]
  exact hq

theorem quiet1_holds (K : c.Ok P) {o : Oper} {kq : State → Tree} (ht : (quiet1 c o s kq).holds P Q) (hk : (kindOf c o).isQuiet = true) {b : Act} (H : RelSt env ρ s b w) :
    ∃ v s', (kq s').holds P Q ∧ RelSt env ρ s' (b.put o.dst v) w ∧ s'.h = s.h ∧ s'.n = s.n ∧ (∀ d, o.dst ≠ some d → s'.slot d = s.slot d) ∧
      (((kindOf c o).isRead = false ∧ ∀ w', (execOp b.eval o).run P w' = .ok (.value v) w') ∨ ((kindOf c o).isRead = true ∧ ∃ d, o.dst = some d ∧ d < s.n ∧ quietS c o s.ev s.h = some (true, s'.slot d) ∧ (s'.slot d).known = true)) := by
  have hkind : (match kindOf c o with | .read => true | .quiet => true | _ => false) = true := by cases hx : kindOf c o <;> rw [hx] at hk <;> first | rfl | cases hk
  -- a quiet one that is no read yields everywhere the same
  have all : ∀ sv v, (kindOf c o).isRead = false → sv.known = true → quietS c o s.ev s.h = some (true, sv) → (execOp b.eval o).run P w = .ok (.value v) w → V ρ sv v → ∀ w', (execOp b.eval o).run P w' = .ok (.value v) w' := by
    intro sv v hr hkn hq h1 h2 w'
    obtain ⟨v', h3, h4⟩ := run_quietS (w := w') (e := env) K H.ev (fun hc => by cases hx : kindOf c o <;> rw [hx] at hc hr <;> first | (cases hr; done) | (cases hc; done)) hkind hq
    rw [h3, V_det hkn h4 h2]
  unfold quiet1 at ht
  split at ht
  · rename_i d b' sv hd hq
    obtain ⟨rfl, h0, ht⟩ := ht
    rw [Bool.and_eq_true, Nat.blt_eq] at h0
    obtain ⟨v, h1, h2⟩ := run_quietS K H.ev (fun _ => H.rel) hkind hq
    have hself : (s.put (some d) sv s.h).slot d = sv := by rw [slot_put, if_pos rfl]
    refine ⟨v, _, ht, ?_, rfl, rfl, fun d' hd' => ?_, ?_⟩
    · rw [hd]
      exact H.put (d := some d) (Val.le.refl ρ) (by simpa [State.fits] using h0.1) h2 H.rel
    · rw [slot_put, if_neg (by rw [hd] at hd'; exact hd')]
    · cases hr : (kindOf c o).isRead with
      | false => exact Or.inl ⟨rfl, all sv v hr h0.2 hq h1 h2⟩
      | true => exact Or.inr ⟨rfl, d, hd, h0.1, by rw [hself]; exact hq, by rw [hself]; exact h0.2⟩
  · rename_i b' sv hd hq
    cases hr : (kindOf c o).isRead with
    | true => rw [hr] at ht; exact ht.elim
    | false =>
      rw [hr] at ht
      obtain ⟨rfl, h0, ht⟩ := ht
      obtain ⟨v, h1, h2⟩ := run_quietS K H.ev (fun _ => H.rel) hkind hq
      exact ⟨v, s, ht, by rw [hd]; exact H, rfl, rfl, fun _ _ => rfl, Or.inl ⟨rfl, all sv v hr h0 hq h1 h2⟩⟩
  · exact ht.elim

theorem wanted_guard {o : Oper} {b : Act} (H : RelSt env ρ s b w) {j : Nat} {want : Bool} (hg : o.guard = some (j, want)) {d : Tmp} (hd : dstAt ops j = some d) {g : Bool} (hs : (s.slot d).bool? = some g) (hn : d < s.n) : Region.wanted o (yielded ops b.tmps) = eqB g want := by
  have h1 := H.slots d
  rw [SV.bool?_eq hs] at h1
  have h1' : b.tmps.getD d undef = .bool g := h1
  have hq : b.tmps[d]? = some (.bool g) := by
    have hlt : d < b.tmps.size := by rw [H.size]; exact hn
    rw [Array.getD_eq_getD_getElem?, Array.getElem?_eq_getElem hlt] at h1'
    rw [Array.getElem?_eq_getElem hlt]; exact congrArg some h1'
  have hy : yielded ops b.tmps j = some g := by
    have hd' : (ops[j]?).bind (·.dst) = some d := hd
    unfold yielded
    rw [hd']
    simp [hq]
  unfold Region.wanted
  rw [hg]
  simp only [hy]
  cases g <;> cases want <;> rfl

theorem slot_refl {s : State} {d : Nat} {sv : SV} (h : s.slot d = sv) (i : Nat) : (s.put (some d) sv s.h).slot i = s.slot i := by
  rw [slot_put]
  by_cases hid : some d = some i
  · rw [if_pos hid]; injection hid with hid; subst hid; exact h.symm
  · rw [if_neg hid]

/-- a quiet operation, as the executor takes it -/
theorem Sit.quiet (S : Sit c P ops env ρ V hd s ls H E a w) (K : c.Ok P) (hg : goodRegion c ops = true) (hhd : HdOk c ops V hd s) {i : Nat} {o : Oper} (ho : ops[i]? = some o) (hk : (kindAt c ops i).isQuiet = true) (hV : V.testBit i = false) (hpV : ∀ j, (pmAt ops i).testBit j = true → V.testBit j = true)
    {kq : Bool → State → Tree} (ht : (quietG c ops o s kq).holds P Q) :
    ∃ wd s' v, (kq wd s').holds P Q ∧ Sit c P ops env ρ (addm V i) (bif wd && (kindOf c o).isRead then i :: hd else hd) s' ls (H ++ [(i, v)]) E a w ∧ HdOk c ops (addm V i) (bif wd && (kindOf c o).isRead then i :: hd else hd) s' := by
  have hkk : (kindOf c o).isQuiet = true := by rw [← kindAt_quiet ho hk]; exact hk
  have hnl := quiet_not_loud hk
  have selfblind : ∀ d, o.dst = some d → d ∉ o.looksAt ops := by
    intro d hd' hl
    rcases good_looks hg ho (by rw [dstAt_of ho]; exact hd' : dstAt ops i = some d) hl with h | ⟨_, h⟩
    · rw [hpV i h] at hV; cases hV
    · rw [hnl] at h; cases h
  -- what was held stays held
  have keep : ∀ s', s'.n = s.n → s'.h = s.h → (∀ d, o.dst ≠ some d → s'.slot d = s.slot d) → ∀ q ∈ hd, SymHeld c ops s' q ∧ (addm V i).testBit q = true ∧ (∀ j, (pmAt ops q).testBit j = true → (addm V i).testBit j = true) ∧ (kindAt c ops q).isRead = true := by
    intro s' hn hh hsl q hq
    obtain ⟨h1, h2, h3, h4⟩ := hhd q hq
    refine ⟨h1.of_slots h4 hn hh (fun oq hoq => ⟨fun d hl => hsl d (fun he => ?_), fun d hd' => hsl d (fun he => ?_)⟩), has_addm.2 (Or.inl h2), fun j hj => has_addm.2 (Or.inl (h3 j hj)), h4⟩
    · rcases good_looks hg hoq (by rw [dstAt_of ho]; exact he : dstAt ops i = some d) hl with h | ⟨_, h⟩
      · rw [h3 i h] at hV; cases hV
      · rw [hnl] at h; cases h
    · have hqi : q ≠ i := by rintro rfl; rw [h2] at hV; cases hV
      exact good_dst hg hqi (by rw [dstAt_of hoq]; exact hd' : dstAt ops q = some d) (by rw [dstAt_of ho]; exact he)
  -- it is carried out, in a state that says the same as s
  have done : ∀ s1 kq1, s1.n = s.n → s1.h = s.h → s1.ds = s.ds → (∀ d, s1.slot d = s.slot d) → Region.wanted o (yielded ops (putsH ops H a).tmps) = true → (quiet1 c o s1 kq1).holds P Q →
      ∃ s' v, (kq1 s').holds P Q ∧ Sit c P ops env ρ (addm V i) (bif (kindOf c o).isRead then i :: hd else hd) s' ls (H ++ [(i, v)]) E a w ∧ HdOk c ops (addm V i) (bif (kindOf c o).isRead then i :: hd else hd) s' := by
    intro s1 kq1 hn1 hh1 hd1 hs1 hw ht1
    have hst1 : RelSt env ρ s1 (putsH ops H a) w := ⟨by rw [hn1]; exact S.st.size, fun d => by rw [hs1]; exact S.st.slots d, by rw [hd1]; exact S.st.defers, by rw [hh1]; exact S.st.rel⟩
    obtain ⟨v, s', hq', hst', hh', hn', hsl', hy'⟩ := quiet1_holds K ht1 hkk hst1
    have hsub : ∀ q ∈ hd, q ∈ (bif (kindOf c o).isRead then i :: hd else hd) := fun q hq => by cases (kindOf c o).isRead <;> simp [hq]
    refine ⟨s', v, hq', S.qstep hg ho hk hV hpV hsub hst' (hh'.trans hh1) (fun d hd' => (hsl' d hd').trans (hs1 d)) ?_, fun q hq => ?_⟩
    · rcases hy' with hy' | ⟨hr, d, hd', hlt, _⟩
      · exact Or.inl fun w' => Or.inl ⟨hw, hy'.2 w'⟩
      · refine Or.inr ⟨by rw [hr]; simp, hw, fun d' hd2 => ?_⟩
        rw [hd'] at hd2; injection hd2 with hd2; subst hd2
        rw [S.st.size, ← hn1]; exact hlt
    · have hold := keep s' (hn'.trans hn1) (hh'.trans hh1) (fun d hd' => (hsl' d hd').trans (hs1 d))
      rcases hy' with hy' | ⟨hr, d, hd', hlt, hqs, hkn⟩
      · rw [hy'.1] at hq; exact hold q hq
      · rw [hr] at hq
        rcases List.mem_cons.1 hq with rfl | hq
        · refine ⟨⟨o, d, ho, hd', by rw [hn']; exact hlt, ?_, hkn⟩, has_addm.2 (Or.inr rfl), fun j hj => has_addm.2 (Or.inl (hpV j hj)), by rw [kindAt_quiet ho hk]; exact hr⟩
          rw [hh', quietS_congr hr (ev_of_slots (ops := ops) (fun d1 hl => hsl' d1 (fun he => selfblind d1 he hl)))]
          exact hqs
        · exact hold q hq
  unfold quietG at ht
  split at ht
  · rename_i hgd
    have hw : Region.wanted o (yielded ops (putsH ops H a).tmps) = true := by unfold Region.wanted; rw [hgd]
    obtain ⟨s', v, h1, h2, h3⟩ := done s (kq true) rfl rfl rfl (fun _ => rfl) hw ht
    exact ⟨true, s', v, h1, h2, h3⟩
  · rename_i j want hgd
    split at ht <;> try (exact ht.elim)
    rename_i d0 hd0
    split at ht
    rotate_left
    · cases hf : ((s.slot d0).void && s.fits o.dst) with
      | false => rw [hf] at ht; exact ht.elim
      | true =>
        rw [hf] at ht
        simp only [cond_true] at ht
        rw [Bool.and_eq_true] at hf
        have hwv := wanted_void S.st hgd hd0 hf.1
        have hsl : ∀ d, o.dst ≠ some d → (s.put o.dst (.lit undef) s.h).slot d = s.slot d := fun d hd' => by rw [slot_put, if_neg hd']
        refine ⟨false, _, undef, ht, ?_, keep _ rfl rfl hsl⟩
        exact S.qstep hg ho hk hV hpV (fun q hq => hq) (S.st.put (Val.le.refl ρ) hf.2 (sv := .lit undef) rfl S.st.rel) rfl hsl (Or.inl fun w' => Or.inr ⟨hwv, rfl⟩)
    rename_i g hgs
    cases hf : (Nat.blt d0 s.n && s.fits o.dst) with
    | false => rw [hf] at ht; exact ht.elim
    | true =>
      rw [hf] at ht
      simp only [cond_true] at ht
      rw [Bool.and_eq_true, Nat.blt_eq] at hf
      have hwg := wanted_guard (o := o) S.st hgd hd0 hgs hf.1
      have hsb := SV.bool?_eq hgs
      obtain ⟨htt, htf⟩ := ht
      cases hw : eqB g want with
      | true =>
        have hgw : g = want := by rw [eqB_eq] at hw; simpa using hw
        subst hgw
        obtain ⟨s', v, h1, h2, h3⟩ := done (s.put (some d0) (.lit (.bool g)) s.h) (kq true) rfl rfl rfl (slot_refl hsb) (by rw [hwg, hw]) (htt hw)
        exact ⟨true, s', v, h1, h2, h3⟩
      | false =>
        have hgw : g = !want := by rw [eqB_eq] at hw; cases g <;> cases want <;> simp at hw ⊢
        subst hgw
        have hsl : ∀ d, o.dst ≠ some d → ((s.put (some d0) (.lit (.bool (!want))) s.h).put o.dst (.lit undef) s.h).slot d = s.slot d := fun d hd' => by rw [slot_put, if_neg hd', slot_refl hsb]
        refine ⟨false, _, undef, htf hw, ?_, keep _ rfl rfl hsl⟩
        refine S.qstep hg ho hk hV hpV (fun q hq => hq) ?_ rfl hsl (Or.inl fun w' => Or.inr ⟨by rw [hwg, hw], rfl⟩)
        have h1 : RelSt env ρ (s.put (some d0) (.lit (.bool (!want))) s.h) (putsH ops H a) w := ⟨S.st.size, fun d => by rw [slot_refl hsb]; exact S.st.slots d, S.st.defers, S.st.rel⟩
        exact h1.put (Val.le.refl ρ) hf.2 (sv := .lit undef) rfl S.st.rel
end
end Go.SE

namespace Go.SE
open Go.RowKit

section
variable {c : Ctx} {P : Program} {Q : ExS → State → Prop} {ops : Array Oper} {env : Env} {ρ : Val}
variable {V : Nat} {hd : List Nat} {s : State} {ls : Array Bool} {H : List (Nat × Value)} {E : List (Nat × Nat)} {a : Act} {w : World}

/-! what goes before -/
theorem ancGo_prefix : ∀ (os : List Oper) (acc : List Nat), ∃ r, ancGo os acc = acc ++ r
  | [], acc => ⟨[], by simp [ancGo]⟩
  | o :: os, acc => by
    obtain ⟨r, hr⟩ := ancGo_prefix os (acc ++ [(preds o).foldr (fun j m => Nat.lor (addm (acc.getD j 0) j) m) 0])
    exact ⟨_ :: r, by rw [ancGo, hr, List.append_assoc]; rfl⟩
theorem foldr_lor {f : Nat → Nat} {q : Nat} : ∀ {l : List Nat}, (l.foldr (fun j m => Nat.lor (f j) m) 0).testBit q = true → ∃ j ∈ l, (f j).testBit q = true
  | [], h => by simp at h
  | j :: l, h => by
    rw [List.foldr_cons, has_lor, Bool.or_eq_true] at h
    rcases h with h | h
    · exact ⟨j, by simp, h⟩
    · obtain ⟨k, hk, h⟩ := foldr_lor h
      exact ⟨k, List.mem_cons_of_mem _ hk, h⟩
theorem ancGo_spec : ∀ (os : List Oper) (acc : List Nat) (i : Nat) (o : Oper), os[i]? = some o → ∀ q, ((ancGo os acc).getD (acc.length + i) 0).testBit q = true →
    ∃ j ∈ preds o, q = j ∨ (j < acc.length + i ∧ ((ancGo os acc).getD j 0).testBit q = true)
  | [], acc, i, o, h, q, hq => by simp at h
  | o' :: os, acc, i, o, h, q, hq => by
    rw [ancGo] at hq ⊢
    cases i with
    | zero =>
      simp at h; subst h
      obtain ⟨r, hr⟩ := ancGo_prefix os (acc ++ [(preds o').foldr (fun j m => Nat.lor (addm (acc.getD j 0) j) m) 0])
      rw [hr] at hq ⊢
      have h1 : ((acc ++ [(preds o').foldr (fun j m => Nat.lor (addm (acc.getD j 0) j) m) 0] ++ r).getD (acc.length + 0) 0) = (preds o').foldr (fun j m => Nat.lor (addm (acc.getD j 0) j) m) 0 := by
        rw [List.append_assoc, List.getD_eq_getElem?_getD, List.getElem?_append_right (by simp)]; simp
      rw [h1] at hq
      obtain ⟨j, hj, h2⟩ := foldr_lor hq
      refine ⟨j, hj, ?_⟩
      rcases has_addm.1 h2 with h3 | h3
      · right
        have hlt : j < acc.length := by
          rcases Nat.lt_or_ge j acc.length with h4 | h4
          · exact h4
          · rw [List.getD_eq_getElem?_getD, List.getElem?_eq_none h4] at h3; simp at h3
        refine ⟨by omega, ?_⟩
        rw [List.append_assoc, List.getD_eq_getElem?_getD, List.getElem?_append_left hlt, ← List.getD_eq_getElem?_getD]
        exact h3
      · exact Or.inl h3
    | succ i =>
      simp at h
      have h1 : acc.length + (i + 1) = (acc ++ [(preds o').foldr (fun j m => Nat.lor (addm (acc.getD j 0) j) m) 0]).length + i := by simp; omega
      rw [h1] at hq ⊢
      exact ancGo_spec os _ i o h q hq

/-- what has come up has come up with all that goes before it -/
theorem anc_listed (hdown : ∀ i, i < ops.size → ls.getD i true = true → ∀ j, (pmAt ops i).testBit j = true → ls.getD j true = true) : ∀ (i : Nat), i < ops.size → (∀ j, (pmAt ops i).testBit j = true → ls.getD j true = true) → ∀ q, ((ancs ops).getD i 0).testBit q = true → ls.getD q true = true := by
  intro i
  induction i using Nat.strongRecOn with
  | _ i ih =>
    intro hi hp q hq
    have ho : ops[i]? = some ops[i] := by rw [Array.getElem?_eq_getElem hi]
    unfold ancs at hq
    have hq' : ((ancGo ops.toList []).getD (([] : List Nat).length + i) 0).testBit q = true := by simpa using hq
    obtain ⟨j, hj, h⟩ := ancGo_spec ops.toList [] i ops[i] (by simp) q hq'
    have hlj := hp j ((pmAt_of ho).2 hj)
    rcases h with rfl | ⟨hlt, h⟩
    · exact hlj
    · have hlt' : j < i := by simpa using hlt
      have hjs : j < ops.size := by omega
      exact ih j hlt' hjs (hdown j hjs hlj) q h

/-! how much is left -/
def left (ops : Array Oper) (ls : Array Bool) : Nat := ((List.range ops.size).filter fun i => !ls.getD i true).length
theorem filter_le {p q : Nat → Bool} : ∀ (l : List Nat), (∀ i ∈ l, q i = true → p i = true) → (l.filter q).length ≤ (l.filter p).length
  | [], _ => by simp
  | i :: l, h => by
    have h1 := filter_le l (fun j hj => h j (by simp [hj]))
    have h2 := h i (by simp)
    cases hq : q i with
    | true => rw [List.filter_cons_of_pos hq, List.filter_cons_of_pos (h2 hq)]; simp; omega
    | false =>
      rw [List.filter_cons_of_neg (by rw [hq]; simp)]
      cases hp : p i with
      | true => rw [List.filter_cons_of_pos hp]; simp; omega
      | false => rw [List.filter_cons_of_neg (by rw [hp]; simp)]; exact h1
theorem filter_lt {p q : Nat → Bool} : ∀ (l : List Nat), (∀ i ∈ l, q i = true → p i = true) → (∃ j ∈ l, p j = true ∧ q j = false) → (l.filter q).length < (l.filter p).length
  | [], _, ⟨j, hj, _⟩ => by cases hj
  | i :: l, h, ⟨j, hj, hpj, hqj⟩ => by
    have h1 := filter_le l (fun j hj => h j (by simp [hj]))
    rcases List.mem_cons.1 hj with rfl | hj
    · rw [List.filter_cons_of_neg (by rw [hqj]; simp), List.filter_cons_of_pos hpj]; simp; omega
    · have h3 := filter_lt l (fun j hj => h j (by simp [hj])) ⟨j, hj, hpj, hqj⟩
      have h2 := h i (by simp)
      cases hq : q i with
      | true => rw [List.filter_cons_of_pos hq, List.filter_cons_of_pos (h2 hq)]; simp; omega
      | false =>
        rw [List.filter_cons_of_neg (by rw [hq]; simp)]
        cases hp : p i with
        | true => rw [List.filter_cons_of_pos hp]; simp; omega
        | false => rw [List.filter_cons_of_neg (by rw [hp]; simp)]; exact h3
theorem left_step {j : Nat} (hj : j < ops.size) (h0 : ls.getD j true = false) (hsz : ls.size = ops.size) : left ops (ls.setIfInBounds j true) < left ops ls := by
  unfold left
  refine filter_lt _ (fun i _ hi => ?_) ⟨j, List.mem_range.2 hj, by rw [h0]; rfl, ?_⟩
  · cases hl : ls.getD i true with
    | false => rfl
    | true => rw [(set_getD (by omega)).2 (Or.inl hl)] at hi; cases hi
  · rw [(set_getD (by omega)).2 (Or.inr rfl)]; rfl
theorem left_zero (h : left ops ls ≤ 0) (i : Nat) (hi : i < ops.size) : ls.getD i true = true := by
  unfold left at h
  have h1 : ((List.range ops.size).filter fun i => !ls.getD i true) = [] := List.length_eq_zero_iff.1 (by omega)
  rw [List.filter_eq_nil_iff] at h1
  have h2 := h1 i (List.mem_range.2 hi)
  simpa using h2

theorem wpAny_of {Qx : Exit → Act → World → Prop} {n : Nat} (hl : left ops ls ≤ n) (hfin : Region.ready .any ops ls = [] → Qx .normal a w)
    (hstep : ∀ n', n = n' + 1 → ∀ j ∈ Region.ready .any ops ls, wpOp P ops Qx j (wpAny P .any ops Qx n' (ls.setIfInBounds j true)) a w) : wpAny P .any ops Qx n ls a w := by
  cases n with
  | zero =>
    have : Region.ready .any ops ls = [] := by
      rw [List.eq_nil_iff_forall_not_mem]
      intro j hj
      obtain ⟨h0, o, ho, _⟩ := mem_ready.1 hj
      rw [left_zero hl j (lt_of_some ho)] at h0; cases h0
    exact ⟨this, hfin this⟩
  | succ n => exact ⟨hfin, hstep n rfl⟩

theorem mem_lazies {V i : Nat} : i ∈ lazies c ops V ↔ i < ops.size ∧ V.testBit i = false ∧ (kindAt c ops i).isLazy = true ∧ subm (pmAt ops i) V = true := by
  unfold lazies
  rw [List.mem_filter, List.mem_range]
  simp [and_assoc]
theorem has_VL {V i : Nat} {L : List Nat} : (Nat.lor V (maskOf L)).testBit i = true ↔ V.testBit i = true ∨ i ∈ L := by rw [has_lor, Bool.or_eq_true, has_maskOf]

theorem ready_pm2 {j : Nat} (hj : j ∈ Region.ready .any ops ls) (hsz : ls.size = ops.size) : ls.getD j true = false ∧ ∃ o, ops[j]? = some o ∧ ∀ i, (pmAt ops j).testBit i = true → ls.getD i true = true ∧ i < ops.size := by
  obtain ⟨h0, o, ho, h⟩ := mem_ready.1 hj
  refine ⟨h0, o, ho, fun i hi => ?_⟩
  obtain ⟨e, he, hb, hon⟩ := mem_preds.1 ((pmAt_of ho).1 hi)
  have h1 := h e he hb
  rw [hon] at h1
  rcases Nat.lt_or_ge i ls.size with h' | h'
  · refine ⟨?_, by omega⟩
    simp [h'] at h1 ⊢; exact h1
  · simp [Array.getElem?_eq_none h'] at h1
theorem subm_of {x y : Nat} (h : ∀ i, x.testBit i = true → y.testBit i = true) : subm x y = true := by
  cases hs : subm x y with
  | true => rfl
  | false => obtain ⟨i, h1, h2⟩ := subm_not hs; rw [h i h1] at h2; cases h2
theorem lazy_guard {o : Oper} (h : (kindOf c o).isLazy = true) : o.guard = none := by
  obtain ⟨dst, op, ty, pos, after, guard⟩ := o
  cases op <;> simp only [kindOf] at h <;> try (cases h; done)
  case alloc t => cases guard with | none => rfl | some g => cases h
  case makeSlice t l cp => cases guard with | none => rfl | some g => cases h
  case buildSlice t n ps => cases guard with | none => rfl | some g => cases h
  case convert sr d x => cases hc : isSliceT c d <;> (rw [hc] at h; cases h)
  case call cl =>
    exfalso
    split at h <;> try (cases h; done)
    split at h <;> try (cases h; done)
    rename_i t _; cases hc : isMapT c t <;> (rw [hc] at h; cases h)

theorem HdOk.mono {V V' : Nat} {hd hd' : List Nat} {s s' : State} (h : HdOk c ops V hd s) (hs : ∀ q ∈ hd', SymHeld c ops s' q) (hsub : ∀ q ∈ hd', q ∈ hd) (hV : ∀ i, V.testBit i = true → V'.testBit i = true) : HdOk c ops V' hd' s' :=
  fun q hq => ⟨hs q hq, hV _ (h q (hsub q hq)).2.1, fun j hj => hV _ ((h q (hsub q hq)).2.2.1 j hj), (h q (hsub q hq)).2.2.2⟩

/-- all of B is laid: it is spoken of -/
theorem adopt_all (K : c.Ok P) (hg : goodRegion c ops = true) {kk : Nat → State → Tree} : ∀ (B : List Nat) (V : Nat) (s : State) (E : List (Nat × Nat)) (ρ : Val), B.Nodup → (∀ b ∈ B, ∃ x ∈ E, x.1 = b) → Sit c P ops env ρ V hd s ls H E a w → (adoptAll c ops B V s kk).holds P Q →
    ∃ ρ' s' E' V', ρ.le ρ' ∧ Sit c P ops env ρ' V' hd s' ls H E' a w ∧ (kk V' s').holds P Q ∧ (∀ i, V.testBit i = true → V'.testBit i = true) ∧ (∀ i, V'.testBit i = true → V.testBit i = true ∨ i ∈ B)
  | [], V, s, E, ρ, _, _, S, h => ⟨ρ, s, E, V, Val.le.refl ρ, S, h, fun _ h => h, fun _ h => Or.inl h⟩
  | i :: B, V, s, E, ρ, hnd, hB, S, h => by
    rw [adoptAll] at h
    split at h <;> try (exact h.elim)
    rename_i o ho
    cases hf : s.fits o.dst with
    | false => rw [hf] at h; exact h.elim
    | true =>
      rw [hf] at h
      simp only [cond_true] at h
      split at h <;> try (exact h.elim)
      rename_i out hout
      obtain ⟨x, hx, hxi⟩ := hB i (by simp)
      obtain ⟨A', B', rfl⟩ := List.append_of_mem hx
      obtain ⟨xi, xb⟩ := x
      simp only at hxi
      subst hxi
      obtain ⟨sv, h', ρ', hle, hQ, S'⟩ := S.astep K hg ho hf hout (stOut_holds h)
      have hrest : ∀ b ∈ B, ∃ x ∈ A' ++ B', x.1 = b := by
        intro b hb
        obtain ⟨x, hx, hxb⟩ := hB b (by simp [hb])
        rcases List.mem_append.1 hx with hx | hx
        · exact ⟨x, List.mem_append.2 (Or.inl hx), hxb⟩
        · rcases List.mem_cons.1 hx with rfl | hx
          · exfalso
            have h1 := (List.nodup_cons.1 hnd).1
            simp only at hxb
            rw [hxb] at h1
            exact h1 hb
          · exact ⟨x, List.mem_append.2 (Or.inr hx), hxb⟩
      obtain ⟨ρ2, s2, E2, V2, h1, h2, h3, h4, h5⟩ := adopt_all K hg B _ _ _ ρ' (List.nodup_cons.1 hnd).2 hrest S' hQ
      refine ⟨ρ2, s2, E2, V2, hle.trans h1, h2, h3, fun k hk => h4 k (has_addm.2 (Or.inl hk)), fun k hk => ?_⟩
      rcases h5 k hk with h | h
      · rcases has_addm.1 h with h | rfl
        · exact Or.inl h
        · exact Or.inr (by simp)
      · exact Or.inr (List.mem_cons_of_mem _ h)

theorem lazies_nodup {V : Nat} : (lazies c ops V).Nodup := by unfold lazies; exact List.Pairwise.sublist List.filter_sublist List.nodup_range
theorem pickB_sub {V VL : Nat} {L : List Nat} : (∀ b ∈ pickB c ops V VL L, b ∈ L) ∧ (L.Nodup → (pickB c ops V VL L).Nodup) := by
  unfold pickB
  split
  · exact ⟨fun b hb => (List.mem_filter.1 hb).1, fun h => List.Pairwise.sublist List.filter_sublist h⟩
  · exact ⟨fun b hb => hb, fun h => h⟩

theorem sim (K : c.Ok P) (hg : goodRegion c ops = true) {k : State → Tree} {kx : ExS → State → Tree} {Qx : Exit → Act → World → Prop} :
    ∀ (n m V : Nat) (hd : List Nat) (s : State) (ls : Array Bool) (H : List (Nat × Value)) (E : List (Nat × Nat)) (a : Act) (w : World) (ρ : Val), Sit c P ops env ρ V hd s ls H E a w → HdOk c ops V hd s → (drawS c ops (ancs ops) k kx m V hd s).holds P Q → left ops ls ≤ n →
    (∀ i, V.testBit i = true → i < ops.size) →
    (∀ ρ' s' a' w', ρ.le ρ' → RelSt env ρ' s' a' w' → (k s').holds P Q → Qx .normal a' w') →
    (∀ ρ' e e' s' a' w', ρ.le ρ' → ExRel ρ' e' e → RelSt env ρ' s' a' w' → (kx e' s').holds P Q → Qx e a' w') → wpAny P .any ops Qx n ls a w := by
  intro n
  induction n using Nat.strongRecOn with
  | _ n IH =>
  intro m
  induction m with
  | zero => intro V hd s ls H E a w ρ S hs ht; exact ht.elim
  | succ m ihm =>
  intro V hd s ls H E a w ρ S hs ht hleft hvlt hk hkx
  -- what was put off comes up
  have HS : ∀ n', n = n' + 1 → ∀ j ∈ Region.ready .any ops ls, (∃ p ∈ H, p.1 = j) → wpOp P ops Qx j (wpAny P .any ops Qx n' (ls.setIfInBounds j true)) a w := by
    rintro n' rfl j hj ⟨p, hp, rfl⟩
    obtain ⟨A, B, rfl⟩ := List.append_of_mem hp
    obtain ⟨h0, o, ho, hpm⟩ := ready_pm hj S.size
    have hjs := lt_of_some ho
    have S' := S.hstep hg hjs hpm
    obtain ⟨o', ho', hy⟩ := S.yld K (fun q hq => (hs q hq).1) hp
    rw [ho] at ho'; injection ho' with ho'; subst ho'
    obtain ⟨e1, e2⟩ := S.sees hg ho hpm
    have hn : wpAny P .any ops Qx n' (ls.setIfInBounds p.1 true) (a.put (dstAt ops p.1) p.2) w :=
      IH n' (by omega) (m + 1) V hd s _ _ E _ w ρ S' hs ht (by have := left_step hjs h0 S.size; omega) hvlt hk hkx
    rw [dstAt_of ho] at hn
    unfold wpOp
    simp only [ho]
    rcases hy with ⟨hw, hrun⟩ | ⟨hw, hu⟩
    · rw [e2] at hw; rw [e1] at hrun
      rw [if_pos hw]
      refine Or.inl ?_
      unfold Oper.wp
      rw [hrun]
      exact hn
    · rw [e2] at hw
      rw [if_neg (by rw [hw]; simp), ← hu]
      exact hn
  have Hready : H ≠ [] → Region.ready .any ops ls ≠ [] := by
    intro hne
    match H, hne, S with
    | p :: H', _, S =>
      obtain ⟨o, ho, _⟩ := S.hy p (by simp)
      have hp0 := S.hpre p (by simp)
      have hpo := (List.pairwise_cons.1 S.hord).1
      have hmem : p.1 ∈ Region.ready .any ops ls := ready_of ho (S.notListed (by simp)) S.size (fun i hi => by
        have hVi := hp0.2 i hi
        have hnH : ∀ q ∈ p :: H', q.1 ≠ i := fun q hq he => by
          rcases List.mem_cons.1 hq with rfl | hq
          · rw [← he, hp0.1] at hi; cases hi
          · have := (hpo q hq).2
            rw [he, hi] at this; cases this
        exact ⟨(S.lst i (hvlt i hVi)).2 (Or.inl ⟨hVi, hnH⟩), hvlt i hVi⟩)
      exact fun he => by rw [he] at hmem; cases hmem
  -- what is ready and was not put off, is not in V
  have notV : ∀ j ∈ Region.ready .any ops ls, (∀ p ∈ H, p.1 ≠ j) → V.testBit j = false := by
    intro j hj hnH
    obtain ⟨h0, o, ho, _⟩ := ready_pm hj S.size
    rw [← Bool.not_eq_true]
    intro hV
    rw [(S.lst j (lt_of_some ho)).2 (Or.inl ⟨hV, hnH⟩)] at h0; cases h0
  have notE : ∀ j ∈ Region.ready .any ops ls, ∀ x ∈ E, x.1 ≠ j := by
    intro j hj x hx he
    obtain ⟨h0, o, ho, _⟩ := ready_pm hj S.size
    rw [(S.lst j (lt_of_some ho)).2 (Or.inr ⟨x, hx, he⟩)] at h0; cases h0
  have inVL : ∀ j ∈ Region.ready .any ops ls, subm (pmAt ops j) (Nat.lor V (maskOf (lazies c ops V))) = true := by
    intro j hj
    obtain ⟨h0, o, ho, hpm⟩ := ready_pm2 hj S.size
    refine subm_of fun i hi => has_VL.2 ?_
    obtain ⟨h1, h2⟩ := hpm i hi
    rcases (S.lst i h2).1 h1 with ⟨h, _⟩ | ⟨x, hx, rfl⟩
    · exact Or.inl h
    · obtain ⟨oe, obj, vf, g1, g2, g3, g4, _⟩ := S.ef x hx
      exact Or.inr (mem_lazies.2 ⟨h2, g3, g2, subm_of g4⟩)
  -- what is laid early
  have LS : (∀ i ∈ lazies c ops V, ∃ o out, ops[i]? = some o ∧ opS c o s.ev s.h s.h.n = .out out ∧ out.holds (fun _ _ => True)) → ∀ n', n = n' + 1 → ∀ j ∈ Region.ready .any ops ls, j ∈ lazies c ops V → wpOp P ops Qx j (wpAny P .any ops Qx n' (ls.setIfInBounds j true)) a w := by
    rintro hann n' rfl j hj hlz
    obtain ⟨o, out, ho, hout, hh⟩ := hann j hlz
    obtain ⟨hjs, hV, hkind, hsub⟩ := mem_lazies.1 hlz
    obtain ⟨h0, o', ho', hpm⟩ := ready_pm hj S.size
    have hkk : (kindOf c o).isLazy = true := by rw [← kindAt_lazy ho hkind]; exact hkind
    obtain ⟨sv, r, act, he, hlz2, hfree, _⟩ := run_lazyS (ρ := ρ) K S.st.ev hout (by cases hx : kindOf c o <;> rw [hx] at hkk <;> first | rfl | cases hkk) hh
    obtain ⟨obj, vf, cp, hr, hv, hh2⟩ := hlz2
    have hrun : ∀ w1 : World, (execOp (putsH ops H a).eval o).run P w1 = .ok (.value (vf w1.heap.size)) (w1.alloc obj) := by
      intro w1; rw [he]; simp [hr]
    have S' := S.lstep hg ho hkind hV (notE j hj) (fun i hi => subm_spec hsub hi) hpm hrun
    obtain ⟨e1, e2⟩ := S.sees hg ho hpm
    have hn : wpAny P .any ops Qx n' (ls.setIfInBounds j true) (a.put o.dst (vf w.heap.size)) (w.alloc obj) :=
      IH n' (by omega) (m + 1) V hd s _ _ _ _ _ ρ S' hs ht (by have := left_step hjs h0 S.size; omega) hvlt hk hkx
    unfold wpOp
    simp only [ho]
    have hw : Region.wanted o (yielded ops a.tmps) = true := by unfold Region.wanted; rw [lazy_guard hkk]
    rw [if_pos hw]
    refine Or.inl ?_
    unfold Oper.wp
    rw [← e1, hrun w]
    exact hn
  have ht0 := ht
  rw [drawS] at ht
  split at ht
  · -- a quiet one
    rename_i i hpick
    have hp := List.find?_some hpick
    simp only [Bool.and_eq_true, Bool.not_eq_true'] at hp
    split at ht <;> try (exact ht.elim)
    rename_i o ho
    obtain ⟨wd, s', v, h1, h2, h3⟩ := S.quiet K hg hs ho hp.2.1 hp.1 (fun j hj => subm_spec hp.2.2 hj) ht
    refine ihm _ _ s' ls _ E a w ρ h2 h3 h1 hleft (fun k hk' => ?_) hk hkx
    rcases has_addm.1 hk' with h | rfl
    · exact hvlt k h
    · exact lt_of_some ho
  · simp only at ht
    split at ht
    · -- a loud one
      rename_i l hpick
      have hp := List.find?_some hpick
      simp only [Bool.and_eq_true, Bool.not_eq_true'] at hp
      obtain ⟨hV, hloud, hsub⟩ := hp
      split at ht <;> try (exact ht.elim)
      rename_i o ho
      cases hol : onlyL ops (Nat.lor V (maskOf (lazies c ops V))) l with
      | false => rw [hol] at ht; exact ht.elim
      | true =>
        rw [hol] at ht
        simp only [cond_true] at ht
        obtain ⟨ht, hann⟩ := announce_holds ht
        refine wpAny_of hleft (fun hr => ?_) (fun n' hn' j hj => ?_)
        · exfalso
          by_cases hH : H = []
          · subst hH
            have hnl : ls.getD l true = false := by
              rw [← Bool.not_eq_true]
              intro h
              rcases (S.lst l (lt_of_some ho)).1 h with ⟨h, _⟩ | ⟨x, hx, rfl⟩
              · rw [hV] at h; cases h
              · obtain ⟨oe, obj, vf, g1, g2, _⟩ := S.ef x hx
                rw [lazy_not_loud g2] at hloud; cases hloud
            have hmem : l ∈ Region.ready .any ops ls := ready_of ho hnl S.size (fun i hi => by
              have hVi := subm_spec hsub hi
              exact ⟨(S.lst i (hvlt i hVi)).2 (Or.inl ⟨hVi, fun p hp => by cases hp⟩), hvlt i hVi⟩)
            rw [hr] at hmem; cases hmem
          · exact Hready hH hr
        · by_cases hjH : ∃ p ∈ H, p.1 = j
          · exact HS n' hn' j hj hjH
          · have hjH' : ∀ p ∈ H, p.1 ≠ j := fun p hp he => hjH ⟨p, hp, he⟩
            have hjV := notV j hj hjH'
            by_cases hjL : j ∈ lazies c ops V
            · exact LS hann n' hn' j hj hjL
            · obtain ⟨h0, oj, hoj, hpm⟩ := ready_pm hj S.size
              have hjs := lt_of_some hoj
              have hjl : j = l := by
                unfold onlyL at hol
                rw [List.all_eq_true] at hol
                have h1 := hol j (List.mem_range.2 hjs)
                simp only [Bool.or_eq_true, Nat.beq_eq, Bool.not_eq_true', inVL j hj, Bool.true_eq_false, or_false] at h1
                rcases h1 with h1 | h1
                · rcases has_VL.1 h1 with h2 | h2
                  · rw [hjV] at h2; cases h2
                  · exact absurd h2 hjL
                · exact h1
              subst hjl
              subst hn'
              refine S.loud K hg ho hloud hV (fun i hi => subm_spec hsub hi) hpm (hd2 := hd.filter fun q => !((ancs ops).getD j 0).testBit q) (fun p hp hph => ?_) ht (fun ρ' s' a' w' hle hkk S' => ?_) (fun ρ' e' e s' w' hle he hst hh => hkx ρ' e e' _ a w' hle he hst hh)
              · rw [List.mem_filter]
                refine ⟨hph, ?_⟩
                rw [Bool.not_eq_true', ← Bool.not_eq_true]
                intro h
                have h1 := anc_listed S.down j hjs hpm p.1 h
                rw [S.notListed hp] at h1; cases h1
              · obtain ⟨hd', hsym⟩ := recheck_holds hkk
                refine IH n' (by omega) m _ _ _ _ H E a' w' ρ' S' (hs.mono hsym (fun q hq => (List.mem_filter.1 hq).1) (fun i hi => has_addm.2 (Or.inl hi))) hd' (by have := left_step hjs h0 S.size; omega) (fun k hk' => ?_) (fun ρ2 s2 a2 w2 h1 h2 h3 => hk ρ2 s2 a2 w2 (hle.trans h1) h2 h3) (fun ρ2 e e' s2 a2 w2 h1 h2 h3 h4 => hkx ρ2 e e' s2 a2 w2 (hle.trans h1) h2 h3 h4)
                rcases has_addm.1 hk' with h | rfl
                · exact hvlt k h
                · exact hjs
    · cases hall : (List.range ops.size).all (fun j => V.testBit j) with
      | true =>
        -- all have come up
        rw [hall] at ht
        simp only [cond_true] at ht
        rw [List.all_eq_true] at hall
        refine wpAny_of hleft (fun hr => ?_) (fun n' hn' j hj => ?_)
        · by_cases hH : H = []
          · subst hH
            exact hk ρ s a w (Val.le.refl ρ) S.st ht
          · exact absurd hr (Hready hH)
        · by_cases hjH : ∃ p ∈ H, p.1 = j
          · exact HS n' hn' j hj hjH
          · have hjV := notV j hj (fun p hp he => hjH ⟨p, hp, he⟩)
            obtain ⟨h0, oj, hoj, hpm⟩ := ready_pm hj S.size
            rw [hall j (List.mem_range.2 (lt_of_some hoj))] at hjV; cases hjV
      | false =>
        rw [hall] at ht
        simp only [cond_false] at ht
        cases hob : onlyB ops (Nat.lor V (maskOf (lazies c ops V))) (maskOf (pickB c ops V (Nat.lor V (maskOf (lazies c ops V))) (lazies c ops V))) with
        | false => rw [hob] at ht; exact ht.elim
        | true =>
          rw [hob] at ht
          simp only [cond_true] at ht
          obtain ⟨ht, hann⟩ := announce_holds ht
          obtain ⟨hsubB, hndB⟩ := pickB_sub (c := c) (ops := ops) (V := V) (VL := Nat.lor V (maskOf (lazies c ops V))) (L := lazies c ops V)
          have hndB := hndB lazies_nodup
          by_cases hB : ∀ b ∈ pickB c ops V (Nat.lor V (maskOf (lazies c ops V))) (lazies c ops V), ∃ x ∈ E, x.1 = b
          · obtain ⟨ρ', s', E', V', hle, S', hkk, hVV, hVB⟩ := adopt_all K hg _ V s E ρ hndB hB S ht
            obtain ⟨hd', hsym⟩ := recheck_holds hkk
            refine ihm V' hd s' ls H E' a w ρ' S' (hs.mono hsym (fun q hq => hq) hVV) hd' hleft (fun k hk' => ?_) (fun ρ2 s2 a2 w2 h1 h2 h3 => hk ρ2 s2 a2 w2 (hle.trans h1) h2 h3) (fun ρ2 e e' s2 a2 w2 h1 h2 h3 h4 => hkx ρ2 e e' s2 a2 w2 (hle.trans h1) h2 h3 h4)
            rcases hVB k hk' with h | h
            · exact hvlt k h
            · exact (mem_lazies.1 (hsubB k h)).1
          · have hB' : ∃ b ∈ pickB c ops V (Nat.lor V (maskOf (lazies c ops V))) (lazies c ops V), ∀ x ∈ E, x.1 ≠ b := by
              by_cases h : ∃ b ∈ pickB c ops V (Nat.lor V (maskOf (lazies c ops V))) (lazies c ops V), ∀ x ∈ E, x.1 ≠ b
              · exact h
              · refine absurd (fun b hb => ?_) hB
                by_cases hx : ∃ x ∈ E, x.1 = b
                · exact hx
                · exact absurd ⟨b, hb, fun x hx' he => hx ⟨x, hx', he⟩⟩ h
            obtain ⟨b, hb, hbE⟩ := hB'
            obtain ⟨hbs, hbV, hbk, hbsub⟩ := mem_lazies.1 (hsubB b hb)
            refine wpAny_of hleft (fun hr => ?_) (fun n' hn' j hj => ?_)
            · exfalso
              by_cases hH : H = []
              · subst hH
                have hnl : ls.getD b true = false := by
                  rw [← Bool.not_eq_true]
                  intro h
                  rcases (S.lst b hbs).1 h with ⟨h, _⟩ | ⟨x, hx, he⟩
                  · rw [hbV] at h; cases h
                  · exact hbE x hx he
                have hmem : b ∈ Region.ready .any ops ls := ready_of (Array.getElem?_eq_getElem hbs) hnl S.size (fun i hi => by
                  have hVi := subm_spec hbsub hi
                  exact ⟨(S.lst i (hvlt i hVi)).2 (Or.inl ⟨hVi, fun p hp => by cases hp⟩), hvlt i hVi⟩)
                rw [hr] at hmem; cases hmem
              · exact Hready hH hr
            · by_cases hjH : ∃ p ∈ H, p.1 = j
              · exact HS n' hn' j hj hjH
              · have hjH' : ∀ p ∈ H, p.1 ≠ j := fun p hp he => hjH ⟨p, hp, he⟩
                have hjV := notV j hj hjH'
                by_cases hjL : j ∈ lazies c ops V
                · exact LS hann n' hn' j hj hjL
                · exfalso
                  obtain ⟨h0, oj, hoj, hpm⟩ := ready_pm hj S.size
                  unfold onlyB at hob
                  rw [List.all_eq_true] at hob
                  have h1 := hob j (List.mem_range.2 (lt_of_some hoj))
                  simp only [Bool.or_eq_true, Bool.not_eq_true', inVL j hj, Bool.true_eq_false, false_or] at h1
                  rcases h1 with h1 | h1
                  · rcases has_VL.1 h1 with h2 | h2
                    · rw [hjV] at h2; cases h2
                    · exact absurd h2 hjL
                  · have h2 := hpm b (subm_spec h1 (has_maskOf.2 hb))
                    rcases (S.lst b hbs).1 h2 with ⟨h, _⟩ | ⟨x, hx, he⟩
                    · rw [hbV] at h; cases h
                    · exact hbE x hx he

/-- a region whose order is drawn -/
def drawRegion (c : Ctx) (ops : Array Oper) (s : State) (k : State → Tree) (kx : ExS → State → Tree) : Tree :=
  bif goodRegion c ops then drawS c ops (ancs ops) k kx (2 * ops.size + 2) 0 [] (s.forget (lazyDsts c ops 0)) else .stuck

theorem drawRegion_sound (K : c.Ok P) {id : Nat} {k : State → Tree} {kx : ExS → State → Tree} (h : (drawRegion c ops s k kx).holds P Q) (H : RelSt env ρ s a w) {Qx : Exit → Act → World → Prop}
    (hk : ∀ ρ' s' a' w', ρ.le ρ' → RelSt env ρ' s' a' w' → (k s').holds P Q → Qx .normal a' w')
    (hkx : ∀ ρ' e e' s' a' w', ρ.le ρ' → ExRel ρ' e' e → RelSt env ρ' s' a' w' → (kx e' s').holds P Q → Qx e a' w') : (Code.region id ops true).wp P Qx a w := by
  unfold drawRegion at h
  cases hg : goodRegion c ops with
  | false => rw [hg] at h; exact h.elim
  | true =>
    rw [hg] at h
    simp only [cond_true] at h
    refine wp_region_any K.mixed ?_
    have H' : RelSt env ρ (s.forget (lazyDsts c ops 0)) a { w with drawn := w.drawn + 1 } := by
      have h1 := H.forget (ds := lazyDsts c ops 0) rfl rfl (fun _ _ => rfl)
      exact ⟨h1.size, h1.slots, h1.defers, h1.rel.drew⟩
    have S : Sit c P ops env ρ 0 [] (s.forget (lazyDsts c ops 0)) (Array.replicate ops.size false) [] [] a { w with drawn := w.drawn + 1 } := by
      refine ⟨H', fun i hi => ?_, fun p hp => (by cases hp), fun p hp => (by cases hp), List.Pairwise.nil, fun p hp => (by cases hp), fun i d hk' _ hd => ?_, fun x hx => (by cases hx), List.Pairwise.nil, fun i hi hl => ?_, by simp⟩
      · simp [hi]
      · rw [slot_forget, if_pos]
        obtain ⟨ok, hok, _⟩ := dstAt_some hd
        unfold lazyDsts
        rw [List.mem_filterMap]
        exact ⟨i, by rw [List.mem_filter, List.mem_range]; exact ⟨lt_of_some hok, by rw [hk']; simp⟩, hd⟩
      · simp [hi] at hl
    refine sim K hg ops.size _ 0 [] _ _ [] [] a _ ρ S (fun q hq => by cases hq) h ?_ (fun i hi => by simp at hi) hk hkx
    unfold left
    exact Nat.le_trans (List.length_filter_le _ _) (by simp)
end
end Go.SE

namespace Go.SE
open Go.RowKit

/-! code -/
def regionS (c : Ctx) (ops : Array Oper) (draw : Bool) (s : State) (k : State → Tree) (kx : ExS → State → Tree) : Tree :=
  bif draw then drawRegion c ops s k kx else runOps c ops (List.range ops.size) s k kx

def refine (s : State) (x : Operand) (b : Bool) : State :=
  match x with
  | .tmp d => bif Nat.blt d s.n then s.put (some d) (.lit (.bool b)) s.h else s
  | _ => s

def seg (c : Ctx) (m : Option Nat) : Code → State → (ExS → State → Tree) → Tree
  | .skip, s, k => k .normal s
  | .label _, s, k => k .normal s
  | .region _ ops draw, s, k => regionS c ops draw s (fun s => k .normal s) k
  | .seq a b, s, k => seg c m a s fun e s' => match e with
    | .normal => seg c m b s' k
    | e => k e s'
  | .cond x a b, s, k => (match (s.ev x).bool? with
    | some g => .br g (seg c m a (refine s x true) k) (seg c m b (refine s x false) k)
    | none => .stuck)
  | .block id b, s, k => seg c m b s fun e s' => match e with
    | .exit j => bif Nat.beq j id then k .normal s' else k (.exit j) s'
    | e => k e s'
  | .loop b, s, k => .loop m b s k
  | .exit id, s, k => k (.exit id) s
  | .goto l, s, k => k (.goto l) s
  | .ret, s, k => k .ret s
  | .scope b, s, k => .inscope m b b s k
  | _, _, _ => .stuck

section
variable {c : Ctx} {P : Program} {Q : ExS → State → Prop}

theorem refine_rel {env : Env} {ρ : Val} {s : State} {a : Act} {w : World} (H : RelSt env ρ s a w) {x : Operand} {b : Bool} (hv : a.eval x = .bool b) : RelSt env ρ (refine s x b) a w := by
  cases x with
  | tmp d =>
    simp only [refine]
    cases Nat.blt d s.n with
    | false => exact H
    | true => exact put_slot_ok H hv
  | _ => exact H

theorem regionS_sound (K : c.Ok P) {id : Nat} {ops : Array Oper} {draw : Bool} {s : State} {k : State → Tree} {kx : ExS → State → Tree} (h : (regionS c ops draw s k kx).holds P Q) {env : Env} {ρ : Val} {a : Act} {w : World} (H : RelSt env ρ s a w)
    {Qx : Exit → Act → World → Prop}
    (hk : ∀ ρ' s' a' w', ρ.le ρ' → RelSt env ρ' s' a' w' → (k s').holds P Q → Qx .normal a' w')
    (hkx : ∀ ρ' e e' s' a' w', ρ.le ρ' → ExRel ρ' e' e → RelSt env ρ' s' a' w' → (kx e' s').holds P Q → Qx e a' w') : (Code.region id ops draw).wp P Qx a w := by
  cases draw with
  | true => exact drawRegion_sound K h H hk hkx
  | false => exact wp_region (runOps_sound K h H hk hkx)

theorem seg_sound (K : c.Ok P) (m : Option Nat) : ∀ (code : Code) (s : State) (k : ExS → State → Tree), (seg c m code s k).holds P Q → SegH P m code s (fun e s' => (k e s').holds P Q) := by
  intro code
  induction code with
  | skip => intro s k h env ρ a w H; exact wp_skip ⟨ρ, .normal, s, Val.leO.refl m ρ, rfl, H, h⟩
  | label l => intro s k h env ρ a w H; exact wp_label ⟨ρ, .normal, s, Val.leO.refl m ρ, rfl, H, h⟩
  | exit id => intro s k h env ρ a w H; exact wp_exit ⟨ρ, .exit id, s, Val.leO.refl m ρ, rfl, H, h⟩
  | goto l => intro s k h env ρ a w H; exact wp_goto ⟨ρ, .goto l, s, Val.leO.refl m ρ, rfl, H, h⟩
  | ret => intro s k h env ρ a w H; exact wp_ret ⟨ρ, .ret, s, Val.leO.refl m ρ, rfl, H, h⟩
  | region id ops draw =>
    intro s k h env ρ a w H
    exact regionS_sound K h H (fun ρ' s' a' w' hle H' h' => ⟨ρ', .normal, s', hle.toO m, rfl, H', h'⟩) (fun ρ' e e' s' a' w' hle he H' h' => ⟨ρ', e', s', hle.toO m, he, H', h'⟩)
  | seq x y ihx ihy =>
    intro s k h env ρ a w H
    have h1 := ihx s _ h env ρ a w H
    refine wp_seq (wp_mono h1 fun e a' w' hp => ?_)
    obtain ⟨ρ', e', s', hle, he, H', h'⟩ := hp
    cases e' with
    | normal =>
      have he' : e = .normal := he
      subst he'
      exact wp_le hle (ihy s' k h' env ρ' a' w' H')
    | exit id => have he' : e = .exit id := he; subst he'; exact ⟨ρ', .exit id, s', hle, rfl, H', h'⟩
    | goto l => have he' : e = .goto l := he; subst he'; exact ⟨ρ', .goto l, s', hle, rfl, H', h'⟩
    | ret => have he' : e = .ret := he; subst he'; exact ⟨ρ', .ret, s', hle, rfl, H', h'⟩
    | pnc v => obtain ⟨u, rfl, hu⟩ := he; exact ⟨ρ', .pnc v, s', hle, ⟨u, rfl, hu⟩, H', h'⟩
  | cond x y z ihy ihz =>
    intro s k h env ρ a w H
    rw [seg] at h
    split at h <;> try (exact h.elim)
    rename_i g hg
    have hv := H.ev x
    rw [SV.bool?_eq hg] at hv
    have hv' : a.eval x = .bool g := hv
    cases g with
    | true => exact wp_cond_true hv' (ihy _ k (h.1 rfl) env ρ a w (refine_rel H hv'))
    | false => exact wp_cond_false hv' (ihz _ k (h.2 rfl) env ρ a w (refine_rel H hv'))
  | block id b ih =>
    intro s k h env ρ a w H
    have h1 := ih s _ h env ρ a w H
    refine wp_block (wp_mono h1 fun e a' w' hp => ?_)
    obtain ⟨ρ', e', s', hle, he, H', h'⟩ := hp
    cases e' with
    | normal => have he' : e = .normal := he; subst he'; exact ⟨ρ', .normal, s', hle, rfl, H', h'⟩
    | ret => have he' : e = .ret := he; subst he'; exact ⟨ρ', .ret, s', hle, rfl, H', h'⟩
    | goto l => have he' : e = .goto l := he; subst he'; exact ⟨ρ', .goto l, s', hle, rfl, H', h'⟩
    | pnc v => obtain ⟨u, rfl, hu⟩ := he; exact ⟨ρ', .pnc v, s', hle, ⟨u, rfl, hu⟩, H', h'⟩
    | exit j =>
      have he' : e = .exit j := he
      subst he'
      simp only [Exit.inBlock]
      by_cases hj : j = id
      · subst hj
        rw [if_pos rfl]
        simp only [Nat.beq_refl, cond_true] at h'
        exact ⟨ρ', .normal, s', hle, rfl, H', h'⟩
      · rw [if_neg hj]
        simp only [T.beq_ne hj, cond_false] at h'
        exact ⟨ρ', .exit j, s', hle, rfl, H', h'⟩
  | loop b ih =>
    intro s k h env ρ a w H
    intro b' kk cs
    obtain ⟨e, a', w', hq, harr⟩ := h env ρ a w H b' kk cs
    exact ⟨e, a', w', hq, .of_steps (.one step_loop) harr⟩
  | scope b ih =>
    intro s k h env ρ a w H
    intro b' kk cs
    obtain ⟨e, a', w', hq, harr⟩ := h env ρ a w H b' kk cs
    exact ⟨e, a', w', hq, .of_steps (.one step_scope) harr⟩
  | refuse why => intro s k h; exact h.elim
  | rangeFunc f p x y ih1 ih2 => intro s k h; exact h.elim

/-- one round, then the loop again -/
theorem loop_unroll {m : Option Nat} {body : Code} {s : State} {k : ExS → State → Prop} (h : SegH P m body s fun e s' => match e with | .normal => LoopH P m body s' k | e => k e s') : LoopH P m body s k := by
  intro env ρ a w H b kk cs
  obtain ⟨e, a₁, w₁, ⟨ρ', e', s', hle, he, H', hq⟩, harr⟩ := h env ρ a w H b (.inLoop body :: kk) cs
  cases e' with
  | normal =>
    have he' : e = .normal := he
    subst he'
    obtain ⟨e₂, a₂, w₂, hq₂, harr₂⟩ := hq env ρ' a₁ w₁ H' b kk cs
    exact ⟨e₂, a₂, w₂, PostS.le hle hq₂, .of_steps (Steps.trans harr (.one step_inLoop)) harr₂⟩
  | exit id => have he' : e = .exit id := he; subst he'; exact ⟨_, a₁, w₁, ⟨ρ', .exit id, s', hle, rfl, H', hq⟩, .pass (x := .inLoop body) rfl (fun _ _ => .inl (by simp)) harr⟩
  | goto l => have he' : e = .goto l := he; subst he'; exact ⟨_, a₁, w₁, ⟨ρ', .goto l, s', hle, rfl, H', hq⟩, .pass (x := .inLoop body) rfl (fun _ _ => .inl (by simp)) harr⟩
  | ret => have he' : e = .ret := he; subst he'; exact ⟨_, a₁, w₁, ⟨ρ', .ret, s', hle, rfl, H', hq⟩, .pass (x := .inLoop body) rfl (fun _ _ => .inl (by simp)) harr⟩
  | pnc v => obtain ⟨u, rfl, hu⟩ := he; exact ⟨_, a₁, w₁, ⟨ρ', .pnc v, s', hle, ⟨u, rfl, hu⟩, H', hq⟩, .pass (x := .inLoop body) rfl (fun _ _ => .inl (by simp)) harr⟩

/-- a scope: its code from here on; a jump goes on behind its label -/
theorem scope_unroll {m : Option Nat} {body cur : Code} {s : State} {k : ExS → State → Prop} (h : SegH P m cur s fun e s' => match e with
    | .goto l => (match findLabel body l with
      | some rest => ScopeH P m body rest s' k
      | none => k (.goto l) s')
    | e => k e s') : ScopeH P m body cur s k := by
  intro env ρ a w H b kk cs
  obtain ⟨e, a₁, w₁, ⟨ρ', e', s', hle, he, H', hq⟩, harr⟩ := h env ρ a w H b (.inScope body :: kk) cs
  cases e' with
  | normal =>
    have he' : e = .normal := he
    subst he'
    exact ⟨.normal, a₁, w₁, ⟨ρ', .normal, s', hle, rfl, H', hq⟩, Steps.trans harr (.one step_inScope)⟩
  | exit id => have he' : e = .exit id := he; subst he'; exact ⟨_, a₁, w₁, ⟨ρ', .exit id, s', hle, rfl, H', hq⟩, fun k' hk => harr k' (by simp [exitTo, hk])⟩
  | ret => have he' : e = .ret := he; subst he'; exact ⟨_, a₁, w₁, ⟨ρ', .ret, s', hle, rfl, H', hq⟩, harr⟩
  | pnc v => obtain ⟨u, rfl, hu⟩ := he; exact ⟨_, a₁, w₁, ⟨ρ', .pnc v, s', hle, ⟨u, rfl, hu⟩, H', hq⟩, harr⟩
  | goto l =>
    have he' : e = .goto l := he
    subst he'
    simp only at hq
    split at hq
    · rename_i rest hf
      obtain ⟨e₂, a₂, w₂, hq₂, harr₂⟩ := hq env ρ' a₁ w₁ H' b kk cs
      exact ⟨e₂, a₂, w₂, PostS.le hle hq₂, .of_steps (harr _ (by simp [gotoIn, hf])) harr₂⟩
    · rename_i hf
      exact ⟨_, a₁, w₁, ⟨ρ', .goto l, s', hle, rfl, H', hq⟩, fun k' hk => harr k' (by simp [gotoIn, hf, hk])⟩

/-- s2 says no more than s does, but for the blocks' numbers from m on -/
def Sub (m : Option Nat) (s s2 : State) : Prop := ∀ env ρ a w, RelSt env ρ s a w → ∃ ρ2, Val.leO m ρ ρ2 ∧ RelSt env ρ2 s2 a w
theorem Sub.refl (m : Option Nat) (s : State) : Sub m s s := fun _ ρ _ _ H => ⟨ρ, Val.leO.refl m ρ, H⟩
theorem Sub.trans {m : Option Nat} {a b c : State} (h : Sub m a b) (k : Sub m b c) : Sub m a c := fun env ρ act w H => by
  obtain ⟨ρ2, h1, h2⟩ := h env ρ act w H
  obtain ⟨ρ3, h3, h4⟩ := k env ρ2 act w h2
  exact ⟨ρ3, h1.trans h3, h4⟩
theorem LoopH.sub {m : Option Nat} {body : Code} {s s2 : State} {k : ExS → State → Prop} (h : Sub m s s2) (H : LoopH P m body s2 k) : LoopH P m body s k := fun env ρ a w hr => by
  obtain ⟨ρ2, h1, h2⟩ := h env ρ a w hr
  intro b kk cs
  obtain ⟨e, a', w', hp, harr⟩ := H env ρ2 a w h2 b kk cs
  exact ⟨e, a', w', PostS.le h1 hp, harr⟩

/-- a loop by what holds at its head -/
theorem loop_inv {m : Option Nat} {body : Code} {α : Type} (I : α → State) (μ : α → Nat) {k : ExS → State → Prop} (x : α)
    (round : ∀ x, SegH P m body (I x) fun e s' => match e with | .normal => (∃ y, Sub m s' (I y) ∧ μ y < μ x) | e => k e s') : LoopH P m body (I x) k := by
  have key : ∀ (n : Nat) (x : α), μ x = n → LoopH P m body (I x) k := by
    intro n
    induction n using Nat.strongRecOn with
    | _ n ih =>
      intro x hx
      refine loop_unroll fun env ρ a w H => wp_mono (round x env ρ a w H) fun e a' w' hp => ?_
      obtain ⟨ρ', e', s', hle, he, H', hq⟩ := hp
      cases e' with
      | normal =>
        obtain ⟨y, hs, hlt⟩ := hq
        exact ⟨ρ', .normal, _, hle, he, H', LoopH.sub hs (ih (μ y) (by omega) y rfl)⟩
      | exit id => exact ⟨ρ', .exit id, s', hle, he, H', hq⟩
      | goto l => exact ⟨ρ', .goto l, s', hle, he, H', hq⟩
      | ret => exact ⟨ρ', .ret, s', hle, he, H', hq⟩
      | pnc v => exact ⟨ρ', .pnc v, s', hle, he, H', hq⟩
  exact key _ x rfl
end
end Go.SE

namespace Go.SE
open Go.RowKit

def isRecover (o : Oper) : Bool := match o.op with | .call cl => (match cl.callee with | .builtin .recover => true | _ => false) | _ => false

def runOpsD (c : Ctx) (ops : Array Oper) (k : State → Md → Tree) (kx : ExS → State → Md → Tree) : List Nat → State → Md → Tree
  | [], s, md => k s md
  | i :: rest, s, md => (match ops[i]? with
    | some o => bif isRecover o then (match o.guard with
        | none => bif s.fits o.dst then (match md with
          | .pan v => runOpsD c ops k kx rest (s.put o.dst v s.h) (.caught v)
          | md => runOpsD c ops k kx rest (s.put o.dst (.lit .nilIface) s.h) md) else .stuck
        | some _ => .stuck)
      else runGuarded c ops o s s.h.n (fun s' => runOpsD c ops k kx rest s' md) (fun e s' => kx e s' md)
    | none => .stuck)

def segD (c : Ctx) : Code → State → Md → (ExS → State → Md → Tree) → Tree
  | .seq a b, s, md, k => segD c a s md fun e s' md' => match e with
    | .normal => segD c b s' md' k
    | e => k e s' md'
  | .cond x a b, s, md, k => (match (s.ev x).bool? with
    | some g => .br g (segD c a (refine s x true) md k) (segD c b (refine s x false) md k)
    | none => .stuck)
  | .region id ops draw, s, md, k => bif ops.any isRecover then (bif draw then .stuck else runOpsD c ops (fun s md => k .normal s md) k (List.range ops.size) s md)
    else seg c none (.region id ops draw) s fun e s' => k e s' md
  | code, s, md, k => seg c none code s fun e s' => k e s' md

def PostD (env : Env) (ρ : Val) (c0 : Frame) (cs : List Frame) (K : ExS → State → Md → Prop) : Exit → Act → List Frame → World → Prop :=
  fun e a' cs' w' => ∃ ρ' e' s' md' u', ρ.le ρ' ∧ ExRel ρ' e' e ∧ RelSt env ρ' s' a' w' ∧ MdRel ρ' md' u' ∧ cs' = { c0 with mode := u' } :: cs ∧ K e' s' md'

theorem MdRel.mono {ρ ρ' : Val} (h : ρ.le ρ') : ∀ {md : Md} {u : FrameMode}, MdRel ρ md u → MdRel ρ' md u
  | .ret, _, h1 => h1
  | .pan _, _, ⟨v, h1, h2⟩ => ⟨v, h1, h2.mono h⟩
  | .caught _, _, ⟨v, h1, h2⟩ => ⟨v, h1, h2.mono h⟩

section
variable {c : Ctx} {P : Program} {env : Env} {Q : ExS → State → Prop}

theorem PostD.le {ρ ρ' : Val} {c0 : Frame} {u : FrameMode} {cs : List Frame} {K : ExS → State → Md → Prop} (h : ρ.le ρ') {e : Exit} {a : Act} {cs' : List Frame} {w : World} (hp : PostD env ρ' { c0 with mode := u } cs K e a cs' w) : PostD env ρ c0 cs K e a cs' w := by
  obtain ⟨ρ2, e', s', md', u', h1, h2, h3, h4, h5, h6⟩ := hp
  exact ⟨ρ2, e', s', md', u', h.trans h1, h2, h3, h4, h5, h6⟩

theorem run_recover {er : Operand → Value} {o : Oper} (h : isRecover o = true) {w : World} : (execOp er o).run P w = .ok .recover w := by
  obtain ⟨dst, op, ty, pos, after, guard⟩ := o
  unfold isRecover at h
  cases op <;> simp only at h <;> try (cases h; done)
  rename_i cl
  obtain ⟨callee, args, ats⟩ := cl
  cases callee with
  | builtin b => cases b <;> simp only at h <;> first | (cases h; done) | simp [execOp, resolve, invoke, builtin]
  | value f => cases h
  | invoke r m => cases h

theorem runOpsD_sound (K : c.Ok P) {ops : Array Oper} {k : State → Md → Tree} {kx : ExS → State → Md → Tree} {Qx : Exit → Act → List Frame → World → Prop} (c0 : Frame) (cs : List Frame) :
    ∀ (is : List Nat) (ρ : Val) (s : State) (md : Md) (a : Act) (u : FrameMode) (w : World), (runOpsD c ops k kx is s md).holds P Q → RelSt env ρ s a w → MdRel ρ md u →
      (∀ ρ' s' md' u' a' w', ρ.le ρ' → RelSt env ρ' s' a' w' → MdRel ρ' md' u' → (k s' md').holds P Q → Qx .normal a' ({ c0 with mode := u' } :: cs) w') →
      (∀ ρ' e e' s' md' u' a' w', ρ.le ρ' → ExRel ρ' e' e → RelSt env ρ' s' a' w' → MdRel ρ' md' u' → (kx e' s' md').holds P Q → Qx e a' ({ c0 with mode := u' } :: cs) w') →
      wpOpsS P ops Qx is a ({ c0 with mode := u } :: cs) w := by
  intro is
  induction is with
  | nil => intro ρ s md a u w h H hm hk hkx; exact hk ρ s md u a w (Val.le.refl ρ) H hm h
  | cons i is ih =>
    intro ρ s md a u w h H hm hk hkx
    rw [runOpsD] at h
    split at h <;> try (exact h.elim)
    rename_i o ho
    simp only [wpOpsS, ho]
    cases hr : isRecover o with
    | true =>
      rw [hr] at h
      simp only [cond_true] at h
      split at h <;> try (exact h.elim)
      rename_i hg
      have hw : Region.wanted o (yielded ops a.tmps) = true := by unfold Region.wanted; rw [hg]
      rw [if_pos hw, run_recover hr]
      simp only
      cases hf : s.fits o.dst with
      | false => rw [hf] at h; exact h.elim
      | true =>
        rw [hf] at h
        simp only [cond_true] at h
        cases md with
        | pan sv =>
          obtain ⟨v, rfl, hv⟩ := hm
          simp only at h
          simp only [recoverD]
          exact ih ρ _ _ _ _ _ h (H.put (Val.le.refl ρ) hf hv H.rel) ⟨v, rfl, hv⟩ hk hkx
        | ret =>
          have hm : u = .returning := hm
          subst hm
          simp only [recoverD]
          exact ih ρ _ _ _ _ _ h (H.put (sv := .lit .nilIface) (Val.le.refl ρ) hf rfl H.rel) rfl hk hkx
        | caught sv =>
          obtain ⟨v, rfl, hv⟩ := hm
          simp only [recoverD]
          exact ih ρ _ _ _ _ _ h (H.put (sv := .lit .nilIface) (Val.le.refl ρ) hf rfl H.rel) ⟨v, rfl, hv⟩ hk hkx
    | false =>
      rw [hr] at h
      simp only [cond_false] at h
      have := runGuarded_sound K h H (next := fun a' w' => wpOpsS P ops Qx is a' ({ c0 with mode := u } :: cs) w') (Qx := fun e a' w' => Qx e a' ({ c0 with mode := u } :: cs) w')
        (fun ρ' s' a' w' hle H' h' => ih ρ' s' md a' u w' h' H' (hm.mono hle) (fun ρ2 s2 md2 u2 a2 w2 h1 h2 h3 h4 => hk ρ2 s2 md2 u2 a2 w2 (hle.trans h1) h2 h3 h4) (fun ρ2 e e' s2 md2 u2 a2 w2 h1 h2 h3 h4 h5 => hkx ρ2 e e' s2 md2 u2 a2 w2 (hle.trans h1) h2 h3 h4 h5))
        (fun ρ' e e' s' a' w' hle he H' h' => hkx ρ' e e' s' md u a' w' hle he H' (hm.mono hle) h')
      split
      · rename_i hw
        rw [if_pos hw] at this
        unfold Oper.wp at this
        split
        · rename_i w' hx
          rw [hx] at this
          exact this.elim
        · exact this
      · rename_i hw
        rw [if_neg hw] at this
        exact this

theorem segD_sound (K : c.Ok P) : ∀ (code : Code) (s : State) (md : Md) (k : ExS → State → Md → Tree), (segD c code s md k).holds P Q →
    ∀ (env : Env) (ρ : Val) (a : Act) (w : World) (c0 : Frame) (cs : List Frame), RelSt env ρ s a w → MdRel ρ md c0.mode → code.wpS P (PostD env ρ c0 cs fun e s' md' => (k e s' md').holds P Q) a (c0 :: cs) w := by
  have base : ∀ (code : Code) (s : State) (md : Md) (k : ExS → State → Md → Tree), (seg c none code s fun e s' => k e s' md).holds P Q →
      ∀ (env : Env) (ρ : Val) (a : Act) (w : World) (c0 : Frame) (cs : List Frame), RelSt env ρ s a w → MdRel ρ md c0.mode → code.wpS P (PostD env ρ c0 cs fun e s' md' => (k e s' md').holds P Q) a (c0 :: cs) w := by
    intro code s md k h env ρ a w c0 cs H hm
    refine wpS_of_wp (wp_mono (seg_sound K none code s _ h env ρ a w H) fun e a' w' hp => ?_)
    obtain ⟨ρ', e', s', h1, h2, h3, h4⟩ := hp
    exact ⟨ρ', e', s', md, c0.mode, h1.full, h2, h3, hm.mono h1.full, rfl, h4⟩
  intro code
  induction code with
  | seq x y ihx ihy =>
    intro s md k h env ρ a w c0 cs H hm
    refine wpS_seq ?_
    have h1 := ihx s md _ h env ρ a w c0 cs H hm
    intro b kk hb hr
    obtain ⟨e, a', cs', w', hp, harr⟩ := h1 b kk hb hr
    refine ⟨e, a', cs', w', ?_, harr⟩
    obtain ⟨ρ', e', s', md', u', hle, he, H', hm', rfl, h'⟩ := hp
    cases e' with
    | normal =>
      have he' : e = .normal := he
      subst he'
      have h2 := ihy s' md' k h' env ρ' a' w' { c0 with mode := u' } cs H' hm'
      intro b kk hb hr
      obtain ⟨e, a2, cs2, w2, hp2, harr2⟩ := h2 b kk hb hr
      exact ⟨e, a2, cs2, w2, PostD.le hle hp2, harr2⟩
    | exit id => have he' : e = .exit id := he; subst he'; exact ⟨ρ', .exit id, s', md', u', hle, rfl, H', hm', rfl, h'⟩
    | goto l => have he' : e = .goto l := he; subst he'; exact ⟨ρ', .goto l, s', md', u', hle, rfl, H', hm', rfl, h'⟩
    | ret => have he' : e = .ret := he; subst he'; exact ⟨ρ', .ret, s', md', u', hle, rfl, H', hm', rfl, h'⟩
    | pnc v => obtain ⟨u, rfl, hu⟩ := he; exact ⟨ρ', .pnc v, s', md', u', hle, ⟨u, rfl, hu⟩, H', hm', rfl, h'⟩
  | cond x y z ihy ihz =>
    intro s md k h env ρ a w c0 cs H hm
    rw [segD] at h
    split at h <;> try (exact h.elim)
    rename_i g hg
    have hv := H.ev x
    rw [SV.bool?_eq hg] at hv
    have hv' : a.eval x = .bool g := hv
    refine wpS_cond hv' ?_
    cases g with
    | true => exact ihy _ md k (h.1 rfl) env ρ a w c0 cs (refine_rel H hv') hm
    | false => exact ihz _ md k (h.2 rfl) env ρ a w c0 cs (refine_rel H hv') hm
  | region id ops draw =>
    intro s md k h env ρ a w c0 cs H hm
    rw [segD] at h
    cases ha : ops.any isRecover with
    | false => rw [ha] at h; exact base _ s md k h env ρ a w c0 cs H hm
    | true =>
      rw [ha] at h
      cases draw with
      | true => exact h.elim
      | false =>
        simp only [cond_true, cond_false] at h
        refine wpS_region ?_
        exact runOpsD_sound K c0 cs _ ρ s md a c0.mode w h H hm (fun ρ' s' md' u' a' w' h1 h2 h3 h4 => ⟨ρ', .normal, s', md', u', h1, rfl, h2, h3, rfl, h4⟩) (fun ρ' e e' s' md' u' a' w' h1 h2 h3 h4 h5 => ⟨ρ', e', s', md', u', h1, h2, h3, h4, rfl, h5⟩)
  | _ => intro s md k h env ρ a w c0 cs H hm; exact base _ s md k h env ρ a w c0 cs H hm
end
end Go.SE

namespace Go.SE
open Go.RowKit

/-- a function's results, out of its slots -/
def resOne (c : Ctx) (s : State) : ResultVar → Option (Bool × SV)
  | .tmp t => some (true, s.slot t)
  | .cell a t => loadS c t (s.slot a) s.h
def resAll (c : Ctx) (s : State) : List ResultVar → Option (Bool × List SV)
  | [] => some (true, [])
  | r :: rs => (match resOne c s r, resAll c s rs with
    | some (b, v), some (b', l) => some (b && b', v :: l)
    | _, _ => none)
def resS (c : Ctx) (fn : Func) (s : State) : Option (Bool × SV) :=
  match resAll c s fn.results.toList with
  | some (b, [v]) => some (b, v)
  | some (b, l) => some (b, .tup l)
  | none => none

def settleS : Md → Md
  | .caught _ => .ret
  | md => md
def raisedS : Md → SV → Option Md
  | .ret, v => some (.pan v)
  | _, _ => none

/-- the deferred calls, one by one -/
def leaveD (c : Ctx) (fn : Func) (k kp : SV → Heap → Tree) (s : State) : List (Fn × List SV × List SV) → Md → Heap → Tree
  | [], .ret, h => (match resS c fn ⟨s.t, s.n, h, []⟩ with
    | some (b, v) => .need b (k v h)
    | none => .stuck)
  | [], .pan v, h => kp v h
  | [], .caught _, _ => .stuck
  | (f, cap, args) :: ds, md, h => (match f with
    | .func f => (match c.funcs.get f with
      | some fn' => bif fn'.body.isSome then .dcall f (args ++ cap) md h (fun md' h' => leaveD c fn k kp s ds (settleS md') h') (fun v md' h' => match raisedS md' v with
        | some md2 => leaveD c fn k kp s ds md2 h'
        | none => .stuck) else .stuck
      | none => .stuck)
    | _ => .stuck)

/-- how a function is left -/
def leave (c : Ctx) (fn : Func) (k kp : SV → Heap → Tree) : ExS → State → Tree
  | .normal, s => leaveD c fn k kp s s.ds .ret s.h
  | .ret, s => leaveD c fn k kp s s.ds .ret s.h
  | .pnc v, s => leaveD c fn k kp s s.ds (.pan v) s.h
  | .exit _, _ => .stuck
  | .goto _, _ => .stuck

/-- how a deferred one is left -/
def leaveF (c : Ctx) (fn : Func) (k : Md → Heap → Tree) (kp : SV → Md → Heap → Tree) : ExS → State → Md → Tree
  | .normal, s, md => (match s.ds, resS c fn s with
    | [], some (b, _) => .need b (k md s.h)
    | _, _ => .stuck)
  | .ret, s, md => (match s.ds, resS c fn s with
    | [], some (b, _) => .need b (k md s.h)
    | _, _ => .stuck)
  | .pnc v, s, md => (match s.ds with
    | [] => kp v md s.h
    | _ => .stuck)
  | .exit _, _, _ => .stuck
  | .goto _, _, _ => .stuck

def enter (fn : Func) (args : List SV) (h : Heap) : State := ⟨T.ofList args, args.length + (fn.ntmps - args.length), h, []⟩

/-- a call, its callee gone into -/
def inline (c : Ctx) (fn : Func) (code : Code) (args : List SV) (h : Heap) (k kp : SV → Heap → Tree) : Tree :=
  seg c (some h.n) code (enter fn args h) (leave c fn k kp)
def inlineD (c : Ctx) (fn : Func) (code : Code) (args : List SV) (md : Md) (h : Heap) (k : Md → Heap → Tree) (kp : SV → Md → Heap → Tree) : Tree :=
  segD c code (enter fn args h) md (leaveF c fn k kp)

section
variable {c : Ctx} {P : Program} {env : Env} {ρ : Val} {Q : ExS → State → Prop}

def resVar (tmps : Array Value) : ResultVar → Sem Value
  | .tmp t => pure (tmps.getD t undef)
  | .cell p t => do loadVar t (← asAddr (tmps.getD p undef))

theorem results_eq (fn : Func) (tmps : Array Value) : results fn tmps = (do let vs ← fn.results.mapM (resVar tmps); pure (if h : vs.size = 1 then vs[0] else .tuple vs)) := by
  unfold results
  congr 2

theorem run_resOne (K : c.Ok P) {s : State} {a : Act} {w : World} (H : RelSt env ρ s a w) {r : ResultVar} {v : SV} (h : resOne c s r = some (true, v)) :
    ∃ u, (resVar a.tmps r).run P w = .ok u w ∧ V ρ v u := by
  cases r with
  | tmp t =>
    simp only [resOne, Option.some.injEq, Prod.mk.injEq, true_and] at h
    subst h
    exact ⟨_, rfl, H.slots t⟩
  | cell p t =>
    have h' : loadS c t (s.slot p) s.h = some (true, v) := h
    obtain ⟨u, hu, hV⟩ := run_loadS K H.rel h' (H.slots p)
    refine ⟨u, ?_, hV⟩
    have hp : ∃ ad, a.tmps.getD p undef = .pointer (some ad) := by
      have h1 := H.slots p
      unfold loadS at h'
      split at h' <;> try (cases h'; done)
      rename_i i off hs
      rw [hs] at h1
      obtain ⟨b, cp, _, h2⟩ := h1
      exact ⟨_, h2⟩
    obtain ⟨ad, had⟩ := hp
    show (do loadVar t (← asAddr (a.tmps.getD p undef)) : Sem Value).run P w = _
    rw [had] at hu ⊢
    simpa [Instr.loadAt, Instr.sureAddr, asAddr] using hu

theorem run_resAll (K : c.Ok P) {s : State} {a : Act} {w : World} (H : RelSt env ρ s a w) : ∀ {rs : List ResultVar} {l : List SV}, resAll c s rs = some (true, l) →
    ∃ us : List Value, (rs.mapM (resVar a.tmps)).run P w = .ok us w ∧ VL ρ l us
  | [], l, h => by
    rw [resAll] at h; injection h with h; injection h with _ h; subst h
    exact ⟨[], by simp, trivial⟩
  | r :: rs, l, h => by
    rw [resAll] at h
    split at h <;> try (cases h; done)
    rename_i b v b' l' h1 h2
    simp only [Option.some.injEq, Prod.mk.injEq, Bool.and_eq_true] at h
    obtain ⟨⟨rfl, rfl⟩, rfl⟩ := h
    obtain ⟨u, hu, hV⟩ := run_resOne K H h1
    obtain ⟨us, hus, hVs⟩ := run_resAll K H h2
    refine ⟨u :: us, ?_, hV, hVs⟩
    rw [List.mapM_cons]
    simp only [Sem.run_bind, hu, Result.andThen_ok, hus, Sem.run_pure]

theorem run_resS (K : c.Ok P) {fn : Func} {s : State} {a : Act} {w : World} (H : RelSt env ρ s a w) {v : SV} (h : resS c fn s = some (true, v)) : ∃ u, (results fn a.tmps).run P w = .ok u w ∧ V ρ v u := by
  unfold resS at h
  have hm : ∀ l, resAll c s fn.results.toList = some (true, l) → ∃ us : List Value, VL ρ l us ∧ (results fn a.tmps).run P w = .ok (if h : us.toArray.size = 1 then us.toArray[0] else .tuple us.toArray) w := by
    intro l hl
    obtain ⟨us, hus, hV⟩ := run_resAll K H hl
    refine ⟨us, hV, ?_⟩
    rw [results_eq, Array.mapM_eq_mapM_toList]
    simp only [Sem.run_bind, Sem.run_map, hus, Result.andThen_ok, Sem.run_pure]
  split at h
  · rename_i b v' hr
    simp only [Option.some.injEq, Prod.mk.injEq] at h
    obtain ⟨rfl, rfl⟩ := h
    obtain ⟨us, hV, hrun⟩ := hm _ hr
    match us, hV with
    | [u], ⟨hu, _⟩ => exact ⟨u, by rw [hrun]; simp, hu⟩
  · rename_i b l hne hr
    simp only [Option.some.injEq, Prod.mk.injEq] at h
    obtain ⟨rfl, rfl⟩ := h
    obtain ⟨us, hV, hrun⟩ := hm _ hr
    refine ⟨.tuple us.toArray, ?_, us.toArray, rfl, by simpa using hV⟩
    rw [hrun]
    have hlen := hV.length
    have : ¬ us.toArray.size = 1 := by
      intro h1
      have h2 : l.length = 1 := by rw [hlen]; simpa using h1
      match l, h2 with
      | [x], _ => exact hne x rfl
    rw [dif_neg this]
  · cases h

theorem enter_rel {w : World} {h : Heap} (hr : Rel env ρ h w) {fn : Func} {args : List SV} {vs : List Value} (hv : VL ρ args vs) :
    RelSt env ρ (enter fn args h) { tmps := vs.toArray ++ Array.replicate (fn.ntmps - vs.toArray.size) undef, defers := [] } w := by
  have hl := hv.length
  refine ⟨by simp [enter, hl], fun i => ?_, trivial, hr⟩
  have h1 : (enter fn args h).slot i = (args[i]?).getD (.lit undef) := by simp [enter, State.slot, T.get_ofList]
  rw [h1]
  cases hi : args[i]? with
  | some s =>
    obtain ⟨v, h2, h3⟩ := hv.get hi
    have : (vs.toArray ++ Array.replicate (fn.ntmps - vs.toArray.size) undef).getD i undef = v := by
      have hlt : i < vs.length := by
        rcases Nat.lt_or_ge i vs.length with h' | h'
        · exact h'
        · rw [List.getElem?_eq_none h'] at h2; cases h2
      rw [Array.getD_eq_getD_getElem?, Array.getElem?_append_left (by simpa using hlt)]
      simp [h2]
    rw [this]; exact h3
  | none =>
    have hge : vs.length ≤ i := by
      rw [← hl]
      rcases Nat.lt_or_ge i args.length with h' | h'
      · rw [List.getElem?_eq_getElem h'] at hi; cases hi
      · exact h'
    have : (vs.toArray ++ Array.replicate (fn.ntmps - vs.toArray.size) undef).getD i undef = undef := by
      rw [Array.getD_eq_getD_getElem?, Array.getElem?_append_right (by simpa using hge), Array.getElem?_replicate]
      split <;> rfl
    rw [this]; rfl

theorem DsRel.nil {ds : List Deferred} (h : DsRel ρ [] ds) : ds = [] := by
  cases ds with
  | nil => rfl
  | cons _ _ => exact h.elim

theorem leaveD_sound (K : c.Ok P) {fn : Func} {k kp : SV → Heap → Tree} {s : State} {tmps : Array Value} {R : Ending → World → Prop} :
    ∀ (ds : List (Fn × List SV × List SV)) (md : Md) (h : Heap) (ρ : Val) (ds' : List Deferred) (u : FrameMode) (w : World), (leaveD c fn k kp s ds md h).holds P Q → DsRel ρ ds ds' → MdRel ρ md u → RelSt env ρ ⟨s.t, s.n, h, []⟩ { tmps := tmps, defers := [] } w →
      (∀ ρ' h' r v w', ρ.le ρ' → Rel env ρ' h' w' → V ρ' r v → (k r h').holds P Q → R (.returned v) w') →
      (∀ ρ' h' r v w', ρ.le ρ' → Rel env ρ' h' w' → V ρ' r v → (kp r h').holds P Q → R (.panicked [{ v, recovered := false }]) w') → Leaves P fn tmps R ds' u w := by
  intro ds
  induction ds with
  | nil =>
    intro md h ρ ds' u w hh hds hm H hk hkp
    rw [DsRel.nil hds]
    cases md with
    | ret =>
      have hm : u = .returning := hm
      subst hm
      rw [leaveD] at hh
      split at hh <;> try (exact hh.elim)
      rename_i b v hres
      obtain ⟨rfl, hh⟩ := hh
      obtain ⟨uv, hu, hV⟩ := run_resS K H hres
      exact ⟨uv, hu, hk ρ h v uv w (Val.le.refl ρ) H.rel hV hh⟩
    | pan sv =>
      obtain ⟨v, rfl, hv⟩ := hm
      exact hkp ρ h sv v w (Val.le.refl ρ) H.rel hv hh
    | caught sv => exact hh.elim
  | cons d ds ih =>
    intro md h ρ ds' u w hh hds hm H hk hkp
    obtain ⟨f, cap, args⟩ := d
    cases ds' with
    | nil => exact hds.elim
    | cons d' ds' =>
      obtain ⟨⟨cs, ht, hcap⟩, hargs, hds⟩ := hds
      cases f <;> try (exact (show (Tree.stuck).holds P Q from hh).elim)
      rename_i f
      simp only [leaveD] at hh
      split at hh <;> try (exact hh.elim)
      rename_i fn' hfn
      cases hb : fn'.body.isSome with
      | false => rw [hb] at hh; exact hh.elim
      | true =>
        rw [hb] at hh
        simp only [cond_true] at hh
        have hrun : u ≠ .run := by
          cases md with
          | ret => have hm : u = .returning := hm; rw [hm]; simp
          | pan sv => obtain ⟨v, rfl, _⟩ := hm; simp
          | caught sv => obtain ⟨v, rfl, _⟩ := hm; simp
        have hv := hargs.append hcap
        refine ⟨hrun, .func f, cs, f, (d'.args.toList ++ cs.toList).toArray, ht, ?_, ?_⟩
        · have h1 := K.funcs f fn' hfn
          have h2 := K.named f fn' hfn
          have h3 : fn'.body.isNone = false := by cases hb' : fn'.body <;> simp [hb'] at hb ⊢
          have he : (d'.args ++ cs) = (d'.args.toList ++ cs.toList).toArray := by apply Array.ext'; simp
          rw [ht]
          simp only [invoke, he, callFunc, Sem.run_bind, run_program, Result.andThen_ok, h1, h2, h3, Bool.false_eq_true, if_false, Sem.run_pure]
        · have := hh env ρ w _ u H.rel hv hm
          obtain this := this
          intro c0 cs0 hu
          obtain ⟨e, u', w', fr, hR, hrest⟩ := this c0 cs0 hu
          refine ⟨e, u', w', fr, ?_, hrest⟩
          cases e with
          | returned v =>
            obtain ⟨ρ', h', md', hle, hrel, hm', hh'⟩ := hR
            have hst : RelSt env ρ' ⟨s.t, s.n, h', []⟩ { tmps := tmps, defers := [] } w' := ⟨H.size, fun i => (H.slots i).mono hle, trivial, hrel⟩
            refine ih (settleS md') h' ρ' ds' (settle u') w' hh' (hds.mono hle) ?_ hst (fun ρ2 h2 r v w2 g1 g2 g3 g4 => hk ρ2 h2 r v w2 (hle.trans g1) g2 g3 g4) (fun ρ2 h2 r v w2 g1 g2 g3 g4 => hkp ρ2 h2 r v w2 (hle.trans g1) g2 g3 g4)
            cases md' with
            | ret => have hm' : u' = .returning := hm'; rw [hm']; rfl
            | pan sv => obtain ⟨v, rfl, hv⟩ := hm'; exact ⟨v, rfl, hv⟩
            | caught sv => obtain ⟨v, rfl, hv⟩ := hm'; rfl
          | panicked chain =>
            obtain ⟨ρ', h', md', r, v, rfl, hle, hrel, hv', hm', hh'⟩ := hR
            have hst : RelSt env ρ' ⟨s.t, s.n, h', []⟩ { tmps := tmps, defers := [] } w' := ⟨H.size, fun i => (H.slots i).mono hle, trivial, hrel⟩
            cases md' with
            | ret =>
              have hm' : u' = .returning := hm'
              subst hm'
              exact ih (.pan r) h' ρ' ds' _ w' hh' (hds.mono hle) ⟨v, rfl, hv'⟩ hst (fun ρ2 h2 r v w2 g1 g2 g3 g4 => hk ρ2 h2 r v w2 (hle.trans g1) g2 g3 g4) (fun ρ2 h2 r v w2 g1 g2 g3 g4 => hkp ρ2 h2 r v w2 (hle.trans g1) g2 g3 g4)
            | pan sv => exact hh'.elim
            | caught sv => exact hh'.elim
          | outgrown => exact hR.elim

theorem inline_sound (K : c.Ok P) {f : FuncId} {fn : Func} (hf : c.funcs.get f = some fn) {code : Code} (hb : fn.body = some code) {args : List SV} {h : Heap} {k kp : SV → Heap → Tree}
    (hh : (inline c fn code args h k kp).holds P Q) : CallH P f args h (fun r h' => (k r h').holds P Q) (fun r h' => (kp r h').holds P Q) := by
  intro env ρ w vs hr hv
  have h1 := seg_sound K (some h.n) code _ _ hh env ρ _ w (enter_rel (fn := fn) hr hv)
  refine calls_of_wp_defers (K.funcs f fn hf) hb (wp_mono h1 fun e a' w' hp => ?_)
  obtain ⟨ρ', e', s', hle, he, H', hq⟩ := hp
  replace hle := hle.fresh (fun i hi => (hr.fresh i hi).1)
  have hst : RelSt env ρ' ⟨s'.t, s'.n, s'.h, []⟩ { tmps := a'.tmps, defers := [] } w' := ⟨H'.size, H'.slots, trivial, H'.rel⟩
  cases e' with
  | normal =>
    have he' : e = .normal := he
    subst he'
    exact leaveD_sound K s'.ds .ret s'.h ρ' a'.defers .returning w' hq H'.defers rfl hst (fun ρ2 h2 r v w2 g1 g2 g3 g4 => ⟨ρ2, h2, r, hle.trans g1, g2, g3, g4⟩) (fun ρ2 h2 r v w2 g1 g2 g3 g4 => ⟨ρ2, h2, r, v, rfl, hle.trans g1, g2, g3, g4⟩)
  | ret =>
    have he' : e = .ret := he
    subst he'
    exact leaveD_sound K s'.ds .ret s'.h ρ' a'.defers .returning w' hq H'.defers rfl hst (fun ρ2 h2 r v w2 g1 g2 g3 g4 => ⟨ρ2, h2, r, hle.trans g1, g2, g3, g4⟩) (fun ρ2 h2 r v w2 g1 g2 g3 g4 => ⟨ρ2, h2, r, v, rfl, hle.trans g1, g2, g3, g4⟩)
  | exit id => exact hq.elim
  | goto l => exact hq.elim
  | pnc v =>
    obtain ⟨u, rfl, hu⟩ := he
    exact leaveD_sound K s'.ds (.pan v) s'.h ρ' a'.defers _ w' hq H'.defers ⟨u, rfl, hu⟩ hst (fun ρ2 h2 r v w2 g1 g2 g3 g4 => ⟨ρ2, h2, r, hle.trans g1, g2, g3, g4⟩) (fun ρ2 h2 r v w2 g1 g2 g3 g4 => ⟨ρ2, h2, r, v, rfl, hle.trans g1, g2, g3, g4⟩)

theorem inlineD_sound (K : c.Ok P) {f : FuncId} {fn : Func} (hf : c.funcs.get f = some fn) {code : Code} (hb : fn.body = some code) {args : List SV} {md : Md} {h : Heap} {k : Md → Heap → Tree} {kp : SV → Md → Heap → Tree}
    (hh : (inlineD c fn code args md h k kp).holds P Q) : DCallH P f args md h (fun md' h' => (k md' h').holds P Q) (fun r md' h' => (kp r md' h').holds P Q) := by
  intro env ρ w vs u hr hv hm
  refine callsD_of_wpS (K.funcs f fn hf) hb (fun c0 cs hu => ?_)
  subst hu
  have h1 := segD_sound K code _ md _ hh env ρ _ w c0 cs (enter_rel (fn := fn) hr hv) hm
  intro b kk hb' hr'
  obtain ⟨e, a', cs', w', hp, harr⟩ := h1 b kk hb' hr'
  refine ⟨e, a', cs', w', ?_, harr⟩
  obtain ⟨ρ', e', s', md', u', hle, he, H', hm', rfl, hq⟩ := hp
  have nod : s'.ds = [] → a'.defers = [] := fun hds => by have := H'.defers; rw [hds] at this; exact DsRel.nil this
  have fin : ∀ (b : Bool) (v : SV), s'.ds = [] → resS c fn s' = some (b, v) → b = true → (k md' s'.h).holds P Q → a'.defers = [] ∧ ∃ u'', { c0 with mode := u' } :: cs = { c0 with mode := u'' } :: cs ∧ ∃ v, (results fn a'.tmps).run P w' = .ok v w' ∧ ∃ ρ' h' md', ρ.le ρ' ∧ Rel env ρ' h' w' ∧ MdRel ρ' md' u'' ∧ (k md' h').holds P Q := by
    intro b v hds hres hbt hk
    subst hbt
    obtain ⟨uv, hu, hV⟩ := run_resS K H' hres
    exact ⟨nod hds, u', rfl, uv, hu, ρ', s'.h, md', hle, H'.rel, hm', hk⟩
  cases e' with
  | normal =>
    have he' : e = .normal := he
    subst he'
    simp only [leaveF] at hq
    split at hq <;> try (exact hq.elim)
    rename_i b v hds hres
    exact fin b v hds hres hq.1 hq.2
  | ret =>
    have he' : e = .ret := he
    subst he'
    simp only [leaveF] at hq
    split at hq <;> try (exact hq.elim)
    rename_i b v hds hres
    exact fin b v hds hres hq.1 hq.2
  | exit id => exact hq.elim
  | goto l => exact hq.elim
  | pnc v =>
    obtain ⟨u, rfl, hu⟩ := he
    simp only [leaveF] at hq
    split at hq <;> try (exact hq.elim)
    rename_i hds
    exact ⟨nod hds, u', rfl, ρ', s'.h, md', v, u, rfl, hle, H'.rel, hu, hm', hq⟩
end

/-! closed runs -/
/-- what is known of some functions otherwise: an answer -/
structure Oracle (P : Program) where
  ask : FuncId → List SV → Heap → Option (SV × Heap)
  right : ∀ f args h r h', ask f args h = some (r, h') → ∀ K Kp : SV → Heap → Prop, K r h' → CallH P f args h K Kp

def step1 (c : Ctx) (ask : FuncId → List SV → Heap → Option (SV × Heap)) : Tree → Option Tree
  | .fin _ _ => none
  | .stuck => none
  | .need b k => bif b then some k else none
  | .needEq a b k => bif SV.same a b then some k else none
  | .br b t f => bif b then some t else some f
  | .both _ _ => none
  | .call f args h k kp => (match ask f args h with
    | some (r, h') => some (k r h')
    | none => (match c.funcs.get f with
      | some fn => (match fn.body with
        | some code => some (inline c fn code args h k kp)
        | none => none)
      | none => none))
  | .loop m body s k => some (seg c m body s fun e s' => match e with
      | .normal => .loop m body s' k
      | e => k e s')
  | .inscope m body cur s k => some (seg c m cur s fun e s' => match e with
      | .goto l => (match findLabel body l with
        | some rest => .inscope m body rest s' k
        | none => k (.goto l) s')
      | e => k e s')
  | .dcall f args md h k kp => (match c.funcs.get f with
    | some fn => (match fn.body with
      | some code => some (inlineD c fn code args md h k kp)
      | none => none)
    | none => none)

theorem step1_sound {c : Ctx} {P : Program} (K : c.Ok P) (O : Oracle P) {Q : ExS → State → Prop} {t t' : Tree} (h : step1 c O.ask t = some t') (hq : t'.holds P Q) : t.holds P Q := by
  cases t with
  | fin e s => cases h
  | stuck => cases h
  | need b k =>
    cases b with
    | true => injection h with h; subst h; exact ⟨rfl, hq⟩
    | false => cases h
  | needEq a b k =>
    simp only [step1] at h
    cases hs : SV.same a b with
    | true => rw [hs] at h; injection h with h; subst h; exact ⟨SV.same_eq hs, hq⟩
    | false => rw [hs] at h; cases h
  | br b t f =>
    cases b with
    | true => injection h with h; subst h; exact ⟨fun _ => hq, fun hb => Bool.noConfusion hb⟩
    | false => injection h with h; subst h; exact ⟨fun hb => Bool.noConfusion hb, fun _ => hq⟩
  | both t f => cases h
  | call f args hp k kp =>
    simp only [step1] at h
    split at h
    · rename_i r h' ha
      injection h with h; subst h
      exact O.right f args hp r h' ha _ _ hq
    · split at h <;> try (cases h; done)
      rename_i fn hf
      split at h <;> try (cases h; done)
      rename_i code hb
      injection h with h; subst h
      exact inline_sound K hf hb hq
  | loop m body s' k =>
    injection h with h; subst h
    have h1 := seg_sound K m body s' _ hq
    refine loop_unroll fun env ρ a w H => wp_mono (h1 env ρ a w H) fun e2 a' w' hp => ?_
    obtain ⟨ρ', e', s2, hle, he, H', hq'⟩ := hp
    refine ⟨ρ', e', s2, hle, he, H', ?_⟩
    cases e' <;> exact hq'
  | inscope m body cur s' k =>
    injection h with h; subst h
    have h1 := seg_sound K m cur s' _ hq
    refine scope_unroll fun env ρ a w H => wp_mono (h1 env ρ a w H) fun e2 a' w' hp => ?_
    obtain ⟨ρ', e', s2, hle, he, H', hq'⟩ := hp
    refine ⟨ρ', e', s2, hle, he, H', ?_⟩
    cases e' with
    | goto l =>
      simp only at hq' ⊢
      revert hq'
      cases findLabel body l <;> exact fun h => h
    | _ => exact hq'
  | dcall f args md hp k kp =>
    simp only [step1] at h
    split at h <;> try (cases h; done)
    rename_i fn hf
    split at h <;> try (cases h; done)
    rename_i code hb
    injection h with h; subst h
    exact inlineD_sound K hf hb hq

/-- a closed run: as many turns as the counter says, to its end -/
def run (c : Ctx) (ask : FuncId → List SV → Heap → Option (SV × Heap)) : Nat → Tree → Tree
  | 0, t => t
  | n + 1, t => (match step1 c ask t with
    | some t' => run c ask n t'
    | none => t)

theorem run_sound {c : Ctx} {P : Program} (K : c.Ok P) (O : Oracle P) {Q : ExS → State → Prop} : ∀ (n : Nat) (t : Tree), (run c O.ask n t).holds P Q → t.holds P Q := by
  intro n
  induction n with
  | zero => intro t h; exact h
  | succ n ih =>
    intro t h
    rw [run] at h
    split at h
    · rename_i t' ht
      exact step1_sound K O ht (ih t' h)
    · exact h

/-- an open run: what is not known is passed by -/
def runO (c : Ctx) (ask : FuncId → List SV → Heap → Option (SV × Heap)) : Nat → Tree → Tree
  | 0, t => t
  | n + 1, t => (match t with
    | .need b k => .need b (runO c ask n k)
    | .needEq a b k => .needEq a b (runO c ask n k)
    | .br b t f => .br b (runO c ask n t) (runO c ask n f)
    | .both t f => .both (runO c ask n t) (runO c ask n f)
    | t => (match step1 c ask t with
      | some t' => runO c ask n t'
      | none => t))

theorem runO_sound {c : Ctx} {P : Program} (K : c.Ok P) (O : Oracle P) {Q : ExS → State → Prop} : ∀ (n : Nat) (t : Tree), (runO c O.ask n t).holds P Q → t.holds P Q := by
  intro n
  induction n with
  | zero => intro t h; exact h
  | succ n ih =>
    intro t h
    have gen : (match step1 c O.ask t with | some t' => runO c O.ask n t' | none => t).holds P Q → t.holds P Q := by
      intro h
      split at h
      · rename_i t' ht
        exact step1_sound K O ht (ih t' h)
      · exact h
    cases t with
    | need b k => exact ⟨h.1, ih k h.2⟩
    | needEq a b k => exact ⟨h.1, ih k h.2⟩
    | br b t f => exact ⟨fun hb => ih t (h.1 hb), fun hb => ih f (h.2 hb)⟩
    | both t f => exact ⟨ih t h.1, ih f h.2⟩
    | fin e s => exact gen h
    | stuck => exact gen h
    | call f args hp k kp => exact gen h
    | loop m body s' k => exact gen h
    | inscope m body cur s' k => exact gen h
    | dcall f args md hp k kp => exact gen h
end Go.SE

