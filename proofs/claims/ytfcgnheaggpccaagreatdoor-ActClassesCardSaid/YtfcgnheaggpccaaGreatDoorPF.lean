/- The symbolic executor: frames, canonical states, SHA-256 as functions, closed calls, open runs; closed facts of a row. No condition. -/
import Derived.Test.YtfcgnheaggpccaaGreatDoorPE
import Derived.JoinedOf
namespace Go.SE
open Go.RowKit

section
variable {c : Ctx} {P : Program} {e : Env} {ρ : Val} {h : Heap} {w w' : World}

/-- all that was there is as it was -/
theorem Rel.below (H : Rel e ρ h w) (B : Below w.heap.size w w') : Rel e ρ h w' := by
  refine ⟨⟨B.os.trans H.kept.os, B.tape.trans H.kept.tape, B.output.trans H.kept.output, Nat.le_trans H.kept.size B.size, fun b hb hm => ?_⟩, H.fresh, fun i x r hi hl => ?_, H.apart, fun i x j r hi => ?_⟩
  · rw [B.block b (Nat.lt_of_lt_of_le hb H.kept.size)]; exact H.kept.block b hb hm
  · obtain ⟨b, cp, h1, h2, h3⟩ := H.holds i x r hi hl
    exact ⟨b, cp, h1, Holds.mono (Val.le.refl ρ) (B.block b h2.lt) h2, h3⟩
  · obtain ⟨b, cp, h1, h2, h3, h4⟩ := H.was i x j r hi
    exact ⟨b, cp, h1, Nat.lt_of_lt_of_le h2 B.size, h3, h4.imp id (fun g => ⟨Holds.mono (Val.le.refl ρ) (B.block b g.1.lt) g.1, g.2⟩)⟩

/-- what nothing may be written of is as it was -/
theorem Kept.below {w0 w : World} {ro : Nat → Prop} {hro} (H : Kept ⟨w0, fun _ => False, ro, hro⟩ w) : Below w0.heap.size w0 w :=
  ⟨H.os, H.tape, H.output, H.size, fun k hk => H.block k hk (fun h => h)⟩

/-- a call whose answer is a value, and that leaves all as it was -/
theorem CallH.pure {f : FuncId} {args : List SV} {r : SV} {K Kp : SV → Heap → Prop}
    (H : ∀ (env : Env) (ρ : Val) (w : World) (vs : List Value), Rel env ρ h w → VL ρ args vs → Calls P f vs.toArray w fun e w' => ∃ v, e = .returned v ∧ V ρ r v ∧ Below w.heap.size w w')
    (hK : K r h) : CallH P f args h K Kp := by
  intro env ρ w vs hr hv
  refine Calls.mono (H env ρ w vs hr hv) (fun e w' he => ?_)
  obtain ⟨v, rfl, hV, hB⟩ := he
  exact ⟨ρ, h, r, Val.le.refl ρ, hr.below hB, hV, hK⟩
end
end Go.SE

namespace Go.SE
open Go.RowKit

def memN (n : Nat) : List Nat → Bool
  | [] => false
  | m :: l => bif Nat.beq m n then true else memN n l
def nodupN : List Nat → Bool
  | [] => true
  | m :: l => !memN m l && nodupN l
def idxN (n : Nat) : List Nat → Nat → Option Nat
  | [], _ => none
  | m :: l, k => bif Nat.beq m n then some k else idxN n l (k + 1)

mutual
def SV.ids : SV → List Nat
  | .lit _ => []
  | .ptr i _ => [i]
  | .slc i _ _ _ => [i]
  | .own i _ => [i]
  | .tail i _ _ _ _ => [i]
  | .ref i => [i]
  | .fn _ a b => SV.idsL a ++ SV.idsL b
  | .iface _ v => v.ids
  | .agg l => SV.idsL l
  | .tup l => SV.idsL l
  | .any => []
def SV.idsL : List SV → List Nat
  | [] => []
  | x :: l => x.ids ++ SV.idsL l
end
def Res.ids : Res → List Nat
  | .cells l _ => SV.idsL l
  | .own l _ _ => SV.idsL l
  | .map es _ => es.flatMap fun e => e.1.ids ++ e.2.1.ids
  | .iter j _ _ _ => [j]
  | _ => []

mutual
def SV.ren (σ : Nat → Option Nat) : SV → SV
  | .lit v => .lit v
  | .ptr i o => (match σ i with | some j => .ptr j o | none => .any)
  | .slc i o n c => (match σ i with | some j => .slc j o n c | none => .any)
  | .own i n => (match σ i with | some j => .own j n | none => .any)
  | .tail i o a n o0 => (match σ i with | some j => .tail j o a n o0 | none => .any)
  | .ref i => (match σ i with | some j => .ref j | none => .any)
  | .fn f a b => .fn f (SV.renL σ a) (SV.renL σ b)
  | .iface t v => .iface t (v.ren σ)
  | .agg l => .agg (SV.renL σ l)
  | .tup l => .tup (SV.renL σ l)
  | .any => .any
def SV.renL (σ : Nat → Option Nat) : List SV → List SV
  | [] => []
  | x :: l => x.ren σ :: SV.renL σ l
end
def Res.ren (σ : Nat → Option Nat) : Res → Res
  | .cells l E => .cells (SV.renL σ l) E
  | .own l E sz => .own (SV.renL σ l) E sz
  | .ints k l E => .ints k l E
  | .owni k l E => .owni k l E
  | .mark k l E => .mark k l E
  | .map es clock => .map (es.map fun e => (e.1.ren σ, e.2.1.ren σ, e.2.2)) clock
  | .gone => .gone
  | .was _ _ => .gone
  | .iter j a b l => (match σ j with | some j' => .iter j' a b l | none => .gone)
  | .obj o => .obj o

/-- all are numbers of one kind -/
def allInts (k : IntKind) : List SV → Option (List Int)
  | [] => some []
  | x :: l => (match x.int?, allInts k l with
    | some (k', n), some ns => bif decide (k' = k) then some (n :: ns) else none
    | _, _ => none)
/-- a row of numbers, as such -/
def Res.nums (k : IntKind) : Res → Res
  | .cells l E => (match allInts k l with | some ns => .ints k ns E | none => .cells l E)
  | .own l E 1 => (match allInts k l with | some ns => .owni k ns E | none => .own l E 1)
  | r => r

def reachN (h : Heap) (m : Nat) : Nat → List Nat → List Nat → List Nat
  | 0, _, seen => seen
  | _ + 1, [], seen => seen
  | f + 1, i :: todo, seen => bif Nat.blt i m || memN i seen then reachN h m f todo seen else
      reachN h m f ((match h.m.get i with | some (_, r) => r.ids | none => []) ++ todo) (seen ++ [i])

def lookL : List (Nat × SV) → Nat → SV
  | [], _ => .any
  | (j, v) :: l, i => bif Nat.beq j i then v else lookL l i
def putL : List (Nat × (Bool × Res)) → T (Bool × Res) → T (Bool × Res)
  | [], t => t
  | (i, x) :: l, t => putL l (t.set i x)
/-- a state, written out: so many slots, those that are known, so many blocks, those that are known -/
def mkS (n : Nat) (sl : List (Nat × SV)) (hn : Nat) (hl : List (Nat × (Bool × Res))) : State :=
  ⟨T.ofList ((List.range n).map (lookL sl)), n, ⟨hn, putL hl .nil⟩, []⟩

def backN (m : Nat) (ids : List Nat) (i : Nat) : Nat := bif Nat.blt i m then i else ids.getD (i - m) 0
def forthN (m : Nat) (ids : List Nat) (j : Nat) : Option Nat := bif Nat.blt j m then some j else idxN j ids m
def blocksN (m : Nat) (ids : List Nat) (cv : List (Nat × IntKind)) (h : Heap) : List Nat → List (Nat × (Bool × Res))
  | [] => []
  | i :: is => (match h.m.get (backN m ids i) with
    | some (x, r) => (i, (x, match cv.find? (fun p => Nat.beq p.1 i) with
      | some (_, k) => (r.ren (forthN m ids)).nums k
      | none => r.ren (forthN m ids))) :: blocksN m ids cv h is
    | none => blocksN m ids cv h is)

def normIds (m : Nat) (keep : List Nat) (s : State) : List Nat :=
  reachN s.h m 200 (SV.idsL (keep.map s.slot) ++ (List.range m).flatMap fun i => match s.h.m.get i with | some (_, r) => r.ids | none => []) []

def normWith (m : Nat) (keep : List Nat) (cv : List (Nat × IntKind)) (s : State) (ids : List Nat) : State :=
  bif nodupN ids && (ids.all (fun i => Nat.ble m i) && s.ds.isEmpty) then
    mkS s.n (keep.map fun i => (i, (s.slot i).ren (forthN m ids))) (m + ids.length) (blocksN m ids cv s.h (List.range (m + ids.length)))
  else s
/-- s, in one form: the slots to keep; the blocks from m on numbered anew, as they are found -/
def norm (m : Nat) (keep : List Nat) (cv : List (Nat × IntKind)) (s : State) : State := normWith m keep cv s (normIds m keep s)

section
variable {ρ ρ2 : Val} {σ : Nat → Option Nat}

mutual
theorem V.ren (hσ : ∀ i j x, σ i = some j → ρ i = some x → ρ2 j = some x) : ∀ {s : SV} {v : Value}, V ρ s v → V ρ2 (s.ren σ) v
  | .lit _, _, h => h
  | .ptr i o, v, ⟨b, c, h1, h2⟩ => by
    rw [SV.ren]
    cases hi : σ i with
    | none => exact trivial
    | some j => exact ⟨b, c, hσ i j _ hi h1, h2⟩
  | .slc i o n cp, v, ⟨b, c, h1, h2⟩ => by
    rw [SV.ren]
    cases hi : σ i with
    | none => exact trivial
    | some j => exact ⟨b, c, hσ i j _ hi h1, h2⟩
  | .own i n, v, ⟨b, c, h1, h2⟩ => by
    rw [SV.ren]
    cases hi : σ i with
    | none => exact trivial
    | some j => exact ⟨b, c, hσ i j _ hi h1, h2⟩
  | .tail i o a n o0, v, ⟨b, c, h1, h2⟩ => by
    rw [SV.ren]
    cases hi : σ i with
    | none => exact trivial
    | some j => exact ⟨b, c, hσ i j _ hi h1, h2⟩
  | .ref i, v, ⟨b, c, h1, h2⟩ => by
    rw [SV.ren]
    cases hi : σ i with
    | none => exact trivial
    | some j => exact ⟨b, c, hσ i j _ hi h1, h2⟩
  | .fn _ _ _, _, ⟨fs, cs, h, h1, h2⟩ => ⟨fs, cs, h, VL.ren hσ h1, VL.ren hσ h2⟩
  | .iface _ _, _, ⟨y, h, h1⟩ => ⟨y, h, V.ren hσ h1⟩
  | .agg _, _, ⟨cs, h, h1⟩ => ⟨cs, h, VL.ren hσ h1⟩
  | .tup _, _, ⟨cs, h, h1⟩ => ⟨cs, h, VL.ren hσ h1⟩
  | .any, _, _ => trivial
theorem VL.ren (hσ : ∀ i j x, σ i = some j → ρ i = some x → ρ2 j = some x) : ∀ {l : List SV} {vs : List Value}, VL ρ l vs → VL ρ2 (SV.renL σ l) vs
  | [], [], _ => trivial
  | _ :: _, _ :: _, ⟨h1, h2⟩ => ⟨V.ren hσ h1, VL.ren hσ h2⟩
  | [], _ :: _, h => h.elim
  | _ :: _, [], h => h.elim
end

theorem renL_length : ∀ (l : List SV), (SV.renL σ l).length = l.length
  | [] => rfl
  | _ :: l => congrArg (· + 1) (renL_length l)

theorem MapRel.ren (hσ : ∀ i j x, σ i = some j → ρ i = some x → ρ2 j = some x) : ∀ {es : List (SV × SV × Nat)} {cs : List MapEntry}, MapRel ρ es cs → MapRel ρ2 (es.map fun e => (e.1.ren σ, e.2.1.ren σ, e.2.2)) cs
  | [], [], _ => trivial
  | (_, _, _) :: _, _ :: _, ⟨h1, h2, h3, h4⟩ => ⟨V.ren hσ h1, V.ren hσ h2, h3, MapRel.ren hσ h4⟩
  | [], _ :: _, h => h.elim
  | (_, _, _) :: _, [], h => h.elim

theorem Holds.ren (hσ : ∀ i j x, σ i = some j → ρ i = some x → ρ2 j = some x) {b c : Nat} {w : World} : ∀ {r : Res}, Holds ρ b c w r → (r.ren σ).live = true → Holds ρ2 b c w (r.ren σ)
  | .cells _ _, ⟨cs, h1, h2⟩, _ => ⟨cs, h1, VL.ren hσ h2⟩
  | .own l _ _, ⟨cs, h1, h2, h3, h4, h5⟩, _ => ⟨cs, h1, h2, by rw [renL_length]; exact h3, h4, by rw [renL_length]; exact VL.ren hσ h5⟩
  | .ints _ _ _, h, _ => h
  | .owni _ _ _, h, _ => h
  | .mark _ _ _, h, _ => h
  | .map _ _, ⟨cs, h1, h2⟩, _ => ⟨cs, h1, MapRel.ren hσ h2⟩
  | .gone, h, _ => h
  | .was _ _, h, _ => h
  | .iter j _ _ _, ⟨bm, cm, h1, h2⟩, hl => by
    rw [Res.ren] at hl ⊢
    cases hj : σ j with
    | none => rw [hj] at hl; cases hl
    | some j' => exact ⟨bm, cm, hσ j j' _ hj h1, h2⟩
  | .obj _, h, _ => h

theorem ren_live {r : Res} (h : (r.ren σ).live = true) : r.live = true := by
  cases r <;> first | rfl | (cases h; done)
theorem ren_was {r : Res} (j : Nat) (q : Res) : r.ren σ ≠ .was j q := by
  cases r <;> simp only [Res.ren, ne_eq, reduceCtorEq, not_false_eq_true]
  split <;> simp

theorem allInts_eq {k : IntKind} : ∀ {l : List SV} {ns : List Int}, allInts k l = some ns → ∀ {vs : List Value}, VL ρ l vs → vs = ns.map (Value.int k)
  | [], ns, h, [], _ => by rw [allInts] at h; injection h with h; subst h; rfl
  | x :: l, ns, h, v :: vs, ⟨h1, h2⟩ => by
    rw [allInts] at h
    split at h <;> try (cases h; done)
    rename_i k' n ns' hx hl
    cases hk : decide (k' = k) with
    | false => rw [hk] at h; cases h
    | true =>
      rw [hk] at h
      simp only [decide_eq_true_eq] at hk
      subst hk
      simp only [cond_true, Option.some.injEq] at h
      subst h
      rw [SV.int?_eq hx] at h1
      cases h1
      rw [allInts_eq hl h2]
      rfl
  | [], _, _, _ :: _, h => h.elim
  | _ :: _, _, _, [], h => h.elim

theorem allInts_length {k : IntKind} : ∀ {l : List SV} {ns : List Int}, allInts k l = some ns → ns.length = l.length
  | [], ns, h => by rw [allInts] at h; injection h with h; subst h; rfl
  | x :: l, ns, h => by
    rw [allInts] at h
    split at h <;> try (cases h; done)
    rename_i k' n ns' hx hl
    cases hk : decide (k' = k) with
    | false => rw [hk] at h; cases h
    | true =>
      rw [hk] at h
      simp only [cond_true, Option.some.injEq] at h
      subst h
      rw [List.length_cons, List.length_cons, allInts_length hl]

theorem Holds.nums (k : IntKind) {b c : Nat} {w : World} {r : Res} (h : Holds ρ b c w r) : Holds ρ b c w (r.nums k) := by
  unfold Res.nums
  split
  · split
    · rename_i ns hns
      obtain ⟨cs, h1, h2⟩ := h
      exact ⟨cs, h1, allInts_eq hns h2⟩
    · exact h
  · split
    · rename_i ns hns
      obtain ⟨cs, h1, h2, h3, h4, h5⟩ := h
      have hl := allInts_length hns
      refine ⟨cs, h1, by omega, by omega, h4, ?_⟩
      rw [hl]
      exact allInts_eq hns h5
    · exact h
  · exact h
theorem nums_live {k : IntKind} {r : Res} : (r.nums k).live = r.live := by
  unfold Res.nums
  split
  · split <;> rfl
  · split <;> rfl
  · rfl
theorem nums_was {k : IntKind} {r : Res} (hr : ∀ j q, r ≠ .was j q) (j : Nat) (q : Res) : r.nums k ≠ .was j q := by
  unfold Res.nums
  split
  · split <;> simp
  · split <;> simp
  · exact hr j q
end

theorem memN_iff {n : Nat} : ∀ {l : List Nat}, memN n l = true ↔ n ∈ l
  | [] => by simp [memN]
  | m :: l => by
    rw [memN]
    cases h : Nat.beq m n with
    | true => have := Nat.eq_of_beq_eq_true h; subst this; simp
    | false =>
      have : ¬ m = n := by rintro rfl; rw [Nat.beq_refl] at h; cases h
      simp only [cond_false, memN_iff, List.mem_cons]
      constructor
      · exact Or.inr
      · rintro (rfl | h)
        · exact absurd rfl this
        · exact h
theorem nodupN_iff : ∀ {l : List Nat}, nodupN l = true → l.Nodup
  | [], _ => List.nodup_nil
  | m :: l, h => by
    rw [nodupN, Bool.and_eq_true, Bool.not_eq_true'] at h
    refine List.nodup_cons.2 ⟨fun hm => ?_, nodupN_iff h.2⟩
    rw [memN_iff.2 hm] at h
    cases h.1
theorem idxN_get {n : Nat} : ∀ {l : List Nat} {k j : Nat}, idxN n l k = some j → k ≤ j ∧ j < k + l.length ∧ l.getD (j - k) 0 = n
  | [], k, j, h => by cases h
  | m :: l, k, j, h => by
    rw [idxN] at h
    cases hm : Nat.beq m n with
    | true =>
      rw [hm] at h
      simp only [cond_true, Option.some.injEq] at h
      subst h
      have := Nat.eq_of_beq_eq_true hm
      subst this
      refine ⟨Nat.le_refl _, by simp, by simp⟩
    | false =>
      rw [hm] at h
      obtain ⟨h1, h2, h3⟩ := idxN_get (l := l) (k := k + 1) h
      refine ⟨by omega, by simp only [List.length_cons]; omega, ?_⟩
      rw [show j - k = (j - (k + 1)) + 1 from by omega, List.getD_cons_succ]
      exact h3

section
variable {m : Nat} {ids : List Nat}
theorem forth_back {j i : Nat} (h : forthN m ids j = some i) : backN m ids i = j ∧ i < m + ids.length := by
  unfold forthN at h
  cases hj : Nat.blt j m with
  | true =>
    rw [hj] at h
    simp only [cond_true, Option.some.injEq] at h
    subst h
    have hj0 := hj
    rw [Nat.blt_eq] at hj
    refine ⟨?_, by omega⟩
    unfold backN
    rw [hj0]; rfl
  | false =>
    rw [hj] at h
    obtain ⟨h1, h2, h3⟩ := idxN_get (show idxN j ids m = some i from h)
    refine ⟨?_, h2⟩
    unfold backN
    have : Nat.blt i m = false := by
      cases hb : Nat.blt i m with
      | true => rw [Nat.blt_eq] at hb; omega
      | false => rfl
    rw [this]; exact h3

theorem back_inj (hn : ids.Nodup) (hm : ∀ i ∈ ids, m ≤ i) {i j : Nat} (hi : i < m + ids.length) (hj : j < m + ids.length) (h : backN m ids i = backN m ids j) : i = j := by
  have key : ∀ i, i < m + ids.length → m ≤ i → backN m ids i = ids.getD (i - m) 0 ∧ m ≤ ids.getD (i - m) 0 := by
    intro i hi hle
    have h1 : Nat.blt i m = false := by
      cases hb : Nat.blt i m with
      | true => rw [Nat.blt_eq] at hb; omega
      | false => rfl
    refine ⟨by unfold backN; rw [h1]; rfl, ?_⟩
    have hlt : i - m < ids.length := by omega
    rw [List.getD_eq_getElem?_getD, List.getElem?_eq_getElem hlt]
    exact hm _ (List.getElem_mem hlt)
  have low : ∀ i, i < m → backN m ids i = i := by
    intro i hi
    unfold backN
    rw [show Nat.blt i m = true from by rw [Nat.blt_eq]; exact hi]; rfl
  rcases Nat.lt_or_ge i m with h1 | h1 <;> rcases Nat.lt_or_ge j m with h2 | h2
  · rw [low i h1, low j h2] at h; exact h
  · rw [low i h1] at h; obtain ⟨k1, k2⟩ := key j hj h2; rw [k1] at h; omega
  · rw [low j h2] at h; obtain ⟨k1, k2⟩ := key i hi h1; rw [k1] at h; omega
  · obtain ⟨k1, _⟩ := key i hi h1
    obtain ⟨k2, _⟩ := key j hj h2
    rw [k1, k2] at h
    have a1 : i - m < ids.length := by omega
    have a2 : j - m < ids.length := by omega
    rw [List.getD_eq_getElem?_getD, List.getD_eq_getElem?_getD, List.getElem?_eq_getElem a1, List.getElem?_eq_getElem a2] at h
    have := (List.getElem_inj hn).1 (show ids[i - m] = ids[j - m] from h)
    omega

theorem putL_get : ∀ (l : List (Nat × (Bool × Res))) (t : T (Bool × Res)) (i : Nat) (x : Bool × Res), (putL l t).get i = some x → (i, x) ∈ l ∨ t.get i = some x
  | [], t, i, x, h => Or.inr h
  | (j, y) :: l, t, i, x, h => by
    rw [putL] at h
    rcases putL_get l _ i x h with h1 | h1
    · exact Or.inl (List.mem_cons_of_mem _ h1)
    · rw [T.get_set] at h1
      by_cases hij : i = j
      · subst hij
        rw [if_pos rfl] at h1
        injection h1 with h1; subst h1
        exact Or.inl List.mem_cons_self
      · rw [if_neg hij] at h1; exact Or.inr h1

theorem blocksN_mem {cv : List (Nat × IntKind)} {h : Heap} : ∀ {is : List Nat} {i : Nat} {x : Bool} {r2 : Res}, (i, (x, r2)) ∈ blocksN m ids cv h is →
    i ∈ is ∧ ∃ r, h.m.get (backN m ids i) = some (x, r) ∧ (r2 = r.ren (forthN m ids) ∨ ∃ k, r2 = (r.ren (forthN m ids)).nums k)
  | [], i, x, r2, hm => by cases hm
  | j :: is, i, x, r2, hm => by
    rw [blocksN] at hm
    split at hm
    · rename_i x' r hj
      rcases List.mem_cons.1 hm with hm | hm
      · injection hm with h1 h2; injection h2 with h2 h3
        subst h1; subst h2
        refine ⟨List.mem_cons_self, r, hj, ?_⟩
        split at h3
        · exact Or.inr ⟨_, h3⟩
        · exact Or.inl h3
      · obtain ⟨h1, h2⟩ := blocksN_mem hm
        exact ⟨List.mem_cons_of_mem _ h1, h2⟩
    · obtain ⟨h1, h2⟩ := blocksN_mem hm
      exact ⟨List.mem_cons_of_mem _ h1, h2⟩

theorem lookL_mem : ∀ {l : List (Nat × SV)} {i : Nat}, lookL l i = .any ∨ (i, lookL l i) ∈ l
  | [], i => Or.inl rfl
  | (j, v) :: l, i => by
    rw [lookL]
    cases h : Nat.beq j i with
    | true => have := Nat.eq_of_beq_eq_true h; subst this; exact Or.inr List.mem_cons_self
    | false =>
      rcases lookL_mem (l := l) (i := i) with h1 | h1
      · exact Or.inl h1
      · exact Or.inr (List.mem_cons_of_mem _ h1)
end

theorem normWith_sub (m : Nat) (keep : List Nat) (cv : List (Nat × IntKind)) (s : State) (ids : List Nat) : Sub (some m) s (normWith m keep cv s ids) := by
  unfold normWith
  cases hc : (nodupN ids && (ids.all (fun i => Nat.ble m i) && s.ds.isEmpty)) with
  | false => exact Sub.refl _ _
  | true =>
    simp only [cond_true]
    simp only [Bool.and_eq_true, List.all_eq_true, Nat.ble_eq] at hc
    obtain ⟨hnd, hge, hds⟩ := hc
    replace hnd := nodupN_iff hnd
    intro env ρ a w H
    let ρ2 : Val := fun i => if i < m + ids.length then ρ (backN m ids i) else none
    have hσ : ∀ i j x, forthN m ids i = some j → ρ i = some x → ρ2 j = some x := by
      intro i j x hij hx
      obtain ⟨h1, h2⟩ := forth_back hij
      show (if j < m + ids.length then ρ (backN m ids j) else none) = some x
      rw [if_pos h2, h1]; exact hx
    have hρ2 : ∀ i x, ρ2 i = some x → i < m + ids.length ∧ ρ (backN m ids i) = some x := by
      intro i x hx
      have hx : (if i < m + ids.length then ρ (backN m ids i) else none) = some x := hx
      split at hx
      · exact ⟨by assumption, hx⟩
      · cases hx
    have hg : ∀ i x r2, (putL (blocksN m ids cv s.h (List.range (m + ids.length))) .nil).get i = some (x, r2) →
        i < m + ids.length ∧ ∃ r, s.h.m.get (backN m ids i) = some (x, r) ∧ (r2 = r.ren (forthN m ids) ∨ ∃ k, r2 = (r.ren (forthN m ids)).nums k) := by
      intro i x r2 hi
      rcases putL_get _ _ _ _ hi with h1 | h1
      · obtain ⟨h2, h3⟩ := blocksN_mem h1
        exact ⟨List.mem_range.1 h2, h3⟩
      · cases h1
    have hlv : ∀ {r r2 : Res}, (r2 = r.ren (forthN m ids) ∨ ∃ k, r2 = (r.ren (forthN m ids)).nums k) → r2.live = true → r.live = true ∧ (r.ren (forthN m ids)).live = true := by
      intro r r2 h hl
      rcases h with rfl | ⟨k, rfl⟩
      · exact ⟨ren_live hl, hl⟩
      · rw [nums_live] at hl; exact ⟨ren_live hl, hl⟩
    refine ⟨ρ2, fun i x hi hx => ?_, H.size, fun i => ?_, ?_, ?_⟩
    · have hi := hi m rfl
      show (if i < m + ids.length then ρ (backN m ids i) else none) = some x
      rw [if_pos (by omega)]
      unfold backN
      rw [show Nat.blt i m = true from by rw [Nat.blt_eq]; exact hi]; exact hx
    · have hs : (mkS s.n (keep.map fun i => (i, (s.slot i).ren (forthN m ids))) (m + ids.length) (blocksN m ids cv s.h (List.range (m + ids.length)))).slot i = if i < s.n then lookL (keep.map fun i => (i, (s.slot i).ren (forthN m ids))) i else .lit undef := by
        show ((T.ofList _).get i).getD _ = _
        rw [T.get_ofList, List.getElem?_map]
        by_cases hi : i < s.n
        · rw [if_pos hi, List.getElem?_range hi]; rfl
        · rw [if_neg hi, List.getElem?_eq_none (by simpa using hi)]; rfl
      rw [hs]
      by_cases hi : i < s.n
      · rw [if_pos hi]
        rcases lookL_mem (l := keep.map fun i => (i, (s.slot i).ren (forthN m ids))) (i := i) with h1 | h1
        · rw [h1]; exact trivial
        · obtain ⟨j, _, hj⟩ := List.mem_map.1 h1
          injection hj with h2 h3
          subst h2
          rw [← h3]
          exact V.ren hσ (H.slots j)
      · rw [if_neg hi]
        rw [Array.getD_eq_getD_getElem?, Array.getElem?_eq_none (by rw [H.size]; omega)]
        exact rfl
    · have := H.defers
      have hds : s.ds = [] := by simpa using hds
      rw [hds] at this
      rw [DsRel.nil this]
      exact trivial
    · have R := H.rel
      refine ⟨R.kept, fun i hi => ⟨?_, ?_⟩, fun i x r2 hi hl => ?_, fun i j r s2 b c b' c' hij hi hj hl1 hl2 h1 h2 => ?_, fun i x j r hi => ?_⟩
      · have hi : m + ids.length ≤ i := hi
        show (if i < m + ids.length then ρ (backN m ids i) else none) = none
        rw [if_neg (by omega)]
      · have hi : m + ids.length ≤ i := hi
        cases hx : (putL (blocksN m ids cv s.h (List.range (m + ids.length))) .nil).get i with
        | none => exact hx
        | some x => obtain ⟨h1, _⟩ := hg i x.1 x.2 hx; omega
      · obtain ⟨h1, r, h2, h3⟩ := hg i x r2 hi
        obtain ⟨hl1, hl2⟩ := hlv h3 hl
        obtain ⟨b, c, g1, g2, g3⟩ := R.holds _ _ _ h2 hl1
        refine ⟨b, c, ?_, ?_, g3⟩
        · show (if i < m + ids.length then ρ (backN m ids i) else none) = some (b, c)
          rw [if_pos h1]; exact g1
        · have := Holds.ren hσ g2 hl2
          rcases h3 with rfl | ⟨k, rfl⟩
          · exact this
          · exact this.nums k
      · obtain ⟨a1, r1, a2, a3⟩ := hg i _ _ hi
        obtain ⟨b1, r3, b2, b3⟩ := hg j _ _ hj
        obtain ⟨_, c1⟩ := hρ2 i _ h1
        obtain ⟨_, c2⟩ := hρ2 j _ h2
        exact R.apart _ _ r1 r3 b c b' c' (fun he => hij (back_inj hnd hge a1 b1 he)) a2 b2 (hlv a3 hl1).1 (hlv b3 hl2).1 c1 c2
      · obtain ⟨_, r1, _, h3⟩ := hg i x _ hi
        rcases h3 with h3 | ⟨k, h3⟩
        · exact absurd h3.symm (ren_was j r)
        · exact absurd h3.symm (nums_was (fun j q => ren_was j q) j r)

theorem norm_sub (m : Nat) (keep : List Nat) (cv : List (Nat × IntKind)) (s : State) : Sub (some m) s (norm m keep cv s) := normWith_sub m keep cv s _

/-- a loop by what holds at its head, in one form -/
theorem loop_norm {P : Program} {m : Nat} {body : Code} {α : Type} (I : α → State) (μ : α → Nat) (keep : List Nat) (cv : List (Nat × IntKind)) {k : ExS → State → Prop} (x : α)
    (round : ∀ x, SegH P (some m) body (I x) fun e s' => match e with | .normal => (∃ y, norm m keep cv s' = I y ∧ μ y < μ x) | e => k e s') : LoopH P (some m) body (I x) k := by
  refine loop_inv I μ x (fun x env ρ a w H => wp_mono (round x env ρ a w H) fun e a' w' hp => ?_)
  obtain ⟨ρ', e', s', hle, he, H', hq⟩ := hp
  refine ⟨ρ', e', s', hle, he, H', ?_⟩
  cases e' with
  | normal =>
    obtain ⟨y, h1, h2⟩ := hq
    exact ⟨y, by rw [← h1]; exact norm_sub m keep cv s', h2⟩
  | exit id => exact hq
  | goto l => exact hq
  | ret => exact hq
  | pnc v => exact hq

/-- the loop's head is met from any state that says it -/
theorem LoopH.norm {P : Program} {m : Nat} {body : Code} {s s2 : State} {k : ExS → State → Prop} {keep : List Nat} {cv : List (Nat × IntKind)} (h : norm m keep cv s = s2) (H : LoopH P (some m) body s2 k) : LoopH P (some m) body s k :=
  LoopH.sub (by rw [← h]; exact norm_sub m keep cv s) H
end Go.SE

namespace Go.SE.Sha
open Go

def two32 : Nat := 4294967296
def rot (x n : Nat) : Nat := Nat.lor (Nat.mod (Nat.shiftLeft x (Nat.sub 32 n)) two32) (Nat.shiftRight x n)
def xor (x y : Nat) : Nat := Nat.xor x y
def and (x y : Nat) : Nat := Nat.land x y
def not (x : Nat) : Nat := Nat.sub 4294967295 x

def ks : List Nat := [0x428a2f98, 0x71374491, 0xb5c0fbcf, 0xe9b5dba5, 0x3956c25b, 0x59f111f1, 0x923f82a4, 0xab1c5ed5,
    0xd807aa98, 0x12835b01, 0x243185be, 0x550c7dc3, 0x72be5d74, 0x80deb1fe, 0x9bdc06a7, 0xc19bf174,
    0xe49b69c1, 0xefbe4786, 0x0fc19dc6, 0x240ca1cc, 0x2de92c6f, 0x4a7484aa, 0x5cb0a9dc, 0x76f988da,
    0x983e5152, 0xa831c66d, 0xb00327c8, 0xbf597fc7, 0xc6e00bf3, 0xd5a79147, 0x06ca6351, 0x14292967,
    0x27b70a85, 0x2e1b2138, 0x4d2c6dfc, 0x53380d13, 0x650a7354, 0x766a0abb, 0x81c2c92e, 0x92722c85,
    0xa2bfe8a1, 0xa81a664b, 0xc24b8b70, 0xc76c51a3, 0xd192e819, 0xd6990624, 0xf40e3585, 0x106aa070,
    0x19a4c116, 0x1e376c08, 0x2748774c, 0x34b0bcb5, 0x391c0cb3, 0x4ed8aa4a, 0x5b9cca4f, 0x682e6ff3,
    0x748f82ee, 0x78a5636f, 0x84c87814, 0x8cc70208, 0x90befffa, 0xa4506ceb, 0xbef9a3f7, 0xc67178f2]
def iv : List Nat := [0x6a09e667, 0xbb67ae85, 0x3c6ef372, 0xa54ff53a, 0x510e527f, 0x9b05688c, 0x1f83d9ab, 0x5be0cd19]

/-- the first sixteen words -/
def words : List Nat → List Nat
  | a :: b :: c :: d :: l => (((a * 256 + b) * 256 + c) * 256 + d) :: words l
  | _ => []
/-- one word more -/
def schedAt (l : List Nat) (t : Nat) : Nat :=
  (l.getD (t - 16) 0 + xor (xor (rot (l.getD (t - 15) 0) 7) (rot (l.getD (t - 15) 0) 18)) (Nat.shiftRight (l.getD (t - 15) 0) 3) + l.getD (t - 7) 0
    + xor (xor (rot (l.getD (t - 2) 0) 17) (rot (l.getD (t - 2) 0) 19)) (Nat.shiftRight (l.getD (t - 2) 0) 10)) % two32
/-- so many words more, from word t on -/
def sched : Nat → Nat → List Nat → List Nat
  | 0, _, l => l
  | n + 1, t, l => sched n (t + 1) (l ++ [schedAt l t])
/-- a round, with its word and its constant -/
def round (s : List Nat) (k w : Nat) : List Nat :=
  match s with
  | [a, b, c, d, e, f, g, h] =>
    let p := h + xor (xor (rot e 6) (rot e 11)) (rot e 25) + xor (and e f) (and (not e) g) + k + w
    let q := xor (xor (rot a 2) (rot a 13)) (rot a 22) + xor (xor (and a b) (and a c)) (and b c)
    [(p + q) % two32, a, b, c, (d + p) % two32, e, f, g]
  | s => s
def rounds : List Nat → List Nat → List Nat → List Nat
  | k :: ks, w :: ws, s => rounds ks ws (round s k w)
  | _, _, s => s
def addL : List Nat → List Nat → List Nat
  | x :: l, y :: l' => ((x + y) % two32) :: addL l l'
  | _, _ => []
def block (s b : List Nat) : List Nat := addL s (rounds ks (sched 48 16 (words b)) s)

def blocks : Nat → List Nat → List Nat → List Nat
  | 0, s, _ => s
  | n + 1, s, b => blocks n (block s (b.take 64)) (b.drop 64)
/-- what is written behind n bytes -/
def fill (n : Nat) : Nat := 1 + (119 - n % 64) % 64
def pad (n : Nat) : List Nat := (128 :: List.replicate (fill n - 1) 0) ++ (List.range 8).map fun i => (Nat.shiftRight (n * 8) (8 * (7 - i))) % 256
def bytes4 : List Nat → List Nat
  | [] => []
  | w :: l => (Nat.shiftRight w 24) % 256 :: (Nat.shiftRight w 16) % 256 :: (Nat.shiftRight w 8) % 256 :: w % 256 :: bytes4 l
def sha (b : List Nat) : List Nat := bytes4 (blocks ((b.length + fill b.length + 8) / 64) iv (b ++ pad b.length))

end Go.SE.Sha

namespace Go.SE
open Go.RowKit

/-- block i of the small heap, in the large one -/
def tau (π : List Nat) (n i : Nat) : Nat := bif Nat.blt i π.length then π.getD i 0 else i - π.length + n
def tauS (π : List Nat) (n : Nat) (i : Nat) : Option Nat := some (tau π n i)

def mergeL (π : List Nat) (n : Nat) (hs hs' : Heap) : List Nat → List (Nat × (Bool × Res))
  | [] => []
  | i :: is => bif Nat.blt i π.length then
      (match hs.m.get i with
      | some (true, _) => (tau π n i, (true, match hs'.m.get i with | some (true, r) => r.ren (tauS π n) | _ => .gone)) :: mergeL π n hs hs' is
      | _ => mergeL π n hs hs' is)
    else (match hs'.m.get i with
      | some (true, r) => (tau π n i, (true, r.ren (tauS π n))) :: mergeL π n hs hs' is
      | _ => mergeL π n hs hs' is)
/-- the large heap behind the call -/
def merge (π : List Nat) (h hs hs' : Heap) : Heap := ⟨h.n + (hs'.n - π.length), putL (mergeL π h.n hs hs' (List.range (max π.length hs'.n))) h.m⟩

theorem putL_get2 : ∀ (l : List (Nat × (Bool × Res))) (t : T (Bool × Res)) (i : Nat), (∃ y, (i, y) ∈ l ∧ (putL l t).get i = some y) ∨ ((∀ y, (i, y) ∉ l) ∧ (putL l t).get i = t.get i)
  | [], t, i => Or.inr ⟨fun _ h => by (cases h), rfl⟩
  | (j, y) :: l, t, i => by
    rw [putL]
    rcases putL_get2 l (t.set j y) i with ⟨z, h1, h2⟩ | ⟨h1, h2⟩
    · exact Or.inl ⟨z, List.mem_cons_of_mem _ h1, h2⟩
    · rw [T.get_set] at h2
      by_cases hij : i = j
      · subst hij
        rw [if_pos rfl] at h2
        exact Or.inl ⟨y, List.mem_cons_self, h2⟩
      · rw [if_neg hij] at h2
        refine Or.inr ⟨fun z hz => ?_, h2⟩
        rcases List.mem_cons.1 hz with hz | hz
        · injection hz with hz _; exact hij hz
        · exact h1 z hz

def MergeP (π : List Nat) (n : Nat) (hs hs' : Heap) (is : List Nat) (j : Nat) (y : Bool × Res) : Prop :=
    ∃ i ∈ is, j = tau π n i ∧ ((i < π.length ∧ (∃ r0, hs.m.get i = some (true, r0)) ∧ ((∃ r, hs'.m.get i = some (true, r) ∧ y = (true, r.ren (tauS π n))) ∨ y = (true, .gone))) ∨
      (π.length ≤ i ∧ ∃ r, hs'.m.get i = some (true, r) ∧ y = (true, r.ren (tauS π n))))
theorem mergeL_mem {π : List Nat} {n : Nat} {hs hs' : Heap} : ∀ {is : List Nat} {j : Nat} {y : Bool × Res}, (j, y) ∈ mergeL π n hs hs' is → MergeP π n hs hs' is j y
  | [], j, y, h => by cases h
  | i :: is, j, y, h => by
    have up : (j, y) ∈ mergeL π n hs hs' is → MergeP π n hs hs' (i :: is) j y := fun h' => by
      obtain ⟨i', h1, h2⟩ := mergeL_mem h'
      exact ⟨i', List.mem_cons_of_mem _ h1, h2⟩
    rw [mergeL] at h
    cases hb : Nat.blt i π.length with
    | true =>
      rw [hb] at h
      rw [Nat.blt_eq] at hb
      simp only [cond_true] at h
      split at h
      · rename_i r0 hi
        rcases List.mem_cons.1 h with h | h
        · injection h with h1 h2
          refine ⟨i, List.mem_cons_self, h1, Or.inl ⟨hb, ⟨r0, hi⟩, ?_⟩⟩
          split at h2
          · rename_i r hr; exact Or.inl ⟨r, hr, h2⟩
          · exact Or.inr h2
        · exact up h
      · exact up h
    | false =>
      rw [hb] at h
      have hb' : π.length ≤ i := by
        rcases Nat.lt_or_ge i π.length with h' | h'
        · rw [← Nat.blt_eq, hb] at h'; cases h'
        · exact h'
      simp only [cond_false] at h
      split at h
      · rename_i r hr
        rcases List.mem_cons.1 h with h | h
        · injection h with h1 h2
          exact ⟨i, List.mem_cons_self, h1, Or.inr ⟨hb', r, hr, h2⟩⟩
        · exact up h
      · exact up h

theorem mergeL_own {π : List Nat} {n : Nat} {hs hs' : Heap} {i : Nat} {r0 : Res} (hi : i < π.length) (h0 : hs.m.get i = some (true, r0)) : ∀ {is : List Nat}, i ∈ is → ∃ y, (tau π n i, y) ∈ mergeL π n hs hs' is
  | [], h => by cases h
  | j :: is, h => by
    rw [mergeL]
    rcases List.mem_cons.1 h with rfl | h
    · rw [show Nat.blt i π.length = true from by rw [Nat.blt_eq]; exact hi]
      simp only [cond_true, h0]
      exact ⟨_, List.mem_cons_self⟩
    · obtain ⟨y, hy⟩ := mergeL_own hi h0 (is := is) h
      cases Nat.blt j π.length with
      | true =>
        simp only [cond_true]
        split
        · exact ⟨y, List.mem_cons_of_mem _ hy⟩
        · exact ⟨y, hy⟩
      | false =>
        simp only [cond_false]
        split
        · exact ⟨y, List.mem_cons_of_mem _ hy⟩
        · exact ⟨y, hy⟩

def small (ρ : Val) (π : List Nat) : Val := fun i => if i < π.length then ρ (π.getD i 0) else none

theorem CallH.frame {P : Program} {f : FuncId} {args args' : List SV} {hs h : Heap} {K Kp : SV → Heap → Prop} (H : CallH P f args hs K Kp) (π : List Nat) (hn : hs.n = π.length) (hnd : π.Nodup)
    (honly : ∀ i, π.length ≤ i → hs.m.get i = none)
    (hpres : ∀ i, i < π.length → ∃ x rs x0 r, hs.m.get i = some (x, rs) ∧ h.m.get (π.getD i 0) = some (x0, r) ∧ r.live = true ∧ rs.live = true ∧ (x = true → x0 = true) ∧ ∀ ρ b c w, Holds ρ b c w r → Holds (small ρ π) b c w rs)
    (hargs : ∀ ρ vs, VL ρ args' vs → VL (small ρ π) args vs) {K2 Kp2 : SV → Heap → Prop}
    (hK : ∀ r hs', K r hs' → K2 (r.ren (tauS π h.n)) (merge π h hs hs')) (hKp : ∀ r hs', Kp r hs' → Kp2 (r.ren (tauS π h.n)) (merge π h hs hs')) : CallH P f args' h K2 Kp2 := by
  intro e ρ w vs R hv
  let mine' : Nat → Prop := fun b => ∃ i r0 c, i < π.length ∧ hs.m.get i = some (true, r0) ∧ ρ (π.getD i 0) = some (b, c)
  have own_h : ∀ {i r0 b c}, i < π.length → hs.m.get i = some (true, r0) → ρ (π.getD i 0) = some (b, c) → ∃ r, h.m.get (π.getD i 0) = some (true, r) ∧ r.live = true ∧ b < w.heap.size ∧ (e.w0.heap.size ≤ b ∨ e.mine b) := by
    intro i r0 b c hi h0 hρ
    obtain ⟨x, rs, x0, r, g1, g2, g3, _, g5, _⟩ := hpres i hi
    rw [h0] at g1; injection g1 with g1; injection g1 with g1 _
    rw [g5 g1.symm] at g2
    obtain ⟨b', c', k1, k2, k3⟩ := R.holds _ _ _ g2 g3
    rw [hρ] at k1; injection k1 with k1; injection k1 with k1 _; subst k1
    exact ⟨r, g2, g3, k2.lt, k3⟩
  have mine_e : ∀ {b}, mine' b → e.w0.heap.size ≤ b ∨ e.mine b := fun ⟨i, r0, c, hi, h0, hρ⟩ => (own_h hi h0 hρ).elim fun _ g => g.2.2.2
  -- an entry of the large heap that is none of the small one's own stands apart from what may be written
  have off : ∀ {j x r b c}, h.m.get j = some (x, r) → r.live = true → ρ j = some (b, c) → (∀ i r0, i < π.length → hs.m.get i = some (true, r0) → π.getD i 0 ≠ j) → ¬ mine' b := by
    intro j x r b c hj hl hρ hne ⟨i, r0, c', hi, h0, hρi⟩
    obtain ⟨r1, k1, k2, _, k4⟩ := own_h hi h0 hρi
    cases x with
    | true => exact R.apart _ _ _ _ _ _ _ _ (hne i r0 hi h0) k1 hj k2 hl hρi hρ rfl
    | false =>
      obtain ⟨b', c2, g1, _, g3⟩ := R.holds _ _ _ hj hl
      rw [hρ] at g1; injection g1 with g1; injection g1 with g1 _; subst g1
      have g3 : e.ro b := g3
      have := e.ro_ok _ g3
      rcases k4 with k4 | k4
      · omega
      · exact this.2 k4
  have inj : ∀ {i j}, i < π.length → j < π.length → π.getD i 0 = π.getD j 0 → i = j := by
    intro i j hi hj he
    rw [List.getD_eq_getElem?_getD, List.getD_eq_getElem?_getD, List.getElem?_eq_getElem hi, List.getElem?_eq_getElem hj] at he
    exact (List.getElem_inj hnd).1 he
  have known : ∀ i, i < π.length → ∃ x, ρ (π.getD i 0) = some x ∧ π.getD i 0 < h.n := by
    intro i hi
    obtain ⟨x, rs, x0, r, _, g2, g3, _⟩ := hpres i hi
    obtain ⟨b, c, k1, _⟩ := R.holds _ _ _ g2 g3
    refine ⟨(b, c), k1, ?_⟩
    rcases Nat.lt_or_ge (π.getD i 0) h.n with h' | h'
    · exact h'
    · rw [(R.fresh _ h').1] at k1; cases k1
  let env' : Env := ⟨w, mine', fun b => b < w.heap.size ∧ ¬ mine' b, fun b hb => hb⟩
  have Rs : Rel env' (small ρ π) hs w := by
    refine ⟨Kept.refl w _ _ _, fun i hi => ⟨?_, honly i (by omega)⟩, fun i x r hi hl => ?_, fun i j r s b c b' c' hij hi hj _ _ h1 h2 => ?_, fun i x j r hi => ?_⟩
    · show (if i < π.length then _ else none) = none
      rw [if_neg (by omega)]
    · have hlt : i < π.length := by
        rcases Nat.lt_or_ge i π.length with h' | h'
        · exact h'
        · rw [honly i h'] at hi; cases hi
      obtain ⟨x', rs, x0, r1, g1, g2, g3, g4, g5, g6⟩ := hpres i hlt
      rw [hi] at g1; injection g1 with g1; injection g1 with e1 e2; subst e1; subst e2
      obtain ⟨b, c, k1, k2, k3⟩ := R.holds _ _ _ g2 g3
      refine ⟨b, c, ?_, g6 ρ b c w k2, ?_⟩
      · show (if i < π.length then _ else none) = _
        rw [if_pos hlt]; exact k1
      · cases x with
        | true => exact Or.inr ⟨i, r, c, hlt, hi, k1⟩
        | false =>
          refine ⟨k2.lt, off g2 g3 k1 (fun i' r0 hi' h0 he => ?_)⟩
          have := inj hi' hlt he
          subst this
          rw [hi] at h0; cases h0
    · have hlt : ∀ {i r}, hs.m.get i = some (true, r) → i < π.length := by
        intro i r hi
        rcases Nat.lt_or_ge i π.length with h' | h'
        · exact h'
        · rw [honly i h'] at hi; cases hi
      have hi1 := hlt hi
      have hj1 := hlt hj
      have h1 : (if i < π.length then ρ (π.getD i 0) else none) = some (b, c) := h1
      have h2 : (if j < π.length then ρ (π.getD j 0) else none) = some (b', c') := h2
      rw [if_pos hi1] at h1
      rw [if_pos hj1] at h2
      obtain ⟨r1, k1, k2, _⟩ := own_h hi1 hi h1
      obtain ⟨r2, k3, k4, _⟩ := own_h hj1 hj h2
      exact R.apart _ _ _ _ _ _ _ _ (fun he => hij (inj hi1 hj1 he)) k1 k3 k2 k4 h1 h2
    · have hlt : i < π.length := by
        rcases Nat.lt_or_ge i π.length with h' | h'
        · exact h'
        · rw [honly i h'] at hi; cases hi
      obtain ⟨x', rs, x0, r1, g1, g2, g3, g4, g5, g6⟩ := hpres i hlt
      rw [hi] at g1; injection g1 with g1; injection g1 with e1 e2; subst e2
      cases g4
  -- behind the call
  have fin : ∀ {ρ' : Val} {hs' : Heap} {w' : World}, (small ρ π).le ρ' → Rel env' ρ' hs' w' → ∃ ρ2, ρ.le ρ2 ∧ (∀ i j x, tauS π h.n i = some j → ρ' i = some x → ρ2 j = some x) ∧ Rel e ρ2 (merge π h hs hs') w' := by
    intro ρ' hs' w' hle R'
    let ρ2 : Val := fun j => if j < h.n then ρ j else ρ' (j - h.n + π.length)
    have hle2 : ρ.le ρ2 := by
      intro j x hj
      have : j < h.n := by
        rcases Nat.lt_or_ge j h.n with h' | h'
        · exact h'
        · rw [(R.fresh _ h').1] at hj; cases hj
      show (if j < h.n then ρ j else _) = _
      rw [if_pos this]; exact hj
    have low : ∀ {i}, i < π.length → tau π h.n i = π.getD i 0 := by
      intro i hi
      unfold tau
      rw [show Nat.blt i π.length = true from by rw [Nat.blt_eq]; exact hi]; rfl
    have high : ∀ {i}, π.length ≤ i → tau π h.n i = i - π.length + h.n := by
      intro i hi
      unfold tau
      have : Nat.blt i π.length = false := by
        cases hb : Nat.blt i π.length with
        | true => rw [Nat.blt_eq] at hb; omega
        | false => rfl
      rw [this]; rfl
    have hσ0 : ∀ i x, ρ' i = some x → ρ2 (tau π h.n i) = some x := by
      intro i x hx
      rcases Nat.lt_or_ge i π.length with hi | hi
      · rw [low hi]
        obtain ⟨y, hy, hlt⟩ := known i hi
        have : ρ' i = some y := hle i y (by show (if i < π.length then _ else none) = _; rw [if_pos hi]; exact hy)
        rw [hx] at this; injection this with this; subst this
        show (if π.getD i 0 < h.n then ρ _ else _) = _
        rw [if_pos hlt]; exact hy
      · rw [high hi]
        show (if i - π.length + h.n < h.n then _ else ρ' (i - π.length + h.n - h.n + π.length)) = _
        rw [if_neg (by omega), show i - π.length + h.n - h.n + π.length = i from by omega]; exact hx
    have hσ : ∀ i j x, tauS π h.n i = some j → ρ' i = some x → ρ2 j = some x := by
      intro i j x hij hx
      injection hij with hij
      rw [← hij]; exact hσ0 i x hx
    -- the entries
    have cases2 : ∀ {j y}, (merge π h hs hs').m.get j = some y →
        (∃ i r, j = tau π h.n i ∧ hs'.m.get i = some (true, r) ∧ y = (true, r.ren (tauS π h.n))) ∨ y = (true, .gone) ∨
        (h.m.get j = some y ∧ ∀ i r0, i < π.length → hs.m.get i = some (true, r0) → π.getD i 0 ≠ j) := by
      intro j y hj
      rcases putL_get2 (mergeL π h.n hs hs' (List.range (max π.length hs'.n))) h.m j with ⟨z, h1, h2⟩ | ⟨h1, h2⟩
      · have h2 : (merge π h hs hs').m.get j = some z := h2
        rw [hj] at h2; injection h2 with h2; subst h2
        obtain ⟨i, _, e1, ⟨_, _, ⟨r, e2, e3⟩ | e2⟩ | ⟨_, r, e2, e3⟩⟩ := mergeL_mem h1
        · exact Or.inl ⟨i, r, e1, e2, e3⟩
        · exact Or.inr (Or.inl e2)
        · exact Or.inl ⟨i, r, e1, e2, e3⟩
      · have h2 : (merge π h hs hs').m.get j = h.m.get j := h2
        rw [hj] at h2
        refine Or.inr (Or.inr ⟨h2.symm, fun i r0 hi h0 he => ?_⟩)
        obtain ⟨y', hy'⟩ := mergeL_own (n := h.n) (hs' := hs') hi h0 (is := List.range (max π.length hs'.n)) (List.mem_range.2 (by omega))
        rw [low hi, he] at hy'
        exact h1 y' hy'
    have Aoff : ∀ {j x r b c}, h.m.get j = some (x, r) → r.live = true → ρ2 j = some (b, c) → (∀ i r0, i < π.length → hs.m.get i = some (true, r0) → π.getD i 0 ≠ j) →
        ρ j = some (b, c) ∧ Holds ρ b c w r ∧ (if x then e.w0.heap.size ≤ b ∨ e.mine b else e.ro b) ∧ ¬ mine' b ∧ b < w.heap.size ∧ w'.heap[b]? = w.heap[b]? := by
      intro j x r b c hj hl hρ2 hne
      obtain ⟨b', c', k1, k2, k3⟩ := R.holds _ _ _ hj hl
      have := hle2 _ _ k1
      rw [hρ2] at this; injection this with this; injection this with e1 e2; subst e1; subst e2
      have hoff := off hj hl k1 hne
      exact ⟨k1, k2, k3, hoff, k2.lt, R'.kept.block _ k2.lt hoff⟩
    have Bblk : ∀ {i r}, hs'.m.get i = some (true, r) → (r.ren (tauS π h.n)).live = true → ∃ b c, ρ' i = some (b, c) ∧ Holds ρ2 b c w' (r.ren (tauS π h.n)) ∧ (w.heap.size ≤ b ∨ mine' b) := by
      intro i r hi hl
      obtain ⟨b, c, k1, k2, k3⟩ := R'.holds _ _ _ hi (ren_live hl)
      exact ⟨b, c, k1, Holds.ren hσ k2 hl, k3⟩
    refine ⟨ρ2, hle2, hσ, ⟨R'.kept.os.trans R.kept.os, R'.kept.tape.trans R.kept.tape, R'.kept.output.trans R.kept.output, Nat.le_trans R.kept.size R'.kept.size, fun b hb hm => ?_⟩, fun j hj => ?_, fun j x r hj hl => ?_, fun j k r s b c b' c' hjk hj hk hl1 hl2 h1 h2 => ?_, fun j x k r hj => ?_⟩
    · rw [R'.kept.block b (Nat.lt_of_lt_of_le hb R.kept.size) (fun hm' => ?_)]
      · exact R.kept.block b hb hm
      · rcases mine_e hm' with h' | h'
        · omega
        · exact hm h'
    · have hj : h.n + (hs'.n - π.length) ≤ j := hj
      refine ⟨?_, ?_⟩
      · show (if j < h.n then ρ j else ρ' (j - h.n + π.length)) = none
        rw [if_neg (by omega)]
        exact (R'.fresh _ (by omega)).1
      · cases hg : (merge π h hs hs').m.get j with
        | none => rfl
        | some y =>
          rcases putL_get2 (mergeL π h.n hs hs' (List.range (max π.length hs'.n))) h.m j with ⟨z, h1, _⟩ | ⟨_, h2⟩
          · obtain ⟨i, him, e1, ⟨hi, _⟩ | ⟨hi, r, e2, _⟩⟩ := mergeL_mem h1
            · rw [low hi] at e1
              obtain ⟨_, _, hlt⟩ := known i hi
              omega
            · rw [high hi] at e1
              have : i < hs'.n := by
                rcases Nat.lt_or_ge i hs'.n with h' | h'
                · exact h'
                · rw [(R'.fresh _ h').2] at e2; cases e2
              omega
          · have h2 : (merge π h hs hs').m.get j = h.m.get j := h2
            rw [hg, (R.fresh j (by omega)).2] at h2
            cases h2
    · rcases cases2 hj with ⟨i, r', e1, e2, e3⟩ | e1 | ⟨e1, e2⟩
      · injection e3 with e3 e4; subst e3; subst e4
        obtain ⟨b, c, k1, k2, k3⟩ := Bblk e2 hl
        refine ⟨b, c, by rw [e1]; exact hσ0 _ _ k1, k2, ?_⟩
        rcases k3 with k3 | k3
        · exact Or.inl (Nat.le_trans R.kept.size k3)
        · exact mine_e k3
      · injection e1 with e1 e2; subst e2; cases hl
      · obtain ⟨b, c, k1, k2, k3⟩ := R.holds _ _ _ e1 hl
        obtain ⟨_, _, _, _, _, k4⟩ := Aoff e1 hl (hle2 _ _ k1) e2
        exact ⟨b, c, hle2 _ _ k1, Holds.mono hle2 k4 k2, k3⟩
    · have blk : ∀ {j r b c}, (merge π h hs hs').m.get j = some (true, r) → r.live = true → ρ2 j = some (b, c) →
          (∃ i r', j = tau π h.n i ∧ hs'.m.get i = some (true, r') ∧ r'.live = true ∧ ρ' i = some (b, c) ∧ (w.heap.size ≤ b ∨ mine' b)) ∨
          (h.m.get j = some (true, r) ∧ ρ j = some (b, c) ∧ b < w.heap.size ∧ ¬ mine' b) := by
        intro j r b c hj hl hρ
        rcases cases2 hj with ⟨i, r', e1, e2, e3⟩ | e1 | ⟨e1, e2⟩
        · injection e3 with _ e4; subst e4
          obtain ⟨b1, c1, k1, k2, k3⟩ := Bblk e2 hl
          have := hσ0 _ _ k1
          rw [← e1, hρ] at this; injection this with this; injection this with e5 e6; subst e5; subst e6
          exact Or.inl ⟨i, r', e1, e2, ren_live hl, k1, k3⟩
        · injection e1 with _ e2; subst e2; cases hl
        · obtain ⟨k1, _, _, k4, k5, _⟩ := Aoff e1 hl hρ e2
          exact Or.inr ⟨e1, k1, k5, k4⟩
      rcases blk hj hl1 h1 with ⟨i, r1, a1, a2, a3, a4, a5⟩ | ⟨a1, a2, a3, a4⟩ <;> rcases blk hk hl2 h2 with ⟨i', r2, b1, b2, b3, b4, b5⟩ | ⟨b1, b2, b3, b4⟩
      · exact R'.apart i i' r1 r2 b c b' c' (fun he => hjk (by rw [a1, b1, he])) a2 b2 a3 b3 a4 b4
      · rintro rfl
        rcases a5 with a5 | a5
        · omega
        · exact b4 a5
      · rintro rfl
        rcases b5 with b5 | b5
        · omega
        · exact a4 b5
      · exact R.apart j k r s b c b' c' hjk a1 b1 hl1 hl2 a2 b2
    · rcases cases2 hj with ⟨i, r', e1, e2, e3⟩ | e1 | ⟨e1, e2⟩
      · injection e3 with _ e4; exact absurd e4.symm (ren_was k r)
      · injection e1 with _ e2; cases e2
      · obtain ⟨b, c, k1, k2, k3, k4⟩ := R.was _ _ _ _ e1
        refine ⟨b, c, hle2 _ _ k1, Nat.lt_of_lt_of_le k2 R'.kept.size, k3, ?_⟩
        rcases k4 with ⟨cj, k4⟩ | ⟨k4, k5⟩
        · exact Or.inl ⟨cj, hle2 _ _ k4⟩
        · have hnm : ¬ mine' b := by
            rintro ⟨i, r0, c0, hi, h0, hρi⟩
            obtain ⟨r1, g1, g2, _⟩ := own_h hi h0 hρi
            exact k5 _ _ _ _ g1 g2 hρi rfl
          refine Or.inr ⟨Holds.mono hle2 (R'.kept.block _ k2 hnm) k4, fun m r1 b' c' hm hl hρm => ?_⟩
          rcases cases2 hm with ⟨i, r', f1, f2, f3⟩ | f1 | ⟨f1, f2⟩
          · injection f3 with _ f4; subst f4
            obtain ⟨b1, c1, g1, _, g3⟩ := Bblk f2 hl
            have := hσ0 _ _ g1
            rw [← f1, hρm] at this; injection this with this; injection this with f5 f6; subst f5
            rintro rfl
            rcases g3 with g3 | g3
            · omega
            · exact hnm g3
          · injection f1 with _ f2; subst f2; cases hl
          · obtain ⟨g1, _⟩ := Aoff f1 hl hρm f2
            exact k5 _ _ _ _ f1 hl g1
  refine Calls.mono (H env' (small ρ π) w vs Rs (hargs ρ vs hv)) (fun en w' he => ?_)
  cases en with
  | returned v =>
    obtain ⟨ρ', hs', r, hle, R', hV, hk⟩ := he
    obtain ⟨ρ2, h1, h2, h3⟩ := fin hle R'
    exact ⟨ρ2, _, _, h1, h3, V.ren h2 hV, hK r hs' hk⟩
  | panicked chain =>
    obtain ⟨ρ', hs', r, v, hc, hle, R', hV, hk⟩ := he
    obtain ⟨ρ2, h1, h2, h3⟩ := fin hle R'
    exact ⟨ρ2, _, _, v, hc, h1, h3, V.ren h2 hV, hKp r hs' hk⟩
  | outgrown => exact he.elim
end Go.SE

namespace Go.SE
open Go.RowKit

def intsSame : List Int → List Int → Bool
  | [], [] => true
  | x :: l, y :: l' => eqF x y && intsSame l l'
  | _, _ => false
def Res.same : Res → Res → Bool
  | .cells l E, .cells l' E' => Nat.beq E E' && SV.sameL l l'
  | .own l E s, .own l' E' s' => Nat.beq E E' && (Nat.beq s s' && SV.sameL l l')
  | .ints k l E, .ints k' l' E' => decide (k = k') && (Nat.beq E E' && intsSame l l')
  | .owni k l E, .owni k' l' E' => decide (k = k') && (Nat.beq E E' && intsSame l l')
  | .mark k l E, .mark k' l' E' => decide (k = k') && (Nat.beq E E' && intsSame l l')
  | .map es c, .map es' c' => Nat.beq c c' && (SV.sameL (es.map (·.1)) (es'.map (·.1)) && (SV.sameL (es.map (·.2.1)) (es'.map (·.2.1)) && intsSame (es.map fun e => (e.2.2 : Int)) (es'.map fun e => (e.2.2 : Int))))
  | _, _ => false
def entsSame : List (Bool × Res) → List (Bool × Res) → Bool
  | [], [] => true
  | (x, r) :: l, (x', r') :: l' => eqB x x' && (Res.same r r' && entsSame l l')
  | _, _ => false

theorem intsSame_eq : ∀ {l l' : List Int}, intsSame l l' = true → l = l'
  | [], [], _ => rfl
  | x :: l, y :: l', h => by
    rw [intsSame, Bool.and_eq_true, eqF_eq, beq_iff_eq] at h
    rw [h.1, intsSame_eq h.2]
theorem ents_eq3 : ∀ {es es' : List (SV × SV × Nat)}, es.map (·.1) = es'.map (·.1) → es.map (·.2.1) = es'.map (·.2.1) → es.map (fun e => (e.2.2 : Int)) = es'.map (fun e => (e.2.2 : Int)) → es = es'
  | [], [], _, _, _ => rfl
  | (a, b, c) :: es, (a', b', c') :: es', h1, h2, h3 => by
    simp only [List.map_cons, List.cons.injEq] at h1 h2 h3
    rw [h1.1, h2.1, Int.ofNat.inj h3.1, ents_eq3 h1.2 h2.2 h3.2]
  | [], _ :: _, h, _, _ => by simp at h
  | _ :: _, [], h, _, _ => by simp at h
theorem Res.same_eq {r r' : Res} (h : Res.same r r' = true) : r = r' := by
  unfold Res.same at h
  split at h <;> try (cases h; done)
  · rw [Bool.and_eq_true] at h; rw [Nat.eq_of_beq_eq_true h.1, SV.sameL_eq h.2]
  · rw [Bool.and_eq_true, Bool.and_eq_true] at h; rw [Nat.eq_of_beq_eq_true h.1, Nat.eq_of_beq_eq_true h.2.1, SV.sameL_eq h.2.2]
  · rw [Bool.and_eq_true, Bool.and_eq_true, decide_eq_true_iff] at h; rw [h.1, Nat.eq_of_beq_eq_true h.2.1, intsSame_eq h.2.2]
  · rw [Bool.and_eq_true, Bool.and_eq_true, decide_eq_true_iff] at h; rw [h.1, Nat.eq_of_beq_eq_true h.2.1, intsSame_eq h.2.2]
  · rw [Bool.and_eq_true, Bool.and_eq_true, decide_eq_true_iff] at h; rw [h.1, Nat.eq_of_beq_eq_true h.2.1, intsSame_eq h.2.2]
  · rw [Bool.and_eq_true, Bool.and_eq_true, Bool.and_eq_true] at h
    rw [Nat.eq_of_beq_eq_true h.1, ents_eq3 (SV.sameL_eq h.2.1) (SV.sameL_eq h.2.2.1) (intsSame_eq h.2.2.2)]
theorem entsSame_eq : ∀ {l l' : List (Bool × Res)}, entsSame l l' = true → l = l'
  | [], [], _ => rfl
  | (x, r) :: l, (x', r') :: l', h => by
    rw [entsSame, Bool.and_eq_true, Bool.and_eq_true, eqB_eq, beq_iff_eq] at h
    rw [h.1, Res.same_eq h.2.1, entsSame_eq h.2.2]

/-- the blocks that are reached, one behind the other -/
def canonE (h : Heap) (σ : Nat → Option Nat) : List Nat → Option (List (Bool × Res))
  | [] => some []
  | j :: js => (match h.m.get j, canonE h σ js with
    | some (x, r), some l => bif r.live && (r.ren σ).live then some ((x, r.ren σ) :: l) else none
    | _, _ => none)

/-- a closed call: the function, its arguments, what they reach; the answer, how many blocks there are then, and what they hold -/
structure Piece where
  f : FuncId
  args : List SV
  ents : List (Bool × Res)
  r : SV
  n : Nat
  outs : List (Nat × (Bool × Res))

def Piece.before (p : Piece) : Heap := ⟨p.ents.length, T.ofList p.ents⟩
def Piece.behind (p : Piece) : Heap := ⟨p.n, putL p.outs .nil⟩
def Piece.Right (P : Program) (p : Piece) : Prop := CallH P p.f p.args p.before (fun r h => r = p.r ∧ h = p.behind) (fun _ _ => False)

def Piece.ask (p : Piece) (f : FuncId) (args : List SV) (h : Heap) : Option (SV × Heap) :=
  bif Nat.beq p.f f then
    (let π := reachN h 0 500 (SV.idsL args) []
    match canonE h (fun j => idxN j π 0) π with
    | some l => bif nodupN π && (SV.sameL (SV.renL (fun j => idxN j π 0) args) p.args && entsSame l p.ents) then some (p.r.ren (tauS π h.n), merge π h p.before p.behind) else none
    | none => none)
  else none

theorem canonE_get {h : Heap} {σ : Nat → Option Nat} : ∀ {js : List Nat} {l : List (Bool × Res)}, canonE h σ js = some l → l.length = js.length ∧ ∀ i, i < js.length → ∃ x r, h.m.get (js.getD i 0) = some (x, r) ∧ r.live = true ∧ (r.ren σ).live = true ∧ l[i]? = some (x, r.ren σ)
  | [], l, h => by rw [canonE] at h; injection h with h; subst h; exact ⟨rfl, fun i hi => absurd hi (by simp)⟩
  | j :: js, l, hh => by
    rw [canonE] at hh
    split at hh <;> try (cases hh; done)
    rename_i x r l' h1 h2
    cases hc : (r.live && (r.ren σ).live) with
    | false => rw [hc] at hh; cases hh
    | true =>
      rw [hc] at hh
      rw [Bool.and_eq_true] at hc
      simp only [cond_true, Option.some.injEq] at hh
      subst hh
      obtain ⟨g1, g2⟩ := canonE_get h2
      refine ⟨by simp [g1], fun i hi => ?_⟩
      cases i with
      | zero => exact ⟨x, r, by simpa using h1, hc.1, hc.2, rfl⟩
      | succ i =>
        obtain ⟨x', r', k1, k2, k3, k4⟩ := g2 i (by simpa using hi)
        exact ⟨x', r', by simpa using k1, k2, k3, by simpa using k4⟩

theorem Piece.ask_right {P : Program} {p : Piece} (hp : p.Right P) {f : FuncId} {args : List SV} {h : Heap} {r : SV} {h' : Heap} (ha : p.ask f args h = some (r, h')) {K Kp : SV → Heap → Prop} (hk : K r h') : CallH P f args h K Kp := by
  unfold Piece.ask at ha
  cases hf : Nat.beq p.f f with
  | false => rw [hf] at ha; cases ha
  | true =>
    rw [hf] at ha
    have hf := Nat.eq_of_beq_eq_true hf
    subst hf
    simp only [cond_true] at ha
    generalize reachN h 0 500 (SV.idsL args) [] = π at ha
    split at ha <;> try (cases ha; done)
    rename_i l hl
    cases hc : (nodupN π && (SV.sameL (SV.renL (fun j => idxN j π 0) args) p.args && entsSame l p.ents)) with
    | false => rw [hc] at ha; cases ha
    | true =>
      rw [hc] at ha
      rw [Bool.and_eq_true, Bool.and_eq_true] at hc
      obtain ⟨hnd, hargs, hents⟩ := hc
      have hargs := SV.sameL_eq hargs
      have hents := entsSame_eq hents
      subst hents
      simp only [cond_true, Option.some.injEq, Prod.mk.injEq] at ha
      obtain ⟨rfl, rfl⟩ := ha
      obtain ⟨g1, g2⟩ := canonE_get hl
      have hσ : ∀ (ρ : Val) (i j : Nat) (x), idxN i π 0 = some j → ρ i = some x → small ρ π j = some x := by
        intro ρ i j x hij hx
        obtain ⟨_, h1, h2⟩ := idxN_get hij
        show (if j < π.length then ρ (π.getD j 0) else none) = some x
        rw [if_pos (by omega), show π.getD j 0 = i from by simpa using h2]; exact hx
      refine CallH.frame hp π g1 (nodupN_iff hnd) (fun i hi => ?_) (fun i hi => ?_) (fun ρ vs hv => ?_) (fun r hs' he => ?_) (fun _ _ he => he.elim)
      · show (T.ofList p.ents).get i = none
        rw [T.get_ofList, List.getElem?_eq_none (by omega)]
      · obtain ⟨x, r, k1, k2, k3, k4⟩ := g2 i hi
        refine ⟨x, _, x, r, ?_, k1, k2, k3, fun h => h, fun ρ b c w hh => Holds.ren (hσ ρ) hh k3⟩
        show (T.ofList p.ents).get i = _
        rw [T.get_ofList]; exact k4
      · rw [← hargs]; exact VL.ren (hσ ρ) hv
      · obtain ⟨rfl, rfl⟩ := he
        exact hk

/-- what a run has come to, in one form: the answer, how many blocks, what they hold -/
def outOf (m : Nat) : Tree → Option (SV × Nat × List (Nat × (Bool × Res)))
  | .fin .ret s => (match normIds m [0] s with
    | ids => bif nodupN ids && (ids.all (fun i => Nat.ble m i) && (s.ds.isEmpty && Nat.beq s.n 1)) then
        some ((s.slot 0).ren (forthN m ids), m + ids.length, blocksN m ids [] s.h (List.range (m + ids.length))) else none)
  | _ => none

def Piece.start (c : Ctx) (fn : Func) (code : Code) (p : Piece) : Tree :=
  inline c fn code p.args p.before (fun v h => .fin .ret ⟨.node (some v) .nil .nil, 1, h, []⟩) (fun _ _ => .stuck)

theorem slot_one {v : SV} {h : Heap} : State.slot ⟨.node (some v) .nil .nil, 1, h, []⟩ 0 = v := rfl

/-- the run says what the piece says -/
theorem Piece.right_of {c : Ctx} {P : Program} (K : c.Ok P) (O : Oracle P) {p : Piece} {fn : Func} {code : Code} (hf : c.funcs.get p.f = some fn) (hb : fn.body = some code) (n : Nat)
    (hr : outOf p.ents.length (run c O.ask n (p.start c fn code)) = some (p.r, p.n, p.outs)) : p.Right P := by
  -- the end that the run has come to
  let E : SV → Heap → Prop := fun v h => outOf p.ents.length (.fin .ret ⟨.node (some v) .nil .nil, 1, h, []⟩) = some (p.r, p.n, p.outs)
  have h1 : (p.start c fn code).holds P (fun e s => (∃ v h, s = ⟨.node (some v) .nil .nil, 1, h, []⟩ ∧ e = .ret) → ∃ v h, s = ⟨.node (some v) .nil .nil, 1, h, []⟩ ∧ E v h) := by
    refine run_sound K O n _ ?_
    generalize run c O.ask n (p.start c fn code) = t at hr
    cases t with
    | fin e s =>
      cases e with
      | ret =>
        rintro ⟨v, h, rfl, _⟩
        exact ⟨v, h, rfl, hr⟩
      | _ => cases hr
    | _ => cases hr
  have h2 := inline_sound K hf hb (k := fun v h => .fin .ret ⟨.node (some v) .nil .nil, 1, h, []⟩) (kp := fun _ _ => .stuck) h1
  intro env ρ w vs R hv
  refine Calls.mono (h2 env ρ w vs R hv) (fun en w' he => ?_)
  cases en with
  | returned u =>
    obtain ⟨ρ', h', r, hle, R', hV, hq⟩ := he
    obtain ⟨v, h, hs, hE⟩ := hq ⟨r, h', rfl, rfl⟩
    have e1 : r = v := by have := congrArg (fun s : State => s.slot 0) hs; simpa [slot_one] using this
    have e2 : h' = h := by have := congrArg State.h hs; exact this
    subst e1; subst e2
    have hE : outOf p.ents.length (.fin .ret ⟨.node (some r) .nil .nil, 1, h', []⟩) = some (p.r, p.n, p.outs) := hE
    simp only [outOf] at hE
    generalize hids : normIds p.ents.length [0] ⟨.node (some r) .nil .nil, 1, h', []⟩ = ids at hE
    cases hc : (nodupN ids && (ids.all (fun i => Nat.ble p.ents.length i) && (([] : List (Fn × List SV × List SV)).isEmpty && Nat.beq 1 1))) with
    | false => rw [hc] at hE; cases hE
    | true =>
      rw [hc] at hE
      simp only [cond_true, Option.some.injEq, Prod.mk.injEq] at hE
      obtain ⟨g1, g2, g3⟩ := hE
      have hsub := normWith_sub p.ents.length [0] [] ⟨.node (some r) .nil .nil, 1, h', []⟩ ids
      have hst : RelSt env ρ' ⟨.node (some r) .nil .nil, 1, h', []⟩ { tmps := #[u], defers := [] } w' := by
        refine ⟨rfl, fun i => ?_, trivial, R'⟩
        cases i with
        | zero => exact hV
        | succ i =>
          have e3 : State.slot ⟨.node (some r) .nil .nil, 1, h', []⟩ (i + 1) = .lit undef := by
            show ((T.node (some r) .nil .nil).get (i + 1)).getD _ = _
            rw [T.get_node, if_neg (by omega)]
            split <;> rfl
          rw [e3]
          have : (#[u] : Array Value).getD (i + 1) undef = undef := by rw [Array.getD_eq_getD_getElem?, Array.getElem?_eq_none (by simp)]; rfl
          rw [this]; exact rfl
      obtain ⟨ρ2, k1, k2⟩ := hsub env ρ' _ w' hst
      unfold normWith at k2
      have hc' : (nodupN ids && (ids.all (fun i => Nat.ble p.ents.length i) && (State.mk (.node (some r) .nil .nil) 1 h' []).ds.isEmpty)) = true := by
        simpa using hc
      rw [hc'] at k2
      simp only [cond_true] at k2
      have hfull : ρ.le ρ2 := fun i x hx => by
        have hi : i < p.ents.length := by
          rcases Nat.lt_or_ge i p.ents.length with h0 | h0
          · exact h0
          · rw [(R.fresh i h0).1] at hx; cases hx
        exact k1 i x (fun k hk => by injection hk with hk; omega) (hle i x hx)
      refine ⟨ρ2, p.behind, p.r, hfull, ?_, ?_, rfl, rfl⟩
      · have := k2.rel
        rw [show (mkS (State.mk (.node (some r) .nil .nil) 1 h' []).n (List.map (fun i => (i, ((State.mk (.node (some r) .nil .nil) 1 h' []).slot i).ren (forthN p.ents.length ids))) [0]) (p.ents.length + ids.length) (blocksN p.ents.length ids [] (State.mk (.node (some r) .nil .nil) 1 h' []).h (List.range (p.ents.length + ids.length)))).h = ⟨p.ents.length + ids.length, putL (blocksN p.ents.length ids [] h' (List.range (p.ents.length + ids.length))) .nil⟩ from rfl, g3, g2] at this
        exact this
      · have := k2.slots 0
        rw [show (mkS (State.mk (.node (some r) .nil .nil) 1 h' []).n (List.map (fun i => (i, ((State.mk (.node (some r) .nil .nil) 1 h' []).slot i).ren (forthN p.ents.length ids))) [0]) (p.ents.length + ids.length) (blocksN p.ents.length ids [] (State.mk (.node (some r) .nil .nil) 1 h' []).h (List.range (p.ents.length + ids.length)))).slot 0 = r.ren (forthN p.ents.length ids) from rfl] at this
        rw [← g1]
        exact this
  | panicked chain =>
    obtain ⟨ρ', h', r, v, _, _, _, _, hq⟩ := he
    exact hq.elim
  | outgrown => exact he.elim

def Piece.go (c : Ctx) (p : Piece) : Tree :=
  match c.funcs.get p.f with
  | some fn => (match fn.body with
    | some code => p.start c fn code
    | none => .stuck)
  | none => .stuck
def Piece.outs3 (p : Piece) : SV × Nat × List (Nat × (Bool × Res)) := (p.r, p.n, p.outs)
theorem Piece.right_go {c : Ctx} {P : Program} (K : c.Ok P) (O : Oracle P) {p : Piece} (n : Nat) (hr : outOf p.ents.length (run c O.ask n (p.go c)) = some p.outs3) : p.Right P := by
  have stuck : ∀ n, run c O.ask n .stuck = .stuck := by
    intro n; cases n <;> rfl
  unfold Piece.go at hr
  cases hf : c.funcs.get p.f with
  | none => rw [hf] at hr; simp only [stuck] at hr; cases hr
  | some fn =>
    rw [hf] at hr
    cases hb : fn.body with
    | none => simp only [hb, stuck] at hr; cases hr
    | some code =>
      simp only [hb] at hr
      exact Piece.right_of K O hf hb n hr

/-- a piece more is known -/
def Oracle.add {P : Program} (O : Oracle P) (p : Piece) (hp : p.Right P) : Oracle P :=
  ⟨fun f args h => match p.ask f args h with
    | some x => some x
    | none => O.ask f args h, fun f args h r h' ha K Kp hk => by
    split at ha
    · rename_i x hx
      injection ha with ha; subst ha
      exact Piece.ask_right hp hx hk
    · exact O.right f args h r h' ha K Kp hk⟩
end Go.SE

namespace Go.SE
open Go.RowKit

/-- numbers of cells -/
def numsOf : List SV → Option (List Int)
  | [] => some []
  | x :: l => (match x.int?, numsOf l with
    | some (.u8, n), some ns => some (n :: ns)
    | _, _ => none)
def Res.u8s : Res → Option (List Int)
  | .ints .u8 l _ => some l
  | .owni .u8 l _ => some l
  | .mark .u8 l _ => some l
  | .cells l _ => numsOf l
  | .own l _ 1 => numsOf l
  | _ => none
/-- the bytes of a slice -/
def bytesS (h : Heap) : SV → Option (List Int)
  | .lit (.slice none _ _) => some []
  | .own i len => (match h.m.get i with
    | some (_, r) => (match r.u8s with
      | some l => bif Nat.ble len l.length then some (l.take len) else none
      | none => none)
    | none => none)
  | .slc i off len _ => (match h.m.get i with
    | some (_, r) => (match r.u8s with
      | some l => bif Nat.ble (off + len) l.length then some ((l.drop off).take len) else none
      | none => none)
    | none => none)
  | .tail i off _ len _ => bif Nat.beq len 0 then some [] else (match h.m.get i with
    | some (_, r) => (match r.u8s with
      | some l => bif Nat.ble (off + len) l.length then some ((l.drop off).take len) else none
      | none => none)
    | none => none)
  | _ => none
def shaAsk (sumOf : FuncId) (f : FuncId) (args : List SV) (h : Heap) : Option (SV × Heap) :=
  bif Nat.beq f sumOf then (match args with
    | [.slc i 0 1 _] => (match h.m.get i with
      | some (_, .cells [x] _) => (match bytesS h x with
        | some l => some (.agg ((Sha.sha (l.map Int.toNat)).map fun (n : Nat) => .lit (.int .u8 (n : Int))), h)
        | none => none)
      | _ => none)
    | _ => none) else none

def strsOf : List SV → Option (List ByteArray)
  | [] => some []
  | x :: l => (match x.str?, strsOf l with
    | some s, some ss => some (s :: ss)
    | _, _ => none)
def Res.strs : Res → Option (List ByteArray)
  | .cells l _ => strsOf l
  | .own l _ 1 => strsOf l
  | _ => none
/-- the texts of a slice -/
def textsS (h : Heap) : SV → Option (List ByteArray)
  | .own i len => (match h.m.get i with
    | some (_, r) => (match r.strs with
      | some l => bif Nat.ble len l.length then some (l.take len) else none
      | none => none)
    | none => none)
  | .slc i off len cap => (match h.m.get i with
    | some (_, r) => (match r.strs with
      | some l => bif Nat.ble (off + len) l.length && Nat.ble len cap then some ((l.drop off).take len) else none
      | none => none)
    | none => none)
  | _ => none
def joinB (sep : List UInt8) : List ByteArray → List UInt8
  | [] => []
  | [x] => x.data.toList
  | x :: l => x.data.toList ++ (sep ++ joinB sep l)
def joinAsk (join : FuncId) (f : FuncId) (args : List SV) (h : Heap) : Option (SV × Heap) :=
  bif Nat.beq f join then (match args with
    | [x, .lit (.string sep)] => (match textsS h x with
      | some l => bif Nat.ble l.length 140737488355328 && Nat.ble (joinB sep.data.toList l).length 140737488355328 then some (.lit (.string ⟨(joinB sep.data.toList l).toArray⟩), h) else none
      | none => none)
    | _ => none) else none
def baseAsk (sumOf join : FuncId) (f : FuncId) (args : List SV) (h : Heap) : Option (SV × Heap) :=
  match shaAsk sumOf f args h with
  | some x => some x
  | none => joinAsk join f args h

theorem ctxOf_ok {P : Program} {eqs : List TypeId} {exts : List (FuncId × Ext)} (h1 : P.follows .mixedOrders = true) (h2 : P.funcs.toList.all (fun fn => !(fn.name == "runtime.NumGoroutine")) = true)
    (h3 : eqs.all (fun t => !(P.eqGuardType P.depth t) && plainEq (ctxOf P eqs exts) P 8 t) = true)
    (h4 : ∀ f x, findExt exts f = some x → ∃ fn, P.funcs[f]? = some fn ∧ (fn.name == "runtime.NumGoroutine") = false ∧ fn.body.isNone = true ∧ Extern.findNext fn = none ∧ Extern.find fn = some x.entry) : (ctxOf P eqs exts).Ok P where
  toOk0 := ctxOf_ok0 _ _ _ h1
  named := fun f fn hf => by
    have hf : (T.ofList P.funcs.toList).get f = some fn := hf
    rw [T.get_ofList] at hf
    have h := List.all_eq_true.1 h2 fn (List.mem_of_getElem? hf)
    simpa using h
  eqs := fun t ht => by
    have ht : t ∈ eqs := List.elem_iff.1 ht
    have h := List.all_eq_true.1 h3 t ht
    rw [Bool.and_eq_true, Bool.not_eq_true'] at h
    exact h
  exts := h4
end Go.SE

namespace Go.SE
open Go.RowKit

/-! what a run needs, and where it stands then -/
def Tree.needs : Tree → List Bool
  | .need b k => b :: k.needs
  | _ => []
def Tree.past : Tree → Tree
  | .need _ k => k.past
  | t => t
def allT : List Bool → Prop
  | [] => True
  | b :: l => b = true ∧ allT l
theorem Tree.past_holds {P : Program} {Q : ExS → State → Prop} : ∀ {t : Tree}, allT t.needs → t.past.holds P Q → t.holds P Q
  | .need b k, h, hq => ⟨h.1, Tree.past_holds h.2 hq⟩
  | .fin _ _, _, hq => hq
  | .stuck, _, hq => hq
  | .needEq _ _ _, _, hq => hq
  | .br _ _ _, _, hq => hq
  | .both _ _, _, hq => hq
  | .call _ _ _ _ _, _, hq => hq
  | .loop _ _ _ _, _, hq => hq
  | .inscope _ _ _ _ _, _, hq => hq
  | .dcall _ _ _ _ _ _, _, hq => hq

/-! a loop that a run has come to -/
def Tree.lm : Tree → Option (Option Nat)
  | .loop m _ _ _ => some m
  | _ => none
def Tree.lbody : Tree → Code
  | .loop _ b _ _ => b
  | _ => .skip
def Tree.ls : Tree → State
  | .loop _ _ s _ => s
  | _ => ⟨.nil, 0, ⟨0, .nil⟩, []⟩
def Tree.lk : Tree → ExS → State → Tree
  | .loop _ _ _ k => k
  | _ => fun _ _ => .stuck
theorem Tree.loop_holds {P : Program} {Q : ExS → State → Prop} {t : Tree} {m : Option Nat} (hm : t.lm = some m) (h : LoopH P m t.lbody t.ls fun e s => (t.lk e s).holds P Q) : t.holds P Q := by
  cases t with
  | loop m' b s k =>
    have hm : some m' = some m := hm
    injection hm with hm
    subst hm
    exact h
  | _ => cases hm
/-- the loops of some code, the outer ones first -/
def loopsOf : Code → List Code
  | .loop b => b :: loopsOf b
  | .seq a b => loopsOf a ++ loopsOf b
  | .cond _ a b => loopsOf a ++ loopsOf b
  | .block _ b => loopsOf b
  | .scope b => loopsOf b
  | _ => []

/-- as it is looked at behind a round -/
def viewN (m : Nat) (keep : List Nat) (cv : List (Nat × IntKind)) : ExS → State → State
  | .pnc _, s => s
  | _, s => norm m keep cv s

theorem LoopH.view {P : Program} {m : Nat} {body : Code} {s : State} {keep : List Nat} {cv : List (Nat × IntKind)} {k : ExS → State → Prop} (h : LoopH P (some m) body s fun e s' => k e (viewN m keep cv e s')) : LoopH P (some m) body s k := by
  intro env ρ a w H b kk cs
  obtain ⟨e, a', w', ⟨ρ', e', s', hle, he, H', hq⟩, harr⟩ := h env ρ a w H b kk cs
  refine ⟨e, a', w', ?_, harr⟩
  have go : (∀ v, e' ≠ .pnc v) → PostS env ρ (some m) k e a' w' := by
    intro hne
    obtain ⟨ρ2, h1, h2⟩ := norm_sub m keep cv s' env ρ' a' w' H'
    refine ⟨ρ2, e', SE.norm m keep cv s', hle.trans h1, ?_, h2, ?_⟩
    · cases e' with
      | pnc v => exact absurd rfl (hne v)
      | normal => exact he
      | exit id => exact he
      | goto l => exact he
      | ret => exact he
    · cases e' with
      | pnc v => exact absurd rfl (hne v)
      | normal => exact hq
      | exit id => exact hq
      | goto l => exact hq
      | ret => exact hq
  cases e' with
  | pnc v => exact ⟨ρ', .pnc v, s', hle, he, H', hq⟩
  | normal => exact go (fun v h => by cases h)
  | exit id => exact go (fun v h => by cases h)
  | goto l => exact go (fun v h => by cases h)
  | ret => exact go (fun v h => by cases h)

/-- a loop by what holds at its head, its rounds run -/
theorem loop_run {c : Ctx} {P : Program} (K : c.Ok P) (O : Oracle P) {m : Nat} {body : Code} {α : Type} (I : α → State) (μ : α → Nat) (keep : List Nat) (cv : List (Nat × IntKind)) (n : Nat) {k : ExS → State → Prop} (x : α)
    (round : ∀ x, (runO c O.ask n (seg c (some m) body (I x) fun e s => .fin e (viewN m keep cv e s))).holds P fun e s => match e with | .normal => (∃ y, s = I y ∧ μ y < μ x) | e => k e s) : LoopH P (some m) body (I x) k := by
  refine LoopH.view (keep := keep) (cv := cv) (loop_inv I μ x fun x env ρ a w H => ?_)
  have h1 := seg_sound K (some m) body (I x) _ (runO_sound K O n _ (round x)) env ρ a w H
  refine wp_mono h1 fun e a' w' hp => ?_
  obtain ⟨ρ', e', s', hle, he, H', hq⟩ := hp
  refine ⟨ρ', e', s', hle, he, H', ?_⟩
  cases e' with
  | normal =>
    obtain ⟨y, h2, h3⟩ := hq
    exact ⟨y, by rw [← h2]; exact norm_sub m keep cv s', h3⟩
  | exit id => exact hq
  | goto l => exact hq
  | ret => exact hq
  | pnc v => exact hq

/-- a call, gone into -/
def callT (c : Ctx) (f : FuncId) (args : List SV) (h : Heap) (k kp : SV → Heap → Tree) : Tree :=
  match c.funcs.get f with
  | some fn => (match fn.body with
    | some code => inline c fn code args h k kp
    | none => .stuck)
  | none => .stuck
def retT (v : SV) (h : Heap) : Tree := .fin .ret ⟨.node (some v) .nil .nil, 1, h, []⟩
def pncT (_ : SV) (_ : Heap) : Tree := .stuck
theorem callT_holds {c : Ctx} {P : Program} (K : c.Ok P) {Q : ExS → State → Prop} {f : FuncId} {args : List SV} {h : Heap} {k kp : SV → Heap → Tree} (hh : (callT c f args h k kp).holds P Q) : CallH P f args h (fun r h' => (k r h').holds P Q) (fun r h' => (kp r h').holds P Q) := by
  unfold callT at hh
  split at hh <;> try (exact hh.elim)
  rename_i fn hf
  split at hh <;> try (exact hh.elim)
  rename_i code hb
  exact inline_sound K hf hb hh
/-- what is said of a call's end -/
def endQ (K : SV → Heap → Prop) : ExS → State → Prop := fun _ s => K (s.slot 0) s.h
theorem callH_of {c : Ctx} {P : Program} (K : c.Ok P) {K1 Kp : SV → Heap → Prop} {f : FuncId} {args : List SV} {h : Heap} (hh : (callT c f args h retT pncT).holds P (endQ K1)) : CallH P f args h K1 Kp := by
  intro env ρ w vs R hv
  refine Calls.mono (callT_holds K hh env ρ w vs R hv) (fun e w' he => ?_)
  cases e with
  | returned v => exact he
  | panicked ch => obtain ⟨_, _, _, _, _, _, _, _, hq⟩ := he; exact hq.elim
  | outgrown => exact he

/-- what a run without loops answers -/
def Tree.val : Tree → Option (SV × Heap)
  | .need b k => bif b then k.val else none
  | .br b t f => bif b then t.val else f.val
  | .fin .ret s => some (s.slot 0, s.h)
  | _ => none
theorem Tree.val_holds {P : Program} {K : SV → Heap → Prop} : ∀ {t : Tree} {r : SV} {h : Heap}, t.val = some (r, h) → K r h → t.holds P (endQ K)
  | .need b k, r, h, hv, hk => by
    cases b with
    | true => exact ⟨rfl, Tree.val_holds (t := k) hv hk⟩
    | false => cases hv
  | .br b t f, r, h, hv, hk => by
    cases b with
    | true => exact ⟨fun _ => Tree.val_holds (t := t) hv hk, fun h => by cases h⟩
    | false => exact ⟨fun h => by (cases h), fun _ => Tree.val_holds (t := f) hv hk⟩
  | .fin e s, r, h, hv, hk => by
    cases e with
    | ret =>
      have hv : some (s.slot 0, s.h) = some (r, h) := hv
      injection hv with hv
      injection hv with h1 h2
      subst h1; subst h2
      exact hk
    | _ => cases hv
  | .stuck, _, _, hv, _ => by cases hv
  | .needEq _ _ _, _, _, hv, _ => by cases hv
  | .both _ _, _, _, hv, _ => by cases hv
  | .call _ _ _ _ _, _, _, hv, _ => by cases hv
  | .loop _ _ _ _, _, _, hv, _ => by cases hv
  | .inscope _ _ _ _ _, _, _, hv, _ => by cases hv
  | .dcall _ _ _ _ _ _, _, _, hv, _ => by cases hv
/-- a call without loops, by what it answers -/
theorem callH_val {c : Ctx} {P : Program} (K : c.Ok P) (O : Oracle P) (n : Nat) {f : FuncId} {args : List SV} {h : Heap} {r : SV} {h' : Heap} (hv : (runO c O.ask n (callT c f args h retT pncT)).val = some (r, h')) {K1 Kp : SV → Heap → Prop} (hk : K1 r h') : CallH P f args h K1 Kp :=
  callH_of K (runO_sound K O n _ (Tree.val_holds hv hk))

/-- a call over no memory of its own, in the model -/
theorem calls_of_callH {P : Program} {f : FuncId} {args : List SV} {x : Value} (H : CallH P f args ⟨0, .nil⟩ (fun r _ => r = .lit x) (fun _ _ => False)) {vs : List Value} (hv : VL (fun _ => none) args vs) (w : World) :
    Calls P f vs.toArray w fun e w' => e = .returned x ∧ Below w.heap.size w w' := by
  have hro : ∀ b, (fun _ : Nat => False) b → b < w.heap.size ∧ ¬ (fun _ : Nat => False) b := fun _ h => h.elim
  have R : Rel ⟨w, fun _ => False, fun _ => False, hro⟩ (fun _ => none) ⟨0, .nil⟩ w :=
    ⟨Kept.refl _ _ _ _, fun i _ => ⟨rfl, rfl⟩, fun i x r hi _ => by (cases hi), fun i j r s b c b' c' _ hi => by (cases hi), fun i x j r hi => by (cases hi)⟩
  refine Calls.mono (H _ _ w vs R hv) (fun e w' he => ?_)
  cases e with
  | returned v =>
    obtain ⟨ρ', h', r, _, R', hV, hr⟩ := he
    subst hr
    have hV : v = x := hV
    subst hV
    exact ⟨rfl, R'.kept.below⟩
  | panicked c => obtain ⟨_, _, _, _, _, _, _, _, hf⟩ := he; exact hf.elim
  | outgrown => exact he.elim

/-! arithmetic in short words -/
def kAdd (k : IntKind) (a b : Int) : Int := wrapF k (a + b)
def kSub (k : IntKind) (a b : Int) : Int := wrapF k (a - b)
def kMul (k : IntKind) (a b : Int) : Int := wrapF k (a * b)
def kAnd (k : IntKind) (a b : Int) : Int := wrapF k (BitVec.ofInt k.bits a &&& BitVec.ofInt k.bits b).toNat
def kOr (k : IntKind) (a b : Int) : Int := wrapF k (BitVec.ofInt k.bits a ||| BitVec.ofInt k.bits b).toNat
def kXor (k : IntKind) (a b : Int) : Int := wrapF k (BitVec.ofInt k.bits a ^^^ BitVec.ofInt k.bits b).toNat
def kShl (k : IntKind) (a y : Int) : Int := wrapF k (a * 2 ^ min y.toNat k.bits)
def kShr (k : IntKind) (a y : Int) : Int := a.fdiv (2 ^ min y.toNat k.bits)

theorem wrap_u32 (n : Int) : wrapF .u32 n = n % 4294967296 := by
  rw [wrapF_eq]; simp [IntKind.wrap, IntKind.signed, IntKind.bits]
theorem wrap_u8 (n : Int) : wrapF .u8 n = n % 256 := by
  rw [wrapF_eq]; simp [IntKind.wrap, IntKind.signed, IntKind.bits]
theorem wrap_u64 (n : Int) : wrapF .u64 n = n % 18446744073709551616 := by
  rw [wrapF_eq]; simp [IntKind.wrap, IntKind.signed, IntKind.bits]
theorem wrap_i64 (n : Int) (h1 : -9223372036854775808 ≤ n) (h2 : n < 9223372036854775808) : wrapF .i64 n = n := by
  rw [wrapF_eq]; exact IntWalk.i64_in _ (by omega)

theorem kAdd_u32 (a b : Nat) : kAdd .u32 (a : Int) (b : Int) = ((a + b) % 4294967296 : Nat) := by rw [kAdd, wrap_u32]; omega
theorem ofInt_nat (w : Nat) (a : Nat) : BitVec.ofInt w (a : Int) = BitVec.ofNat w a := by simp
theorem kAnd_u32 {a b : Nat} (ha : a < 4294967296) (hb : b < 4294967296) : kAnd .u32 (a : Int) (b : Int) = (a &&& b : Nat) := by
  have h : (BitVec.ofInt IntKind.u32.bits (a : Int) &&& BitVec.ofInt IntKind.u32.bits (b : Int)).toNat = a &&& b := by
    rw [ofInt_nat, ofInt_nat, BitVec.toNat_and, BitVec.toNat_ofNat, BitVec.toNat_ofNat]
    simp only [IntKind.bits]
    rw [Nat.mod_eq_of_lt ha, Nat.mod_eq_of_lt hb]
  have hlt : a &&& b < 4294967296 := Nat.lt_of_le_of_lt Nat.and_le_left ha
  rw [kAnd, h, wrap_u32]; omega
theorem kOr_u32 {a b : Nat} (ha : a < 4294967296) (hb : b < 4294967296) : kOr .u32 (a : Int) (b : Int) = (a ||| b : Nat) := by
  have h : (BitVec.ofInt IntKind.u32.bits (a : Int) ||| BitVec.ofInt IntKind.u32.bits (b : Int)).toNat = a ||| b := by
    rw [ofInt_nat, ofInt_nat, BitVec.toNat_or, BitVec.toNat_ofNat, BitVec.toNat_ofNat]
    simp only [IntKind.bits]
    rw [Nat.mod_eq_of_lt ha, Nat.mod_eq_of_lt hb]
  have hlt : a ||| b < 2 ^ 32 := Nat.or_lt_two_pow ha hb
  rw [kOr, h, wrap_u32]; omega
theorem kXor_u32 {a b : Nat} (ha : a < 4294967296) (hb : b < 4294967296) : kXor .u32 (a : Int) (b : Int) = (a ^^^ b : Nat) := by
  have h : (BitVec.ofInt IntKind.u32.bits (a : Int) ^^^ BitVec.ofInt IntKind.u32.bits (b : Int)).toNat = a ^^^ b := by
    rw [ofInt_nat, ofInt_nat, BitVec.toNat_xor, BitVec.toNat_ofNat, BitVec.toNat_ofNat]
    simp only [IntKind.bits]
    rw [Nat.mod_eq_of_lt ha, Nat.mod_eq_of_lt hb]
  have hlt : a ^^^ b < 2 ^ 32 := Nat.xor_lt_two_pow ha hb
  rw [kXor, h, wrap_u32]; omega
theorem min32 (n : Nat) (hn : n ≤ 32) : min (n : Int).toNat IntKind.u32.bits = n := by
  show min n 32 = n
  omega
theorem kShl_u32 (a n : Nat) (hn : n ≤ 32) : kShl .u32 (a : Int) (n : Int) = (Nat.shiftLeft a n % 4294967296 : Nat) := by
  rw [kShl, wrap_u32, min32 n hn]
  rw [show Nat.shiftLeft a n = a * 2 ^ n from Nat.shiftLeft_eq a n]
  rw [Int.natCast_emod, Int.natCast_mul, Int.natCast_pow]
  rfl
theorem kShr_u32 (a n : Nat) (hn : n ≤ 32) : kShr .u32 (a : Int) (n : Int) = (Nat.shiftRight a n : Nat) := by
  rw [kShr, min32 n hn]
  rw [show Nat.shiftRight a n = a / 2 ^ n from Nat.shiftRight_eq_div_pow a n]
  rw [Int.fdiv_eq_ediv_of_nonneg _ (Int.le_of_lt (Int.pow_pos (by decide)))]
  rw [Int.natCast_ediv, Int.natCast_pow]
  rfl
end Go.SE

namespace Go
theorem andT {a b : Bool} (ha : a = true) (hb : b = true) : (a && b) = true := by rw [ha, hb]; rfl
theorem joined_of {P : Program} {f : FuncId} {fn : Func} {s : ChangeSpec} {c : OpenClaim}
    (h0 : (c.wf (OpenSpec.ofChange s)) = true)
    (h1 : (laidOutB P) = true)
    (h2 : (mapsRowed P) = true)
    (h3 : (fn.params.all (P.readableRec ·)) = true)
    (h4 : (namedTie P c.named s.vars) = true)
    (h5 : ((c.stops == [])) = true)
    (h6 : ((P.stops == [])) = true)
    (h7 : ((c.knobs == [])) = true)
    (h8 : ((P.stopKnobs == [])) = true)
    (h9 : ((c.inPlace == P.inPlace f)) = true)
    (h10 : ((c.unfollowed == P.unfollowed f)) = true)
    (h11 : ((c.recurses == P.recurses f)) = true)
    (h12 : ((c.named == P.varsNamed f)) = true)
    (h13 : ((c.maps == (fn.params.toList ++ s.plain.varTypes P).any (P.mapsRec ·))) = true)
    (h14 : ((c.ifaces == (fn.params.toList ++ s.plain.varTypes P).any (P.ifacesRec ·))) = true)
    (h15 : ((c.mapsOut == P.mapsAmong fn.resultTypes.toList)) = true)
    (h16 : ((c.loops == (fn.params.toList ++ s.plain.varTypes P).any (P.loopsFrom ·))) = true)
    (h17 : ((c.wideKeys == (fn.params.toList ++ s.plain.varTypes P ++ fn.resultTypes.toList).any (P.wideKeysFrom ·))) = true)
    (h18 : (s.vars.all (P.varReadable ·)) = true)
    (h19 : (fn.resultTypes.all (fun t => P.readableRec t && decide (t < P.types.size))) = true)
    (h20 : ((c.ifacesOut == fn.resultTypes.toList.any (P.ifacesRec ·))) = true)
    (h21 : ((c.loopsOut == fn.resultTypes.toList.any (P.loopsFrom ·))) = true)
    (h22 : ((c.plainKeys == P.plainKeys)) = true)
    (h23 : (c.shortTexts.isNone) = true)
    (h24 : (P.stopsHeard) = true)
    (h25 : (P.mayEnter) = true)
    (h26 : ((c.lifted == P.liftsFinal)) = true)
    (h27 : ((P.make == some c.make)) = true)
    (h28 : ((c.kinds == (if c.domain.isEmpty then [] else fn.params.toList.map fun t => match P.underlying t with | some (.int k) => some k | _ => none))) = true)
    (h29 : ((c.pinned == c.pinnedBy)) = true)
    (h30 : ((c.veiled == (fn.params.toList ++ s.plain.varTypes P ++ fn.resultTypes.toList).any (P.veiledRec ·))) = true)
    (h31 : (c.veiledFits P fn.params.toList (fn.params.toList ++ s.plain.varTypes P ++ fn.resultTypes.toList)) = true)
    : joinedFacts P f fn s c = true := (andT (andT (andT (andT (andT (andT (andT (andT (andT (andT (andT (andT (andT (andT (andT (andT (andT (andT (andT (andT (andT (andT (andT (andT (andT (andT (andT (andT (andT (andT (andT h0 h1) h2) h3) h4) h5) h6) h7) h8) h9) h10) h11) h12) h13) h14) h15) h16) h17) h18) h19) h20) h21) h22) h23) h24) h25) h26) h27) h28) h29) h30) h31)
end Go

