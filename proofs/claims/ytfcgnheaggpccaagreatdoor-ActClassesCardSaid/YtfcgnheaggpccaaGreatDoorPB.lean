/- The symbolic executor: slices, loads, stores, new blocks, rows. No condition. -/
import Derived.Test.YtfcgnheaggpccaaGreatDoorPA
import Derived.Laws.NewFold
import Derived.Laws.Append
import Derived.Laws.AppendOwn
import Derived.Laws.MakeOwn
import Derived.Laws.BytesString
import Derived.Laws.IdiomStrings
import Derived.Great.BuildSlice
namespace Go.SE
open Go.RowKit

def ifaceS (c : Ctx) (t : TypeId) (x : SV) : Option (Bool × SV) :=
  match c.und t with
  | some (.interface _) => none
  | some _ => some (true, .iface t x)
  | none => none

def extractS (x : SV) (i : Nat) : Option (Bool × SV) :=
  match x.tup? with
  | some l => (l[i]?).map fun s => (true, s)
  | none => none

/-- a bound of a slice expression: its value, and whether it is from lo to hi -/
def boundS : Option SV → Nat → Nat → Option (Bool × Nat)
  | none, _, dflt => some (true, dflt)
  | some x, y, _ => (match x.int? with
    | some (_, n) => some (leF 0 n && leF n (y : Int), n.toNat)
    | none => none)

def and3 (a b c : Bool) : Bool := a && (b && c)

def sliceS (c : Ctx) (t : TypeId) (x : SV) (lo hi mx : Option SV) : Option (Bool × SV) :=
  match c.und t with
  | some .string => (match x.str?, mx with
    | some s, none => (match boundS hi s.size s.size with
      | some (b1, h) => (match boundS lo h 0 with
        | some (b2, l) => some (b1 && b2, .lit (.string (s.extract l h)))
        | none => none)
      | none => none)
    | _, _ => none)
  | some (.slice e) => (match x, c.info e with
    | .slc i off len cap, some inf => (match boundS mx cap cap with
      | some (b0, m) => (match boundS hi m len with
        | some (b1, h) => (match boundS lo h 0 with
          | some (b2, l) => some (and3 b0 b1 b2 && (mx.isNone || hi.isSome), .slc i (bif Nat.beq m l then off else off + l * inf.size) (h - l) (m - l))
          | none => none)
        | none => none)
      | none => none)
    | .own i len, some inf => (match mx, boundS hi len len, lo with
      | none, some (b1, h), none => some (b1, .own i h)
      | none, some (b1, h), some lo' => (match lo'.int? with
        | some (_, n) => some (b1 && (leF 0 n && leF n (h : Int)), .tail i (n.toNat * inf.size) n.toNat (h - n.toNat) 0)
        | none => none)
      | some mx', _, _ => (match boundS (some mx') len len with
        | some (b0, m) => (match boundS hi m len with
          | some (b1, h) => (match boundS lo h 0 with
            | some (b2, l) => some (and3 b0 b1 b2 && hi.isSome, .slc i (bif Nat.beq m l then 0 else l * inf.size) (h - l) (m - l))
            | none => none)
          | none => none)
        | none => none)
      | _, _, _ => none)
    | .tail i off at_ len o0, some inf => (match mx, boundS hi len len with
      | none, some (b1, h) => (match boundS lo h 0 with
        | some (b2, l) => some (b1 && b2, .tail i (off + l * inf.size) (at_ + l) (h - l) (bif Nat.beq l 0 then o0 else off))
        | none => none)
      | _, _ => none)
    | .lit (.slice none 0 0), some inf => (match boundS mx 0 0, boundS hi 0 0, boundS lo 0 0 with
      | some (b0, m), some (b1, h), some (b2, l) => some (and3 b0 b1 b2 && (mx.isNone || hi.isSome), .lit (.slice none 0 0))
      | _, _, _ => none)
    | _, _ => none)
  | some (.array n e) => (match x, c.info e, mx with
    | .ptr i off, some inf, none => (match boundS hi n n with
      | some (b1, h) => (match boundS lo h 0 with
        | some (b2, l) => some (b1 && b2, .slc i (bif Nat.beq n l then off else off + l * inf.size) (h - l) (n - l))
        | none => none)
      | none => none)
    | _, _, _ => none)
  | _ => none

def arrayPtrS (c : Ctx) (t : TypeId) (x : SV) : Option (Bool × SV) :=
  match c.und t, x with
  | some (.array n _), .slc i off len _ => some (Nat.ble n len, .ptr i off)
  | some (.array n _), .own i len => some (Nat.ble n len, .ptr i 0)
  | _, _ => none

def lenS (c : Ctx) (t : TypeId) (x : SV) : Option (Bool × SV) :=
  match c.und t with
  | some .string => (match x.str? with | some s => some (true, .lit (.int .i64 (s.size : Int))) | none => none)
  | some (.array n _) => some (true, .lit (.int .i64 (n : Int)))
  | some (.slice _) => (match x with
    | .slc _ _ len _ => some (true, .lit (.int .i64 (len : Int)))
    | .own _ len => some (true, .lit (.int .i64 (len : Int)))
    | .tail _ _ _ len _ => some (true, .lit (.int .i64 (len : Int)))
    | .lit (.slice _ len _) => some (true, .lit (.int .i64 (len : Int)))
    | _ => none)
  | some (.map _ _) => (match x with
    | .lit (.map none) => some (true, .lit (.int .i64 0))
    | _ => none)
  | _ => none

def capS (c : Ctx) (t : TypeId) (x : SV) : Option (Bool × SV) :=
  match c.und t with
  | some (.slice _) => (match x with
    | .slc _ _ _ cap => some (true, .lit (.int .i64 (cap : Int)))
    | .lit (.slice _ _ cap) => some (true, .lit (.int .i64 (cap : Int)))
    | _ => none)
  | _ => none

def mmFold (mx : Bool) (k : IntKind) : Int → List SV → Option SV
  | n, [] => some (.lit (.int k n))
  | a, y :: l => (match y.int? with
    | some (_, b) => mmFold mx k (bif (bif mx then ltF a b else ltF b a) then b else a) l
    | none => none)
def minmaxS (mx : Bool) : List SV → Option (Bool × SV)
  | [] => none
  | x :: l => (match x.int? with
    | some (k, n) => (mmFold mx k n l).map fun s => (true, s)
    | none => none)

section
variable {c : Ctx} {P : Program} {w : World} {ρ : Val}

theorem run_indexAddrS (K : c.Ok P) {t : TypeId} {x ix s : SV} (h : indexAddrS c t x ix = some (true, s)) {vx vi : Value} (hx : V ρ x vx) (hi : V ρ ix vi) : ∃ v, (Instr.indexAt t vx vi).run P w = .ok v w ∧ V ρ s v := by
  unfold indexAddrS at h
  split at h <;> try (cases h; done)
  · rename_i len e k n hu hn
    rw [SV.int?_eq hn] at hi; cases hi
    split at h <;> try (cases h; done)
    rename_i i off inf hinf
    simp only [Option.some.injEq, Prod.mk.injEq] at h
    obtain ⟨h1, rfl⟩ := h
    obtain ⟨h2, h3⟩ := inRange_eq h1
    obtain ⟨b, cp, g1, rfl, g3⟩ := V_ptr hx (n.toNat * inf.size)
    refine ⟨_, ?_, g3⟩
    have hcs : P.cellsOf e = inf.size := by unfold Program.cellsOf; rw [K.info hinf]; rfl
    simp [Instr.indexAt, Instr.sureAddr, asIntOf, run_underlying (K.und hu), h2, h3, run_sizeOf w (K.info hinf), hcs]
  · rename_i e k n hu hn
    rw [SV.int?_eq hn] at hi; cases hi
    split at h <;> try (cases h; done)
    · rename_i i off len cap inf hinf
      simp only [Option.some.injEq, Prod.mk.injEq] at h
      obtain ⟨h1, rfl⟩ := h
      obtain ⟨h2, h3⟩ := inRange_eq h1
      obtain ⟨b, cp, g1, rfl⟩ := hx
      refine ⟨_, ?_, b, cp, g1, rfl⟩
      have hcs : P.cellsOf e = inf.size := by unfold Program.cellsOf; rw [K.info hinf]; rfl
      simp [Instr.indexAt, Instr.sureAddr, asIntOf, run_underlying (K.und hu), h2, h3, run_sizeOf w (K.info hinf), hcs, Addr_add]
    · rename_i i len inf hinf
      simp only [Option.some.injEq, Prod.mk.injEq] at h
      obtain ⟨h1, rfl⟩ := h
      obtain ⟨h2, h3⟩ := inRange_eq h1
      obtain ⟨b, cp, g1, rfl, _⟩ := hx
      refine ⟨_, ?_, b, cp, g1, rfl⟩
      have hcs : P.cellsOf e = inf.size := by unfold Program.cellsOf; rw [K.info hinf]; rfl
      simp [Instr.indexAt, Instr.sureAddr, asIntOf, run_underlying (K.und hu), h2, h3, run_sizeOf w (K.info hinf), hcs, Addr_add]
    · rename_i i off at_ len o0 inf hinf
      simp only [Option.some.injEq, Prod.mk.injEq] at h
      obtain ⟨h1, rfl⟩ := h
      obtain ⟨h2, h3⟩ := inRange_eq h1
      obtain ⟨b, cp, g1, rfl, hle⟩ := hx
      have hne : ¬ cp = at_ := by omega
      refine ⟨_, ?_, b, cp, g1, rfl⟩
      have hcs : P.cellsOf e = inf.size := by unfold Program.cellsOf; rw [K.info hinf]; rfl
      rw [if_neg hne]
      simp [Instr.indexAt, Instr.sureAddr, asIntOf, run_underlying (K.und hu), h2, h3, run_sizeOf w (K.info hinf), hcs, Addr_add]

theorem run_indexS (K : c.Ok P) {t : TypeId} {x ix s : SV} (h : indexS c t x ix = some (true, s)) {vx vi : Value} (hx : V ρ x vx) (hi : V ρ ix vi) : ∃ v, (Instr.index t vx vi).run P w = .ok v w ∧ V ρ s v := by
  unfold indexS at h
  split at h <;> try (cases h; done)
  · rename_i k n hu hn
    rw [SV.int?_eq hn] at hi; cases hi
    split at h <;> try (cases h; done)
    rename_i s' hs
    rw [SV.str?_eq hs] at hx; cases hx
    simp only [Option.some.injEq, Prod.mk.injEq] at h
    obtain ⟨h1, rfl⟩ := h
    obtain ⟨h2, h3⟩ := inRange_eq h1
    have hlt : n.toNat < s'.size := by omega
    refine ⟨.int .u8 ((s'.data.toList.getD n.toNat 0).toNat : Int), ?_, rfl⟩
    have he : s'[n.toNat]? = some (s'.data.toList.getD n.toNat 0) := by
      rw [getElem?_pos s' n.toNat hlt]
      congr 1
      rw [List.getD_eq_getElem?_getD]
      have : n.toNat < s'.data.toList.length := by simpa using hlt
      rw [List.getElem?_eq_getElem this]
      simp [ByteArray.getElem_eq_getElem_data]
    simp [Instr.index, asIntOf, run_underlying (K.und hu), h2, he]
  · rename_i len e k n hu hn
    rw [SV.int?_eq hn] at hi; cases hi
    split at h <;> try (cases h; done)
    rename_i l inf ha hinf
    simp only [Option.map_eq_some_iff, Prod.mk.injEq] at h
    obtain ⟨s', hp, h1, rfl⟩ := h
    obtain ⟨h2, h3⟩ := inRange_eq h1
    rw [SV.agg?_eq ha] at hx
    obtain ⟨cs, rfl, hl⟩ := hx
    obtain ⟨v, hv, hV⟩ := run_part (w := w) K.toOk0 hp hl
    have hcs : P.cellsOf e = inf.size := by unfold Program.cellsOf; rw [K.info hinf]; rfl
    exact ⟨v, by simp [Instr.index, asIntOf, run_underlying (K.und hu), h2, h3, run_sizeOf w (K.info hinf), hcs, hv], hV⟩

theorem run_ifaceS (K : c.Ok P) {t : TypeId} {x s : SV} (h : ifaceS c t x = some (true, s)) {vx : Value} (hx : V ρ x vx) : ∃ v, (Instr.makeInterface t vx).run P w = .ok v w ∧ V ρ s v := by
  unfold ifaceS at h
  cases hu : c.und t with
  | none => rw [hu] at h; cases h
  | some d =>
    rw [hu] at h
    have hd : s = .iface t x ∧ ∀ ms, d ≠ .interface ms := by
      cases d <;> simp at h <;> exact ⟨h.symm, fun ms e => by cases e⟩
    obtain ⟨rfl, hd⟩ := hd
    refine ⟨.iface t vx, ?_, vx, rfl, hx⟩
    unfold Instr.makeInterface
    simp only [Sem.run_bind, run_underlying (K.und hu), Result.andThen_ok]
    cases d <;> first | rfl | exact absurd rfl (hd _)

theorem run_extractS {x s : SV} {i : Nat} (h : extractS x i = some (true, s)) {vx : Value} (hx : V ρ x vx) : ∃ v, (Instr.extract vx i).run P w = .ok v w ∧ V ρ s v := by
  unfold extractS at h
  split at h <;> try (cases h; done)
  rename_i l hl
  rw [SV.tup?_eq hl] at hx
  obtain ⟨cs, rfl, hv⟩ := hx
  simp only [Option.map_eq_some_iff, Prod.mk.injEq, true_and] at h
  obtain ⟨s', hs, rfl⟩ := h
  obtain ⟨v, h1, h2⟩ := hv.get hs
  have : cs[i]? = some v := by simpa using h1
  exact ⟨v, by simp [Instr.extract, this], h2⟩

theorem run_arrayPtrS (K : c.Ok P) {t : TypeId} {x s : SV} (h : arrayPtrS c t x = some (true, s)) {vx : Value} (hx : V ρ x vx) : ∃ v, (Instr.arrayAt t vx).run P w = .ok v w ∧ V ρ s v := by
  unfold arrayPtrS at h
  split at h <;> try (cases h; done)
  · rename_i n e i off len cap hu
    simp only [Option.some.injEq, Prod.mk.injEq, Nat.ble_eq] at h
    obtain ⟨h1, rfl⟩ := h
    obtain ⟨b, cp, g1, rfl⟩ := hx
    have : ¬ len < n := by omega
    exact ⟨_, by simp [Instr.arrayAt, run_underlying (K.und hu), this], b, cp, g1, rfl⟩
  · rename_i n e i len hu
    simp only [Option.some.injEq, Prod.mk.injEq, Nat.ble_eq] at h
    obtain ⟨h1, rfl⟩ := h
    obtain ⟨b, cp, g1, rfl, _⟩ := hx
    have : ¬ len < n := by omega
    exact ⟨_, by simp [Instr.arrayAt, run_underlying (K.und hu), this], b, cp, g1, rfl⟩

theorem run_lenS (K : c.Ok P) {t : TypeId} {x s : SV} {ty : TypeId} (h : lenS c t x = some (true, s)) {vx : Value} (hx : V ρ x vx) : ∃ v, (Builtin.len_ #[t] ty #[vx]).run P w = .ok v w ∧ V ρ s v := by
  unfold lenS at h
  split at h <;> try (cases h; done)
  · rename_i hu
    split at h <;> try (cases h; done)
    rename_i s' hs
    rw [SV.str?_eq hs] at hx; cases hx
    simp only [Option.some.injEq, Prod.mk.injEq, true_and] at h; subst h
    exact ⟨_, by simp [Builtin.len_, run_underlying (K.und hu), goInt], rfl⟩
  · rename_i n e hu
    simp only [Option.some.injEq, Prod.mk.injEq, true_and] at h; subst h
    exact ⟨_, by simp [Builtin.len_, run_underlying (K.und hu), goInt], rfl⟩
  · rename_i e hu
    split at h <;> try (cases h; done)
    all_goals (simp only [Option.some.injEq, Prod.mk.injEq, true_and] at h; subst h)
    · obtain ⟨b, cp, g1, rfl⟩ := hx
      exact ⟨_, by simp [Builtin.len_, run_underlying (K.und hu), goInt], rfl⟩
    · obtain ⟨b, cp, g1, rfl, _⟩ := hx
      exact ⟨_, by simp [Builtin.len_, run_underlying (K.und hu), goInt], rfl⟩
    · obtain ⟨b, cp, g1, rfl, _⟩ := hx
      exact ⟨_, by simp [Builtin.len_, run_underlying (K.und hu), goInt], rfl⟩
    · cases hx
      exact ⟨_, by simp [Builtin.len_, run_underlying (K.und hu), goInt], rfl⟩
  · rename_i k e hu
    split at h <;> try (cases h; done)
    simp only [Option.some.injEq, Prod.mk.injEq, true_and] at h; subst h
    cases hx
    exact ⟨_, by simp [Builtin.len_, run_underlying (K.und hu), goInt], rfl⟩

theorem run_capS (K : c.Ok P) {t : TypeId} {x s : SV} {ty : TypeId} (h : capS c t x = some (true, s)) {vx : Value} (hx : V ρ x vx) : ∃ v, (Builtin.cap_ #[t] ty #[vx]).run P w = .ok v w ∧ V ρ s v := by
  unfold capS at h
  split at h <;> try (cases h; done)
  rename_i e hu
  split at h <;> try (cases h; done)
  all_goals (simp only [Option.some.injEq, Prod.mk.injEq, true_and] at h; subst h)
  · obtain ⟨b, cp, g1, rfl⟩ := hx
    exact ⟨_, by simp [Builtin.cap_, run_underlying (K.und hu), goInt], rfl⟩
  · cases hx
    exact ⟨_, by simp [Builtin.cap_, run_underlying (K.und hu), goInt], rfl⟩

theorem run_mmFold_min {k : IntKind} : ∀ {l : List SV} {vs : List Value}, VL ρ l vs → ∀ (n : Int) {s : SV}, mmFold false k n l = some s → ∃ v, s = .lit v ∧ (vs.foldlM Builtin.min2 (.int k n)).run P w = .ok v w
  | [], [], _, n, s, h => ⟨_, (by injection h with h; exact h.symm), by simp⟩
  | x :: l, v :: vs, ⟨h1, h2⟩, n, s, h => by
    rw [mmFold] at h
    split at h <;> try (cases h; done)
    rename_i k' b hb
    rw [SV.int?_eq hb] at h1; cases h1
    obtain ⟨u, hu, hr⟩ := run_mmFold_min h2 _ h
    refine ⟨u, hu, ?_⟩
    rw [List.foldlM_cons]
    simp only [Builtin.min2, Sem.run_bind, Sem.run_pure, Result.andThen_ok]
    rw [← hr]
    congr 2
    simp only [cond_false, ltF_eq]
    by_cases hlt : b < n <;> simp [hlt]
  | [], _ :: _, h, _, _, _ => h.elim
  | _ :: _, [], h, _, _, _ => h.elim
theorem run_mmFold_max {k : IntKind} : ∀ {l : List SV} {vs : List Value}, VL ρ l vs → ∀ (n : Int) {s : SV}, mmFold true k n l = some s → ∃ v, s = .lit v ∧ (vs.foldlM Builtin.max2 (.int k n)).run P w = .ok v w
  | [], [], _, n, s, h => ⟨_, (by injection h with h; exact h.symm), by simp⟩
  | x :: l, v :: vs, ⟨h1, h2⟩, n, s, h => by
    rw [mmFold] at h
    split at h <;> try (cases h; done)
    rename_i k' b hb
    rw [SV.int?_eq hb] at h1; cases h1
    obtain ⟨u, hu, hr⟩ := run_mmFold_max h2 _ h
    refine ⟨u, hu, ?_⟩
    rw [List.foldlM_cons]
    simp only [Builtin.max2, Sem.run_bind, Sem.run_pure, Result.andThen_ok]
    rw [← hr]
    congr 2
    simp only [cond_true, ltF_eq]
    by_cases hlt : n < b <;> simp [hlt]
  | [], _ :: _, h, _, _, _ => h.elim
  | _ :: _, [], h, _, _, _ => h.elim

theorem run_min {l : List SV} {vs : Array Value} (h : VL ρ l vs.toList) {s : SV} (hs : minmaxS false l = some (true, s)) (ts : Array TypeId) (ty : TypeId) : ∃ v, s = .lit v ∧ (Builtin.min_ ts ty vs).run P w = .ok v w := by
  cases l with
  | nil => cases hs
  | cons x l =>
    unfold Builtin.min_
    cases hv : vs.toList with
    | nil => rw [hv] at h; exact h.elim
    | cons v vs' =>
      rw [hv] at h
      rw [minmaxS] at hs
      split at hs <;> try (cases hs; done)
      rename_i k n hn
      simp only [Option.map_eq_some_iff, Prod.mk.injEq, true_and] at hs
      obtain ⟨s', hs, rfl⟩ := hs
      obtain ⟨h1, h2⟩ := h
      rw [SV.int?_eq hn] at h1; cases h1
      exact run_mmFold_min h2 n hs
theorem run_max {l : List SV} {vs : Array Value} (h : VL ρ l vs.toList) {s : SV} (hs : minmaxS true l = some (true, s)) (ts : Array TypeId) (ty : TypeId) : ∃ v, s = .lit v ∧ (Builtin.max_ ts ty vs).run P w = .ok v w := by
  cases l with
  | nil => cases hs
  | cons x l =>
    unfold Builtin.max_
    cases hv : vs.toList with
    | nil => rw [hv] at h; exact h.elim
    | cons v vs' =>
      rw [hv] at h
      rw [minmaxS] at hs
      split at hs <;> try (cases hs; done)
      rename_i k n hn
      simp only [Option.map_eq_some_iff, Prod.mk.injEq, true_and] at hs
      obtain ⟨s', hs, rfl⟩ := hs
      obtain ⟨h1, h2⟩ := h
      rw [SV.int?_eq hn] at h1; cases h1
      exact run_mmFold_max h2 n hs

def OV (ρ : Val) : Option SV → Option Value → Prop
  | none, none => True
  | some s, some v => V ρ s v
  | _, _ => False

theorem run_sliceBoundS {x : SV} {v : Value} (hv : V ρ x v) {y d r : Nat} (h : boundS (some x) y d = some (true, r)) (code : BoundsCode) : (Instr.sliceBound v y code).run P w = .ok r w ∧ r ≤ y := by
  rw [boundS] at h
  split at h <;> try (cases h; done)
  rename_i k n hn
  rw [SV.int?_eq hn] at hv; cases hv
  simp only [Option.some.injEq, Prod.mk.injEq, Bool.and_eq_true, leF_eq, decide_eq_true_eq] at h
  obtain ⟨⟨h1, h2⟩, rfl⟩ := h
  exact ⟨by simp [Instr.sliceBound, asIntOf, h1, h2], by omega⟩

theorem run_sliceBoundsS {lo hi mx : Option SV} {vl vh vm : Option Value} (hl : OV ρ lo vl) (hh : OV ρ hi vh) (hm : OV ρ mx vm) {isS : Bool} {len cap l h m : Nat}
    (h0 : boundS mx cap cap = some (true, m)) (h1 : boundS hi m len = some (true, h)) (h2 : boundS lo h 0 = some (true, l)) (hc : (mx.isNone || hi.isSome) = true) :
    (Instr.sliceBounds isS len cap vl vh vm).run P w = .ok (l, h, m) w := by
  unfold Instr.sliceBounds
  cases mx with
  | none =>
    cases vm with
    | some _ => exact hm.elim
    | none =>
      have e0 : cap = m := by rw [boundS] at h0; injection h0 with h0; injection h0
      subst e0
      cases hi with
      | none =>
        cases vh with
        | some _ => exact hh.elim
        | none =>
          have e1 : len = h := by rw [boundS] at h1; injection h1 with h1; injection h1
          subst e1
          cases lo with
          | none =>
            cases vl with
            | some _ => exact hl.elim
            | none =>
              have e2 : 0 = l := by rw [boundS] at h2; injection h2 with h2; injection h2
              subst e2
              simp
          | some x =>
            cases vl with
            | none => exact hl.elim
            | some v => simp [(run_sliceBoundS (P := P) (w := w) hl h2 _).1]
      | some y =>
        cases vh with
        | none => exact hh.elim
        | some vy =>
          cases lo with
          | none =>
            cases vl with
            | some _ => exact hl.elim
            | none =>
              have e2 : 0 = l := by rw [boundS] at h2; injection h2 with h2; injection h2
              subst e2
              simp [(run_sliceBoundS (P := P) (w := w) hh h1 _).1]
          | some x =>
            cases vl with
            | none => exact hl.elim
            | some v => simp [(run_sliceBoundS (P := P) (w := w) hh h1 _).1, (run_sliceBoundS (P := P) (w := w) hl h2 _).1]
  | some z =>
    cases vm with
    | none => exact hm.elim
    | some vz =>
      cases hi with
      | none => simp at hc
      | some y =>
        cases vh with
        | none => exact hh.elim
        | some vy =>
          cases lo with
          | none =>
            cases vl with
            | some _ => exact hl.elim
            | none =>
              have e2 : 0 = l := by rw [boundS] at h2; injection h2 with h2; injection h2
              subst e2
              simp [(run_sliceBoundS (P := P) (w := w) hh h1 _).1, (run_sliceBoundS (P := P) (w := w) hm h0 _).1]
          | some x =>
            cases vl with
            | none => exact hl.elim
            | some v => simp [(run_sliceBoundS (P := P) (w := w) hh h1 _).1, (run_sliceBoundS (P := P) (w := w) hl h2 _).1, (run_sliceBoundS (P := P) (w := w) hm h0 _).1]
end
end Go.SE

namespace Go.SE
open Go.RowKit
section
variable {c : Ctx} {P : Program} {w : World} {ρ : Val}

theorem boundS_weaken {x : Option SV} {y y' d r : Nat} (h : boundS x y d = some (true, r)) (hy : y ≤ y') : boundS x y' d = some (true, r) := by
  cases x with
  | none => exact h
  | some s =>
    rw [boundS] at h ⊢
    split at h <;> try (cases h; done)
    rename_i k n hn
    simp only [Option.some.injEq, Prod.mk.injEq, Bool.and_eq_true, leF_eq, decide_eq_true_eq] at h ⊢
    exact ⟨⟨h.1.1, by omega⟩, h.2⟩
theorem boundS_le {x : Option SV} {y d r : Nat} (h : boundS x y d = some (true, r)) (hd : d ≤ y) : r ≤ y := by
  cases x with
  | none => rw [boundS] at h; injection h with h; injection h with _ h; omega
  | some s =>
    rw [boundS] at h
    split at h <;> try (cases h; done)
    simp only [Option.some.injEq, Prod.mk.injEq, Bool.and_eq_true, leF_eq, decide_eq_true_eq] at h
    omega

theorem cellsOf_eq (K : c.Ok0 P) {e : TypeId} {inf : TypeInfo} (h : c.info e = some inf) : P.cellsOf e = inf.size := by
  unfold Program.cellsOf; rw [K.info h]; rfl

theorem run_sliceS (K : c.Ok P) {t : TypeId} {x s : SV} {lo hi mx : Option SV} (h : sliceS c t x lo hi mx = some (true, s)) {vx : Value} {vl vh vm : Option Value}
    (hx : V ρ x vx) (hl : OV ρ lo vl) (hh : OV ρ hi vh) (hm : OV ρ mx vm) : ∃ v, (Instr.sliceAt t vx vl vh vm).run P w = .ok v w ∧ V ρ s v := by
  unfold sliceS at h
  cases hu : c.und t with
  | none => rw [hu] at h; cases h
  | some d =>
    rw [hu] at h
    have hU := K.und hu
    cases d with
    | string =>
      simp only at h
      split at h <;> try (cases h; done)
      rename_i s' hs
      rw [SV.str?_eq hs] at hx; cases hx
      split at h <;> try (cases h; done)
      rename_i b1 h' hb1
      split at h <;> try (cases h; done)
      rename_i b2 l' hb2
      simp only [Option.some.injEq, Prod.mk.injEq, Bool.and_eq_true] at h
      obtain ⟨⟨rfl, rfl⟩, rfl⟩ := h
      cases vm with
      | some _ => exact hm.elim
      | none =>
        have hb := run_sliceBoundsS (P := P) (w := w) (isS := false) (mx := none) (vm := none) (cap := s'.size) (m := s'.size) hl hh trivial (by rw [boundS]) hb1 hb2 rfl
        refine ⟨.string (s'.extract l' h'), ?_, rfl⟩
        simp [Instr.sliceAt, Instr.slice, run_underlying hU, hb]
    | slice e =>
      simp only at h
      split at h <;> try (cases h; done)
      · rename_i i off len cap inf hinf
        obtain ⟨b, cp, g1, rfl⟩ := hx
        split at h <;> try (cases h; done)
        rename_i b0 m hb0
        split at h <;> try (cases h; done)
        rename_i b1 h' hb1
        split at h <;> try (cases h; done)
        rename_i b2 l hb2
        simp only [Option.some.injEq, Prod.mk.injEq, Bool.and_eq_true, and3] at h
        obtain ⟨⟨⟨rfl, rfl, rfl⟩, hc⟩, rfl⟩ := h
        have hb := run_sliceBoundsS (P := P) (w := w) (isS := true) hl hh hm hb0 hb1 hb2 hc
        refine ⟨.slice (some (if m = l then ⟨b, off, none⟩ else ⟨b, off + l * inf.size, none⟩)) (h' - l) (m - l), ?_, b, cp, g1, ?_⟩
        · simp only [Instr.sliceAt, Instr.slice, Sem.run_bind, run_underlying hU, Result.andThen_ok, hb, run_sizeOf w (K.info hinf), cellsOf_eq K.toOk0 hinf, Sem.run_pure, Option.map_some, Addr_add]
          split <;> rfl
        · by_cases hml : m = l
          · subst hml; simp [Nat.beq_refl]
          · rw [if_neg hml, T.beq_ne hml]; rfl
      · rename_i i len inf hinf
        obtain ⟨b, cp, g1, rfl, hle⟩ := hx
        have fin : ∀ (h' : Nat) (vl : Option Value), h' ≤ len → (Instr.sliceBounds true len cp vl vh none).run P w = .ok (0, h', cp) w →
            ∃ v, (Instr.sliceAt t (.slice (some ⟨b, 0, none⟩) len cp) vl vh none).run P w = .ok v w ∧ V ρ (.own i h') v := by
          intro h' vl hlen hb
          refine ⟨.slice (some ⟨b, 0, none⟩) h' cp, ?_, b, cp, g1, rfl, by omega⟩
          simp only [Instr.sliceAt, Instr.slice, Sem.run_bind, run_underlying hU, Result.andThen_ok, hb, run_sizeOf w (K.info hinf), cellsOf_eq K.toOk0 hinf, Sem.run_pure, Option.map_some, Addr_add, Nat.zero_mul, Nat.sub_zero]
          split <;> rfl
        split at h <;> try (cases h; done)
        · rename_i b1 h' hb1
          simp only [Option.some.injEq, Prod.mk.injEq] at h
          obtain ⟨rfl, rfl⟩ := h
          cases vm with
          | some _ => exact hm.elim
          | none =>
            cases vl with
            | some _ => exact hl.elim
            | none =>
              exact fin h' none (boundS_le hb1 (Nat.le_refl _)) (run_sliceBoundsS (lo := none) (vl := none) (mx := none) (vm := none) trivial hh trivial (by rw [boundS]) (boundS_weaken hb1 hle) (by rw [boundS]) rfl)
        · rename_i b1 h' lo' hb1
          split at h <;> try (cases h; done)
          rename_i k n hn
          simp only [Option.some.injEq, Prod.mk.injEq, Bool.and_eq_true, leF_eq, decide_eq_true_eq] at h
          obtain ⟨⟨rfl, hn0, hnh⟩, rfl⟩ := h
          cases vm with
          | some _ => exact hm.elim
          | none =>
            cases vl with
            | none => exact hl.elim
            | some v =>
              have hh' := boundS_le hb1 (Nat.le_refl _)
              have hb := run_sliceBoundsS (P := P) (w := w) (isS := true) (cap := cp) (m := cp) (h := h') (l := n.toNat) (lo := some lo') (vl := some v) (mx := none) (vm := none) hl hh trivial (by rw [boundS]) (boundS_weaken hb1 hle) (by rw [boundS, hn]; simp [leF_eq, hn0, hnh]) rfl
              refine ⟨.slice (some ⟨b, if cp = n.toNat then 0 else n.toNat * inf.size, none⟩) (h' - n.toNat) (cp - n.toNat), ?_, b, cp, g1, rfl, by omega⟩
              simp only [Instr.sliceAt, Instr.slice, Sem.run_bind, run_underlying hU, Result.andThen_ok, hb, run_sizeOf w (K.info hinf), cellsOf_eq K.toOk0 hinf, Sem.run_pure, Option.map_some, Addr_add, Nat.zero_add]
              split <;> rfl
        · rename_i mx'
          split at h <;> try (cases h; done)
          rename_i b0 m hb0
          split at h <;> try (cases h; done)
          rename_i b1 h' hb1
          split at h <;> try (cases h; done)
          rename_i b2 l hb2
          simp only [Option.some.injEq, Prod.mk.injEq, Bool.and_eq_true, and3] at h
          obtain ⟨⟨⟨rfl, rfl, rfl⟩, hc⟩, rfl⟩ := h
          have hb := run_sliceBoundsS (P := P) (w := w) (isS := true) (cap := cp) hl hh hm (boundS_weaken hb0 hle) hb1 hb2 (by simp [hc])
          refine ⟨.slice (some (if m = l then ⟨b, 0, none⟩ else ⟨b, 0 + l * inf.size, none⟩)) (h' - l) (m - l), ?_, b, cp, g1, ?_⟩
          · simp only [Instr.sliceAt, Instr.slice, Sem.run_bind, run_underlying hU, Result.andThen_ok, hb, run_sizeOf w (K.info hinf), cellsOf_eq K.toOk0 hinf, Sem.run_pure, Option.map_some, Addr_add]
            split <;> rfl
          · by_cases hml : m = l
            · subst hml; simp [Nat.beq_refl]
            · rw [if_neg hml, T.beq_ne hml, Nat.zero_add]; rfl
      · rename_i i off at_ len o0 inf hinf
        obtain ⟨b, cp, g1, rfl, hle⟩ := hx
        split at h <;> try (cases h; done)
        rename_i b1 h' hb1
        split at h <;> try (cases h; done)
        rename_i b2 l hb2
        simp only [Option.some.injEq, Prod.mk.injEq, Bool.and_eq_true] at h
        obtain ⟨⟨rfl, rfl⟩, rfl⟩ := h
        cases vm with
        | some _ => exact hm.elim
        | none =>
          have hh' := boundS_le hb1 (Nat.le_refl _)
          have hl' := boundS_le hb2 (Nat.zero_le _)
          have hb := run_sliceBoundsS (P := P) (w := w) (isS := true) (mx := none) (vm := none) (cap := cp - at_) (m := cp - at_) hl hh trivial (by rw [boundS]) (boundS_weaken hb1 (by omega)) hb2 rfl
          refine ⟨.slice (some ⟨b, if cp = at_ + l then (bif Nat.beq l 0 then o0 else off) else off + l * inf.size, none⟩) (h' - l) (cp - (at_ + l)), ?_, b, cp, g1, rfl, by omega⟩
          simp only [Instr.sliceAt, Instr.slice, Sem.run_bind, run_underlying hU, Result.andThen_ok, hb, run_sizeOf w (K.info hinf), cellsOf_eq K.toOk0 hinf, Sem.run_pure, Option.map_some, Addr_add, Nat.sub_sub]
          by_cases hc : cp - at_ = l
          · rw [if_pos hc, if_pos (by omega : cp = at_ + l)]
            by_cases hl0 : l = 0
            · subst hl0; rw [if_pos (by omega : cp = at_)]; rfl
            · rw [if_neg (by omega : ¬ cp = at_), T.beq_ne hl0]; rfl
          · rw [if_neg hc, if_neg (by omega : ¬ cp = at_ + l), if_neg (by omega : ¬ cp = at_)]
      · rename_i inf hinf
        cases hx
        split at h <;> try (cases h; done)
        rename_i b0 m b1 h' b2 l hb0 hb1 hb2
        simp only [Option.some.injEq, Prod.mk.injEq, Bool.and_eq_true, and3] at h
        obtain ⟨⟨⟨rfl, rfl, rfl⟩, hc⟩, rfl⟩ := h
        have e0 : m = 0 := by have := boundS_le hb0 (Nat.le_refl _); omega
        have e1 : h' = 0 := by have := boundS_le hb1 (Nat.le_refl _); omega
        have e2 : l = 0 := by have := boundS_le hb2 (Nat.le_refl _); omega
        subst e0; subst e1; subst e2
        have hb := run_sliceBoundsS (P := P) (w := w) (isS := true) (len := 0) (cap := 0) (m := 0) hl hh hm hb0 hb1 hb2 hc
        refine ⟨.slice none 0 0, ?_, rfl⟩
        simp [Instr.sliceAt, Instr.slice, run_underlying hU, hb, run_sizeOf w (K.info hinf)]
    | array n e =>
      simp only at h
      split at h <;> try (cases h; done)
      rename_i i off inf hinf
      obtain ⟨b, cp, g1, rfl⟩ := hx
      split at h <;> try (cases h; done)
      rename_i b1 h' hb1
      split at h <;> try (cases h; done)
      rename_i b2 l hb2
      simp only [Option.some.injEq, Prod.mk.injEq, Bool.and_eq_true] at h
      obtain ⟨⟨rfl, rfl⟩, rfl⟩ := h
      cases vm with
      | some _ => exact hm.elim
      | none =>
        have hb := run_sliceBoundsS (P := P) (w := w) (isS := false) (mx := none) (vm := none) (cap := n) (m := n) hl hh trivial (by rw [boundS]) hb1 hb2 rfl
        refine ⟨.slice (some (if n = l then ⟨b, off, none⟩ else ⟨b, off + l * inf.size, none⟩)) (h' - l) (n - l), ?_, b, cp, g1, ?_⟩
        · simp only [Instr.sliceAt, Instr.sureAddr, Sem.run_bind, run_underlying hU, Result.andThen_ok, hb, run_sizeOf w (K.info hinf), cellsOf_eq K.toOk0 hinf, Sem.run_pure, Addr_add]
        · by_cases hml : n = l
          · subst hml; simp [Nat.beq_refl]
          · rw [if_neg hml, T.beq_ne hml]; rfl
    | _ => cases h
end

/-! values put together -/
def fillS (place : Nat → Option (Nat × Nat)) : List SV → List (Nat × SV) → Option (List SV)
  | cells, [] => some cells
  | cells, (i, v) :: rest => (match place i with
    | none => none
    | some (off, size) => bif Nat.beq v.cells.length size && Nat.ble (off + size) cells.length then fillS place (cells.take off ++ v.cells ++ cells.drop (off + size)) rest else none)

def buildS (c : Ctx) (t : TypeId) (parts : List (Nat × SV)) : Option (Bool × SV) :=
  match c.info t, c.und t with
  | some inf, some (.struct fs) => (match inf.zero with
    | some z => (fillS (fun i => match fs.toList[i]? with | some f => (match c.info f.type with | some fi => some (f.offset, fi.size) | none => none) | none => none) (ofV z).cells parts).map fun l => (fs.toList.all fun f => (c.info f.type).isSome, .agg l)
    | none => none)
  | some inf, some (.array _ e) => (match inf.zero, c.info e with
    | some z, some ei => (fillS (fun i => some (i * ei.size, ei.size)) (ofV z).cells parts).map fun l => (true, .agg l)
    | _, _ => none)
  | _, _ => none

def PL (ρ : Val) : List (Nat × SV) → List (Nat × Value) → Prop
  | [], [] => True
  | (i, s) :: l, (j, v) :: l' => i = j ∧ V ρ s v ∧ PL ρ l l'
  | _, _ => False

theorem V.cells {ρ : Val} {s : SV} {v : Value} (h : V ρ s v) (hn : s.raw = false) : VL ρ s.cells v.cells.toList := by
  cases s with
  | agg l => obtain ⟨cs, rfl, h⟩ := h; exact h
  | lit x =>
    have h' : v = x := h
    subst h'
    cases v <;> first | exact ⟨rfl, trivial⟩ | exact (Bool.noConfusion hn)
  | any => exact (Bool.noConfusion hn)
  | _ =>
    have : v.cells = #[v] := by
      simp only [V] at h
      first
        | (obtain ⟨_, _, _, rfl⟩ := h; rfl)
        | (obtain ⟨_, _, _, rfl, _⟩ := h; rfl)
        | (obtain ⟨_, _, rfl, _⟩ := h; rfl)
        | (obtain ⟨_, rfl, _⟩ := h; rfl)
    rw [this]
    exact ⟨h, trivial⟩

theorem splice_foldl (off : Nat) : ∀ (vs : List Value) (k : Nat) (cells : Array Value), off + k + vs.length ≤ cells.size →
    ((vs.zipIdx k).foldl (fun cs (p : Value × Nat) => cs.setIfInBounds (off + p.2) p.1) cells).toList = cells.toList.take (off + k) ++ vs ++ cells.toList.drop (off + k + vs.length)
  | [], k, cells, _ => by simp
  | v :: vs, k, cells, h => by
    rw [List.zipIdx_cons, List.foldl_cons, splice_foldl off vs (k + 1) _ (by simp only [Array.size_setIfInBounds, List.length_cons] at *; omega)]
    have hlt : off + k < cells.toList.length := by simp only [List.length_cons] at h; simp only [Array.length_toList]; omega
    simp only [Array.toList_setIfInBounds]
    rw [show off + (k + 1) = off + k + 1 from by omega, List.take_set, List.take_succ_eq_append_getElem hlt, List.drop_set_of_lt (by omega)]
    rw [List.set_append_right _ _ (by simp; omega)]
    have hl : (List.take (off + k) cells.toList).length = off + k := by rw [List.length_take]; omega
    rw [hl, Nat.sub_self, List.set_cons_zero, List.length_cons]
    simp only [List.append_assoc, List.singleton_append, List.cons_append, List.nil_append]
    rw [show off + k + 1 + vs.length = off + k + (vs.length + 1) from by omega]

theorem fill_zip (v : Value) (off : Nat) (cells : Array Value) : (v.cells.zipIdx.foldl (fun cs (p : Value × Nat) => cs.setIfInBounds (off + p.2) p.1) cells) = ((v.cells.toList.zipIdx 0).foldl (fun cs (p : Value × Nat) => cs.setIfInBounds (off + p.2) p.1) cells) := by
  rw [← Array.foldl_toList]
  simp

section
variable {c : Ctx} {P : Program} {w : World} {ρ : Val}
theorem fillS_fill {place place' : Nat → Option (Nat × Nat)} (hp : ∀ i x, place i = some x → place' i = some x) : ∀ {parts : List (Nat × SV)} {ps : List (Nat × Value)}, PL ρ parts ps → (∀ p ∈ parts, p.2.raw = false) →
    ∀ {l r : List SV} {cells : Array Value}, VL ρ l cells.toList → fillS place l parts = some r → ∃ cs, Instr.fill place' cells ps = some cs ∧ VL ρ r cs.toList
  | [], [], _, _, l, r, cells, hl, h => by
    rw [fillS] at h; injection h with h; subst h
    exact ⟨cells, by rw [Instr.fill], hl⟩
  | (i, s) :: parts, (j, v) :: ps, ⟨hij, hv, hps⟩, hna, l, r, cells, hl, h => by
    subst hij
    rw [fillS] at h
    cases hpl : place i with
    | none => rw [hpl] at h; cases h
    | some x =>
      obtain ⟨off, size⟩ := x
      rw [hpl] at h
      simp only at h
      cases hc : (Nat.beq s.cells.length size && Nat.ble (off + size) l.length) with
      | false => rw [hc] at h; cases h
      | true =>
        rw [hc] at h
        simp only [cond_true] at h
        simp only [Bool.and_eq_true, Nat.beq_eq, Nat.ble_eq] at hc
        obtain ⟨hc1, hc2⟩ := hc
        have hvc := hv.cells (hna (i, s) (by simp))
        have hlen := hvc.length
        have hlen2 := hl.length
        have hsz : v.cells.size = size := by rw [← hc1, hlen]; simp
        have hll : l.length = cells.size := by rw [hlen2]; simp
        rw [Instr.fill, hp i _ hpl]
        simp only
        rw [if_neg (by simp; omega)]
        refine fillS_fill hp hps (fun p hpm => hna p (by simp [hpm])) ?_ h
        have hs := splice_foldl off v.cells.toList 0 cells (by simp; omega)
        have he := fill_zip v off cells
        rw [show (v.cells.zipIdx.foldl (fun cs (x : Value × Nat) => match x with | (c, j) => cs.setIfInBounds (off + j) c) cells) = (v.cells.zipIdx.foldl (fun cs (p : Value × Nat) => cs.setIfInBounds (off + p.2) p.1) cells) from rfl, he, hs]
        simp only [Nat.add_zero, Array.length_toList, hsz]
        exact ((hl.take off).append hvc).append (hl.drop (off + size))
  | [], _ :: _, h, _, _, _, _, _, _ => h.elim
  | (_, _) :: _, [], h, _, _, _, _, _, _ => h.elim
end
end Go.SE

namespace Go.SE
open Go.RowKit

/-- one cell -/
def look1 : Res → Nat → Option (Bool × SV)
  | .cells l _, off => (l[off]?).map fun s => (true, s)
  | .own l _ _, off => (l[off]?).map fun s => (true, s)
  | .ints k l _, off => some (Nat.blt off l.length, .lit (.int k (l.getD off 0)))
  | .owni k l _, off => some (Nat.blt off l.length, .lit (.int k (l.getD off 0)))
  | .mark k l _, off => some (Nat.blt off l.length, .lit (.int k (l.getD off 0)))
  | _, _ => none
/-- several cells -/
def lookN : Res → Nat → Nat → Option (Bool × List SV)
  | .cells l _, off, n => some (Nat.ble (off + n) l.length, (l.drop off).take n)
  | .own l _ _, off, n => some (Nat.ble (off + n) l.length, (l.drop off).take n)
  | .ints k l _, off, n => some (Nat.ble (off + n) l.length, ((l.drop off).take n).map fun x => .lit (.int k x))
  | .owni k l _, off, n => some (Nat.ble (off + n) l.length, ((l.drop off).take n).map fun x => .lit (.int k x))
  | .mark k l _, off, n => some (Nat.ble (off + n) l.length, ((l.drop off).take n).map fun x => .lit (.int k x))
  | _, _, _ => none

/-- the same, for sure -/
def sameV : Value → Value → Bool
  | .bool a, .bool b => eqB a b
  | .int k a, .int k' b => decide (k = k') && eqF a b
  | .string a, .string b => strEq a b
  | .nilIface, .nilIface => true
  | .pointer none, .pointer none => true
  | .slice none a b, .slice none a' b' => Nat.beq a a' && Nat.beq b b'
  | .map none, .map none => true
  | .nilFunc, .nilFunc => true
  | .pointer (some ⟨b, o, none⟩), .pointer (some ⟨b', o', none⟩) => Nat.beq b b' && Nat.beq o o'
  | _, _ => false
def sameFn : Fn → Fn → Bool
  | .func f, .func g => Nat.beq f g
  | _, _ => false
mutual
def SV.same : SV → SV → Bool
  | .lit v, .lit v' => sameV v v'
  | .ptr i o, .ptr j p => Nat.beq i j && Nat.beq o p
  | .slc i o l c, .slc j p m d => Nat.beq i j && (Nat.beq o p && (Nat.beq l m && Nat.beq c d))
  | .own i l, .own j m => Nat.beq i j && Nat.beq l m
  | .ref i, .ref j => Nat.beq i j
  | .agg l, .agg l' => SV.sameL l l'
  | .tup l, .tup l' => SV.sameL l l'
  | .tail i o a l p, .tail j o' a' l' p' => Nat.beq i j && (Nat.beq o o' && (Nat.beq a a' && (Nat.beq l l' && Nat.beq p p')))
  | .fn f a b, .fn g a' b' => sameFn f g && (SV.sameL a a' && SV.sameL b b')
  | .iface t v, .iface t' v' => Nat.beq t t' && SV.same v v'
  | _, _ => false
def SV.sameL : List SV → List SV → Bool
  | [], [] => true
  | x :: l, y :: l' => SV.same x y && SV.sameL l l'
  | _, _ => false
end
theorem sameV_eq {v v' : Value} (h : sameV v v' = true) : v = v' := by
  unfold sameV at h
  split at h <;> try (cases h; done)
  · rw [eqB_eq] at h; simp at h; rw [h]
  · rw [Bool.and_eq_true, eqF_eq, decide_eq_true_iff] at h; simp at h; rw [h.1, h.2]
  · rw [strEq] at h; rw [bytesEq_eq] at h; simp at h
    congr 1
    exact ByteArray.ext h
  · rfl
  · rfl
  · simp at h; rw [h.1, h.2]
  · rfl
  · rfl
  · simp at h; rw [h.1, h.2]
theorem sameFn_eq {f g : Fn} (h : sameFn f g = true) : f = g := by
  unfold sameFn at h
  split at h <;> try (cases h; done)
  rw [Nat.eq_of_beq_eq_true h]
mutual
theorem SV.same_eq : ∀ {x y : SV}, SV.same x y = true → x = y
  | .lit v, .lit v', h => by rw [SV.same] at h; rw [sameV_eq h]
  | .ptr i o, .ptr j p, h => by simp [SV.same] at h; rw [h.1, h.2]
  | .slc i o l c, .slc j p m d, h => by simp [SV.same] at h; rw [h.1, h.2.1, h.2.2.1, h.2.2.2]
  | .own i l, .own j m, h => by simp [SV.same] at h; rw [h.1, h.2]
  | .ref i, .ref j, h => by simp [SV.same] at h; rw [h]
  | .agg l, .agg l', h => by rw [SV.same] at h; rw [SV.sameL_eq h]
  | .tup l, .tup l', h => by rw [SV.same] at h; rw [SV.sameL_eq h]
  | .tail i o a l p, .tail j o' a' l' p', h => by simp [SV.same] at h; rw [h.1, h.2.1, h.2.2.1, h.2.2.2.1, h.2.2.2.2]
  | .fn f a b, .fn g a' b', h => by
    rw [SV.same, Bool.and_eq_true, Bool.and_eq_true] at h
    rw [sameFn_eq h.1, SV.sameL_eq h.2.1, SV.sameL_eq h.2.2]
  | .iface t v, .iface t' v', h => by
    rw [SV.same, Bool.and_eq_true] at h
    rw [Nat.eq_of_beq_eq_true h.1, SV.same_eq h.2]
theorem SV.sameL_eq : ∀ {l l' : List SV}, SV.sameL l l' = true → l = l'
  | [], [], _ => rfl
  | x :: l, y :: l', h => by
    rw [SV.sameL, Bool.and_eq_true] at h
    rw [SV.same_eq h.1, SV.sameL_eq h.2]
end

/-- one cell, of a row that may have grown -/
def deep1 (h : Heap) : Nat → Nat → Nat → Option (Bool × SV)
  | 0, _, _ => none
  | n + 1, i, off => (match h.m.get i with
    | some (_, .was j r) => (match look1 r off, deep1 h n j off with
      | some (b, s), some (b', s') => some (b && (b' && SV.same s s'), s)
      | _, _ => none)
    | some (_, r) => look1 r off
    | none => none)
def deepN (h : Heap) : Nat → Nat → Nat → Nat → Option (Bool × List SV)
  | 0, _, _, _ => none
  | n + 1, i, off, m => (match h.m.get i with
    | some (_, .was j r) => (match lookN r off m, deepN h n j off m with
      | some (b, s), some (b', s') => some (b && (b' && SV.sameL s s'), s)
      | _, _ => none)
    | some (_, r) => lookN r off m
    | none => none)

def loadS (c : Ctx) (t : TypeId) (p : SV) (h : Heap) : Option (Bool × SV) :=
  match p with
  | .ptr i off => (match c.info t, c.und t with
    | some inf, some d => bif isAggD d then (match deepN h 64 i off inf.size with
        | some (b, l) => some (b, .agg l)
        | none => none) else deep1 h 64 i off
    | _, _ => none)
  | _ => none

/-- cells from a place on are turned -/
def splice (l : List SV) (off : Nat) (vs : List SV) : List SV := l.take off ++ (vs ++ l.drop (off + vs.length))
def putRes : Res → Nat → List SV → Option (Bool × Res)
  | .cells l E, off, vs => some (Nat.ble (off + vs.length) l.length && vs.all SV.one, .cells (splice l off vs) E)
  | .own l E sz, off, vs => some (Nat.ble (off + vs.length) l.length && vs.all SV.one, .own (splice l off vs) E sz)
  | .ints k l E, _, [] => some (true, .ints k l E)
  | .owni k l E, _, [] => some (true, .owni k l E)
  | .ints k l E, off, [v] => (match v.int? with
    | some (k', n) => if k' = k then some (Nat.blt off l.length, .ints k (l.set off n) E) else none
    | none => none)
  | .owni k l E, off, [v] => (match v.int? with
    | some (k', n) => if k' = k then some (Nat.blt off l.length, .owni k (l.set off n) E) else none
    | none => none)
  | _, _, _ => none

def storeS (c : Ctx) (t : TypeId) (p v : SV) (h : Heap) : Option (Bool × Heap) :=
  match p with
  | .ptr i off => (match h.m.get i, c.info t with
    | some (true, r), some inf => bif Nat.beq v.cells.length inf.size then (match putRes r off v.cells with
        | some (b, r') => some (b, ⟨h.n, h.m.set i (true, r')⟩)
        | none => none) else none
    | _, _ => none)
  | _ => none

theorem cell_at {w : World} {b off : Nat} {cs : Array Value} {E : TypeId} {fz : Nat × Nat} (h : w.heap[b]? = some (.cells cs E fz)) : w.cell? ⟨b, off, none⟩ = cs[off]? := by
  simp [World.cell?, h]

section
variable {c : Ctx} {P : Program} {w : World} {ρ : Val}
theorem look1_cell {b cp : Nat} {r : Res} (hr : Holds ρ b cp w r) {off : Nat} {s : SV} (h : look1 r off = some (true, s)) : ∃ v, w.cell? ⟨b, off, none⟩ = some v ∧ V ρ s v := by
  cases r with
  | cells l E =>
    obtain ⟨cs, h1, h2⟩ := hr
    simp only [look1, Option.map_eq_some_iff, Prod.mk.injEq, true_and] at h
    obtain ⟨s', hs, rfl⟩ := h
    obtain ⟨v, hv, hV⟩ := h2.get hs
    exact ⟨v, by rw [cell_at h1]; simpa using hv, hV⟩
  | own l E sz =>
    obtain ⟨cs, h1, _, _, _, h2⟩ := hr
    simp only [look1, Option.map_eq_some_iff, Prod.mk.injEq, true_and] at h
    obtain ⟨s', hs, rfl⟩ := h
    obtain ⟨v, hv, hV⟩ := h2.get hs
    refine ⟨v, ?_, hV⟩
    rw [cell_at h1]
    rw [List.getElem?_take] at hv
    split at hv
    · simpa using hv
    · cases hv
  | ints k l E =>
    obtain ⟨cs, h1, h2⟩ := hr
    simp only [look1, Option.some.injEq, Prod.mk.injEq, Nat.blt_eq] at h
    obtain ⟨hlt, rfl⟩ := h
    refine ⟨_, ?_, rfl⟩
    rw [cell_at h1]
    have : cs[off]? = cs.toList[off]? := by simp
    rw [this, h2, List.getElem?_map, List.getElem?_eq_getElem hlt, List.getD_eq_getElem?_getD, List.getElem?_eq_getElem hlt]
    rfl
  | owni k l E =>
    obtain ⟨cs, h1, _, _, _, h2⟩ := hr
    simp only [look1, Option.some.injEq, Prod.mk.injEq, Nat.blt_eq] at h
    obtain ⟨hlt, rfl⟩ := h
    refine ⟨_, ?_, rfl⟩
    rw [cell_at h1]
    have : (cs.toList.take l.length)[off]? = cs[off]? := by rw [List.getElem?_take, if_pos hlt]; simp
    rw [← this, h2, List.getElem?_map, List.getElem?_eq_getElem hlt, List.getD_eq_getElem?_getD, List.getElem?_eq_getElem hlt]
    rfl
  | mark k l E =>
    obtain ⟨cs, fz, h1, _, h2⟩ := hr
    simp only [look1, Option.some.injEq, Prod.mk.injEq, Nat.blt_eq] at h
    obtain ⟨hlt, rfl⟩ := h
    refine ⟨_, ?_, rfl⟩
    rw [cell_at h1]
    have : (cs.toList.take l.length)[off]? = cs[off]? := by rw [List.getElem?_take, if_pos hlt]; simp
    rw [← this, h2, List.getElem?_map, List.getElem?_eq_getElem hlt, List.getD_eq_getElem?_getD, List.getElem?_eq_getElem hlt]
    rfl
  | map es cl => cases h
  | gone => cases h
  | was _ _ => cases h
  | iter _ _ _ _ => cases h
  | obj o => cases h

theorem lookN_cells {b cp : Nat} {r : Res} (hr : Holds ρ b cp w r) {off n : Nat} {l : List SV} (h : lookN r off n = some (true, l)) :
    ∃ vs : List Value, vs.length = n ∧ VL ρ l vs ∧ ∀ j v, vs[j]? = some v → w.cell? ⟨b, off + j, none⟩ = some v := by
  have key : ∀ (cs : Array Value) (E : TypeId) (fz : Nat × Nat), w.heap[b]? = some (.cells cs E fz) → ∀ j v, ((cs.toList.drop off).take n)[j]? = some v → w.cell? ⟨b, off + j, none⟩ = some v := by
    intro cs E fz h1 j v hj
    rw [cell_at h1]
    rw [List.getElem?_take] at hj
    split at hj
    · rw [List.getElem?_drop] at hj; simpa using hj
    · cases hj
  cases r with
  | cells l' E =>
    obtain ⟨cs, h1, h2⟩ := hr
    simp only [lookN, Option.some.injEq, Prod.mk.injEq, Nat.ble_eq] at h
    obtain ⟨hle, rfl⟩ := h
    have hl := h2.length
    refine ⟨(cs.toList.drop off).take n, ?_, (h2.drop off).take n, key cs E _ h1⟩
    rw [List.length_take, List.length_drop]; omega
  | own l' E sz =>
    obtain ⟨cs, h1, _, h3, _, h2⟩ := hr
    simp only [lookN, Option.some.injEq, Prod.mk.injEq, Nat.ble_eq] at h
    obtain ⟨hle, rfl⟩ := h
    refine ⟨((cs.toList.take l'.length).drop off).take n, ?_, (h2.drop off).take n, fun j v hj => ?_⟩
    · rw [List.length_take, List.length_drop, List.length_take]; simp only [Array.length_toList]; omega
    · refine key cs E _ h1 j v ?_
      rw [List.getElem?_take] at hj ⊢
      split at hj
      · rename_i hjn
        rw [if_pos hjn]
        rw [List.getElem?_drop, List.getElem?_take] at hj
        split at hj
        · rw [List.getElem?_drop]; exact hj
        · cases hj
      · cases hj
  | ints k l' E =>
    obtain ⟨cs, h1, h2⟩ := hr
    simp only [lookN, Option.some.injEq, Prod.mk.injEq, Nat.ble_eq] at h
    obtain ⟨hle, rfl⟩ := h
    refine ⟨(cs.toList.drop off).take n, ?_, ?_, key cs E _ h1⟩
    · rw [h2, List.length_take, List.length_drop, List.length_map]; omega
    · rw [h2, ← List.map_drop, ← List.map_take]
      generalize (List.take n (List.drop off l')) = q
      induction q with
      | nil => exact trivial
      | cons x q ih => exact ⟨rfl, ih⟩
  | owni k l' E =>
    obtain ⟨cs, h1, _, h3, _, h2⟩ := hr
    simp only [lookN, Option.some.injEq, Prod.mk.injEq, Nat.ble_eq] at h
    obtain ⟨hle, rfl⟩ := h
    have he : (cs.toList.drop off).take n = ((cs.toList.take l'.length).drop off).take n := by
      rw [List.drop_take, List.take_take, Nat.min_eq_left (by omega)]
    refine ⟨(cs.toList.drop off).take n, ?_, ?_, key cs E _ h1⟩
    · rw [List.length_take, List.length_drop]; simp only [Array.length_toList]; omega
    · rw [he, h2, ← List.map_drop, ← List.map_take]
      generalize (List.take n (List.drop off l')) = q
      induction q with
      | nil => exact trivial
      | cons x q ih => exact ⟨rfl, ih⟩
  | mark k l' E =>
    obtain ⟨cs, fz, h1, h3, h2⟩ := hr
    simp only [lookN, Option.some.injEq, Prod.mk.injEq, Nat.ble_eq] at h
    obtain ⟨hle, rfl⟩ := h
    have he : (cs.toList.drop off).take n = ((cs.toList.take l'.length).drop off).take n := by
      rw [List.drop_take, List.take_take, Nat.min_eq_left (by omega)]
    refine ⟨(cs.toList.drop off).take n, ?_, ?_, key cs E _ h1⟩
    · rw [List.length_take, List.length_drop]; simp only [Array.length_toList]; omega
    · rw [he, h2, ← List.map_drop, ← List.map_take]
      generalize (List.take n (List.drop off l')) = q
      induction q with
      | nil => exact trivial
      | cons x q ih => exact ⟨rfl, ih⟩
  | map es cl => cases h
  | gone => cases h
  | was _ _ => cases h
  | iter _ _ _ _ => cases h
  | obj o => cases h

theorem deep1_cell {e : Env} {h : Heap} (H : Rel e ρ h w) : ∀ (n i off : Nat) {s : SV} {b cp : Nat}, deep1 h n i off = some (true, s) → ρ i = some (b, cp) → ∃ v, w.cell? ⟨b, off, none⟩ = some v ∧ V ρ s v
  | 0, _, _, _, _, _, hl, _ => by cases hl
  | n + 1, i, off, s, b, cp, hl, hρ => by
    rw [deep1] at hl
    split at hl
    · rename_i x j r hi
      split at hl <;> try (cases hl; done)
      rename_i b1 s1 b2 s2 h1 h2
      simp only [Option.some.injEq, Prod.mk.injEq, Bool.and_eq_true] at hl
      obtain ⟨⟨rfl, rfl, hs⟩, rfl⟩ := hl
      obtain ⟨b', c', g1, g2, g3, g4⟩ := H.was i x j r hi
      rw [hρ] at g1; injection g1 with g1; injection g1 with e1 e2; subst e1; subst e2
      rcases g4 with ⟨cj, g4⟩ | ⟨g4, g5⟩
      · obtain ⟨v, hv, hV⟩ := deep1_cell H n j off h2 g4
        exact ⟨v, hv, by rw [SV.same_eq hs]; exact hV⟩
      · exact look1_cell g4 h1
    · rename_i x r hnw hi
      have hlv : r.live = true := by
        cases r <;> first | rfl | (exfalso; simp [look1] at hl)
      obtain ⟨b', cp', hρ', hr, _⟩ := H.holds i x r hi hlv
      rw [hρ] at hρ'; injection hρ' with hρ'; injection hρ' with e1 e2; subst e1; subst e2
      exact look1_cell hr hl
    · cases hl
theorem deepN_cells {e : Env} {h : Heap} (H : Rel e ρ h w) : ∀ (n i off m : Nat) {l : List SV} {b cp : Nat}, deepN h n i off m = some (true, l) → ρ i = some (b, cp) → ∃ vs : List Value, vs.length = m ∧ VL ρ l vs ∧ ∀ j v, vs[j]? = some v → w.cell? ⟨b, off + j, none⟩ = some v
  | 0, _, _, _, _, _, _, hl, _ => by cases hl
  | n + 1, i, off, m, s, b, cp, hl, hρ => by
    rw [deepN] at hl
    split at hl
    · rename_i x j r hi
      split at hl <;> try (cases hl; done)
      rename_i b1 s1 b2 s2 h1 h2
      simp only [Option.some.injEq, Prod.mk.injEq, Bool.and_eq_true] at hl
      obtain ⟨⟨rfl, rfl, hs⟩, rfl⟩ := hl
      obtain ⟨b', c', g1, g2, g3, g4⟩ := H.was i x j r hi
      rw [hρ] at g1; injection g1 with g1; injection g1 with e1 e2; subst e1; subst e2
      rcases g4 with ⟨cj, g4⟩ | ⟨g4, g5⟩
      · obtain ⟨vs, hv, hV, hc⟩ := deepN_cells H n j off m h2 g4
        exact ⟨vs, hv, by rw [SV.sameL_eq hs]; exact hV, hc⟩
      · exact lookN_cells g4 h1
    · rename_i x r hnw hi
      have hlv : r.live = true := by
        cases r <;> first | rfl | (exfalso; simp [lookN] at hl)
      obtain ⟨b', cp', hρ', hr, _⟩ := H.holds i x r hi hlv
      rw [hρ] at hρ'; injection hρ' with hρ'; injection hρ' with e1 e2; subst e1; subst e2
      exact lookN_cells hr hl
    · cases hl

theorem run_loadS {e : Env} {h : Heap} (K : c.Ok P) (H : Rel e ρ h w) {t : TypeId} {p s : SV} (hl : loadS c t p h = some (true, s)) {vp : Value} (hp : V ρ p vp) : ∃ v, (Instr.loadAt t vp).run P w = .ok v w ∧ V ρ s v := by
  unfold loadS at hl
  split at hl <;> try (cases hl; done)
  rename_i i off
  obtain ⟨b, cp, hρ, rfl⟩ := hp
  split at hl <;> try (cases hl; done)
  rename_i inf d hinf hu
  have hag : c.agg t = isAggD d := by unfold Ctx.agg; rw [hu]
  have ha := run_isAgg (w := w) K.toOk0 hu
  cases hd : isAggD d with
  | true =>
    rw [hd] at hl
    simp only [cond_true] at hl
    split at hl <;> try (cases hl; done)
    rename_i bb l hlk
    simp only [Option.some.injEq, Prod.mk.injEq] at hl
    obtain ⟨rfl, rfl⟩ := hl
    obtain ⟨vs, hn, hV, hc⟩ := deepN_cells H 64 i off inf.size hlk hρ
    refine ⟨.agg vs.toArray, ?_, vs.toArray, rfl, by simpa using hV⟩
    have hld := run_loadCells_list (P := P) w ⟨b, off, none⟩ vs (fun j v hv => by rw [Addr_add]; exact hc j v hv)
    rw [hn] at hld
    simp only [Instr.loadAt, Instr.sureAddr, loadVar, Sem.run_bind, Sem.run_pure, Result.andThen_ok, ha, hag, hd, if_true, run_sizeOf w (K.info hinf), cellsOf_eq K.toOk0 hinf, hld]
  | false =>
    rw [hd] at hl
    simp only [cond_false] at hl
    obtain ⟨v, hv, hV⟩ := deep1_cell H 64 i off hl hρ
    refine ⟨v, ?_, hV⟩
    simp only [Instr.loadAt, Instr.sureAddr, loadVar, Sem.run_bind, Sem.run_pure, Result.andThen_ok, ha, hag, hd, Bool.false_eq_true, if_false]
    simp [hv]

theorem one_of {s : SV} {v : Value} (h : V ρ s v) (hs : s.one = true) : v.oneCell' = true := by
  cases s with
  | lit x => cases h; cases v <;> first | rfl | (cases hs; done)
  | agg l => cases hs
  | tup l => cases hs
  | any => cases hs
  | _ =>
    simp only [V] at h
    first
      | (obtain ⟨_, _, _, rfl⟩ := h; rfl)
      | (obtain ⟨_, _, _, rfl, _⟩ := h; rfl)
      | (obtain ⟨_, _, rfl, _⟩ := h; rfl)
      | (obtain ⟨_, rfl, _⟩ := h; rfl)
theorem ones_of : ∀ {l : List SV} {vs : List Value}, VL ρ l vs → l.all SV.one = true → ∀ v ∈ vs, v.oneCell' = true
  | [], [], _, _ => fun v h => by cases h
  | s :: l, v :: vs, ⟨h1, h2⟩, ha => by
    rw [List.all_cons, Bool.and_eq_true] at ha
    intro u hu
    rcases List.mem_cons.1 hu with rfl | hu
    · exact one_of h1 ha.1
    · exact ones_of h2 ha.2 u hu
  | [], _ :: _, h, _ => h.elim
  | _ :: _, [], h, _ => h.elim

theorem putRes_store {b cp : Nat} {r r' : Res} (hr : Holds ρ b cp w r) {off : Nat} {vs : List SV} (h : putRes r off vs = some (true, r')) {us : List Value} (hv : VL ρ vs us) :
    ∃ w', (storeCells ⟨b, off, none⟩ us).run P w = .ok () w' ∧ Holds ρ b cp w' r' ∧ w'.os = w.os ∧ w'.tape = w.tape ∧ w'.output = w.output ∧ w'.heap.size = w.heap.size ∧ ∀ k, k ≠ b → w'.heap[k]? = w.heap[k]? := by
  have key : ∀ (cs : Array Value) (E : TypeId), w.heap[b]? = some (.cells cs E (0, 0)) → off + us.length ≤ cs.size → (∀ v ∈ us, v.oneCell' = true) →
      ∃ w', (storeCells ⟨b, off, none⟩ us).run P w = .ok () w' ∧ w'.heap[b]? = some (.cells (cs.toList.take off ++ us ++ cs.toList.drop (off + us.length)).toArray E (0, 0)) ∧
        w'.os = w.os ∧ w'.tape = w.tape ∧ w'.output = w.output ∧ w'.heap.size = w.heap.size ∧ ∀ k, k ≠ b → w'.heap[k]? = w.heap[k]? := by
    intro cs E h1 h2 h3
    have hrun := run_storeCells_at P b off E us 0 cs w h1 (by omega) h3
    simp only [Nat.add_zero] at hrun
    exact ⟨_, hrun, setRow_heap w b cs _ E _ h1, rfl, rfl, rfl, by simp, fun k hk => setRow_other w b k _ hk⟩
  have hlen := hv.length
  have HR := hr
  cases r with
  | cells l E =>
    obtain ⟨cs, h1, h2⟩ := hr
    simp only [putRes, Option.some.injEq, Prod.mk.injEq, Bool.and_eq_true, Nat.ble_eq] at h
    obtain ⟨⟨hle, hone⟩, rfl⟩ := h
    have hl := h2.length
    obtain ⟨w', g1, g2, g3⟩ := key cs E h1 (by rw [← hlen]; simp only [Array.length_toList] at hl; omega) (ones_of hv hone)
    refine ⟨w', g1, ⟨_, g2, ?_⟩, g3⟩
    simp only [splice, List.append_assoc]
    rw [← hlen]
    exact (h2.take off).append (hv.append (h2.drop _))
  | own l E sz =>
    obtain ⟨cs, h1, h3, h4, h5, h2⟩ := hr
    simp only [putRes, Option.some.injEq, Prod.mk.injEq, Bool.and_eq_true, Nat.ble_eq] at h
    obtain ⟨⟨hle, hone⟩, rfl⟩ := h
    obtain ⟨w', g1, g2, g3⟩ := key cs E h1 (by omega) (ones_of hv hone)
    refine ⟨w', g1, ⟨_, g2, ?_, ?_, h5, ?_⟩, g3⟩
    · simp only [List.size_toArray, List.length_append, List.length_take, List.length_drop, Array.length_toList]; omega
    · simp only [splice, List.size_toArray, List.length_append, List.length_take, List.length_drop, Array.length_toList]; omega
    · have hsl : (splice l off vs).length = l.length := by simp only [splice, List.length_append, List.length_take, List.length_drop]; omega
      rw [hsl]
      have he : List.take l.length (cs.toList.take off ++ us ++ cs.toList.drop (off + us.length)) = (cs.toList.take l.length).take off ++ (us ++ (cs.toList.take l.length).drop (off + us.length)) := by
        rw [List.take_append, List.take_append, List.take_take, List.take_take, List.append_assoc, List.drop_take]
        simp only [List.length_append, List.length_take, Array.length_toList]
        rw [show min l.length off = min off l.length from Nat.min_comm _ _, show min off cs.size = off from by omega]
        rw [List.take_of_length_le (l := us) (by omega)]
      simp only [List.toList_toArray]
      rw [he]
      simp only [splice]
      rw [← hlen]
      exact (h2.take off).append (hv.append (h2.drop _))
  | ints k l E =>
    obtain ⟨cs, h1, h2⟩ := hr
    cases vs with
    | nil =>
      simp only [putRes, Option.some.injEq, Prod.mk.injEq, true_and] at h
      subst h
      match us, hv with
      | [], _ => exact ⟨w, rfl, HR, rfl, rfl, rfl, rfl, fun _ _ => rfl⟩
    | cons v vs =>
      cases vs with
      | cons _ _ => cases h
      | nil =>
        simp only [putRes] at h
        split at h <;> try (cases h; done)
        rename_i k' n hn
        split at h <;> try (cases h; done)
        rename_i hk; subst hk
        simp only [Option.some.injEq, Prod.mk.injEq, Nat.blt_eq] at h
        obtain ⟨hlt, rfl⟩ := h
        match us, hv with
        | [u], ⟨hu, _⟩ =>
          rw [SV.int?_eq hn] at hu; cases hu
          have hsz : cs.size = l.length := by rw [← Array.length_toList, h2, List.length_map]
          obtain ⟨w', g1, g2, g3⟩ := key cs E h1 (by simp only [List.length_cons, List.length_nil]; omega) (by intro v hv; simp at hv; subst hv; rfl)
          refine ⟨w', g1, ⟨_, g2, ?_⟩, g3⟩
          simp only [List.length_cons, List.length_nil, Nat.zero_add]
          rw [h2, List.map_set, List.set_eq_take_append_cons_drop, if_pos (by simpa using hlt)]
          simp
  | owni k l E =>
    obtain ⟨cs, h1, h3, h4, h5, h2⟩ := hr
    cases vs with
    | nil =>
      simp only [putRes, Option.some.injEq, Prod.mk.injEq, true_and] at h
      subst h
      match us, hv with
      | [], _ => exact ⟨w, rfl, HR, rfl, rfl, rfl, rfl, fun _ _ => rfl⟩
    | cons v vs =>
      cases vs with
      | cons _ _ => cases h
      | nil =>
        simp only [putRes] at h
        split at h <;> try (cases h; done)
        rename_i k' n hn
        split at h <;> try (cases h; done)
        rename_i hk; subst hk
        simp only [Option.some.injEq, Prod.mk.injEq, Nat.blt_eq] at h
        obtain ⟨hlt, rfl⟩ := h
        match us, hv with
        | [u], ⟨hu, _⟩ =>
          rw [SV.int?_eq hn] at hu; cases hu
          obtain ⟨w', g1, g2, g3⟩ := key cs E h1 (by simp only [List.length_cons, List.length_nil]; omega) (by intro v hv; simp at hv; subst hv; rfl)
          refine ⟨w', g1, ⟨_, g2, ?_, ?_, h5, ?_⟩, g3⟩
          · simp only [List.size_toArray, List.length_append, List.length_take, List.length_drop, Array.length_toList, List.length_cons, List.length_nil]; omega
          · simp only [List.size_toArray, List.length_append, List.length_take, List.length_drop, Array.length_toList, List.length_cons, List.length_nil, List.length_set]; omega
          · have e1 : (cs.toList.take off ++ [Value.int k' n] ++ cs.toList.drop (off + [Value.int k' n].length)) = cs.toList.set off (Value.int k' n) := by
              rw [List.set_eq_take_append_cons_drop, if_pos (by simp only [Array.length_toList]; omega)]; simp
            rw [e1, List.length_set]
            simp only [List.toList_toArray]
            rw [List.take_set, h2, List.map_set]
  | mark k l E => cases h
  | map es cl => cases h
  | gone => cases h
  | was _ _ => cases h
  | iter _ _ _ _ => cases h
  | obj o => cases h

theorem run_storeS {e : Env} {h h' : Heap} (K : c.Ok P) (H : Rel e ρ h w) {t : TypeId} {p s : SV} (hs : storeS c t p s h = some (true, h')) (hna : s.raw = false) {vp v : Value} (hp : V ρ p vp) (hv : V ρ s v) :
    ∃ w', (Instr.storeAt t vp v).run P w = .ok () w' ∧ Rel e ρ h' w' := by
  unfold storeS at hs
  split at hs <;> try (cases hs; done)
  rename_i i off
  obtain ⟨b, cp, hρ, rfl⟩ := hp
  split at hs <;> try (cases hs; done)
  rename_i r inf hi hinf
  cases hb : Nat.beq s.cells.length inf.size with
  | false => rw [hb] at hs; cases hs
  | true =>
    rw [hb] at hs
    simp only [cond_true] at hs
    split at hs <;> try (cases hs; done)
    rename_i bb r' hpr
    simp only [Option.some.injEq, Prod.mk.injEq] at hs
    obtain ⟨rfl, rfl⟩ := hs
    have hlv : r.live = true := by cases r <;> first | rfl | (cases hpr; done)
    obtain ⟨b', cp', hρ', hr, _⟩ := H.holds i true r hi hlv
    rw [hρ] at hρ'; injection hρ' with hρ'; injection hρ' with e1 e2; subst e1; subst e2
    have hvc := hv.cells hna
    obtain ⟨w', g1, g2, g3, g4, g5, g6, g7⟩ := putRes_store (P := P) hr hpr hvc
    refine ⟨w', ?_, H.turn i r r' b cp hi hlv hρ g3 g4 g5 g6 g7 (Or.inl g2)⟩
    have hsz : v.cells.size = inf.size := by
      have := hvc.length
      rw [Nat.beq_eq] at hb
      rw [← hb, this]; simp
    simp [Instr.storeAt, Instr.sureAddr, storeVar, run_sizeOf w (K.info hinf), cellsOf_eq K.toOk0 hinf, hsz, g1]
end
end Go.SE

namespace Go.SE
open Go.RowKit

/-- What an operation comes to. -/
inductive Out where
  | bad
  | val (s : SV) (h : Heap)
  | need (b : Bool) (o : Out)
  | br (b : Bool) (t f : Out)

def Out.holds (Q : SV → Heap → Prop) : Out → Prop
  | .bad => False
  | .val s h => Q s h
  | .need b o => b = true ∧ o.holds Q
  | .br b t f => (b = true → t.holds Q) ∧ (b = false → f.holds Q)

theorem Out.holds_mono {Q R : SV → Heap → Prop} (hq : ∀ s h, Q s h → R s h) : ∀ {o : Out}, o.holds Q → o.holds R
  | .bad, h => h
  | .val _ _, h => hq _ _ h
  | .need _ o, ⟨h1, h2⟩ => ⟨h1, Out.holds_mono hq (o := o) h2⟩
  | .br _ t f, ⟨h1, h2⟩ => ⟨fun h => Out.holds_mono hq (o := t) (h1 h), fun h => Out.holds_mono hq (o := f) (h2 h)⟩

def Heap.put (h : Heap) (i : Nat) (r : Res) : Heap := ⟨max h.n (i + 1), h.m.set i (true, r)⟩
def Heap.turn (h : Heap) (i : Nat) (r : Res) : Heap := ⟨h.n, h.m.set i (true, r)⟩
/-- nothing lies there yet -/
def Heap.free (h : Heap) (i : Nat) : Bool := Nat.ble h.n i

/-- what has come of a run -/
def Came (P : Program) (e : Env) (ρ : Val) (w : World) (act : Sem Value) (Q : SV → Heap → Prop) : Prop :=
  ∃ v w' s h' ρ', act.run P w = .ok v w' ∧ ρ.le ρ' ∧ Rel e ρ' h' w' ∧ V ρ' s v ∧ Q s h'

theorem Came.of_pure {P : Program} {e : Env} {ρ : Val} {h : Heap} {w : World} {act : Sem Value} {Q : SV → Heap → Prop} {s : SV} (H : Rel e ρ h w) (hq : Q s h)
    (hr : ∃ v, act.run P w = .ok v w ∧ V ρ s v) : Came P e ρ w act Q := by
  obtain ⟨v, hv, hV⟩ := hr
  exact ⟨v, w, s, h, ρ, hv, Val.le.refl ρ, H, hV, hq⟩

section
variable {c : Ctx} {P : Program} {e : Env} {ρ : Val} {h : Heap} {w : World}

theorem Rel.none_of_free (H : Rel e ρ h w) {i : Nat} (hi : h.free i = true) : ρ i = none ∧ h.m.get i = none := H.fresh i (by simpa [Heap.free] using hi)

/-- a new block of cells -/
theorem Rel.newCells (H : Rel e ρ h w) {i : Nat} (hi : h.free i = true) (cs : Array Value) (E : TypeId) (cp : Nat) (r : Res) (hr : ∀ ρ' w', ρ.le ρ' → w'.heap[w.heap.size]? = some (.cells cs E (0, 0)) → Holds ρ' w.heap.size cp w' r) :
    ρ.le (ρ.put i w.heap.size cp) ∧ Rel e (ρ.put i w.heap.size cp) (h.put i r) (w.alloc (.cells cs E)) := by
  obtain ⟨h1, h2⟩ := H.none_of_free hi
  exact ⟨Val.le_put _ _ h1, H.alloc _ r cp i h1 h2 hr⟩

/-- a block that no live entry speaks of is taken in -/
theorem Rel.adopt (H : Rel e ρ h w) {i : Nat} (hi : h.free i = true) {b cp : Nat} {r : Res} (hb : e.w0.heap.size ≤ b ∨ e.mine b)
    (hap : ∀ j s b' c', h.m.get j = some (true, s) → s.live = true → ρ j = some (b', c') → b' ≠ b) (hwas : ∀ k x j q b' c', h.m.get k = some (x, .was j q) → ρ k = some (b', c') → (∃ cj, ρ j = some (b', cj)) ∨ b' ≠ b) (hr : Holds ρ b cp w r) :
    ρ.le (ρ.put i b cp) ∧ Rel e (ρ.put i b cp) (h.put i r) w := by
  obtain ⟨h1, h2⟩ := H.none_of_free hi
  have hle := Val.le_put b cp h1
  refine ⟨hle, H.kept, ?_, ?_, ?_, ?_⟩
  · intro j hj
    have hj' : max h.n (i + 1) ≤ j := hj
    have hji : j ≠ i := by omega
    refine ⟨?_, ?_⟩
    · unfold Val.put; rw [if_neg hji]; exact (H.fresh j (by omega)).1
    · show (h.m.set i _).get j = none
      rw [T.get_set, if_neg hji]; exact (H.fresh j (by omega)).2
  · intro j x s hj hlv
    have hj' : (h.m.set i (true, r)).get j = some (x, s) := hj
    rw [T.get_set] at hj'
    by_cases hji : j = i
    · subst hji
      rw [if_pos rfl] at hj'
      injection hj' with hj'; injection hj' with g1 g2; subst g1; subst g2
      exact ⟨b, cp, Val.put_self _ _ _ _, Holds.mono hle (w := w) rfl hr, by rw [if_pos rfl]; exact hb⟩
    · rw [if_neg hji] at hj'
      obtain ⟨b', c', g1, g2, g3⟩ := H.holds j x s hj' hlv
      exact ⟨b', c', hle _ _ g1, Holds.mono hle (w := w) rfl g2, g3⟩
  · intro j k r1 s1 b1 c1 b2 c2 hjk hj hk hl1 hl2 hb1 hb2
    have hj' : (h.m.set i (true, r)).get j = some (true, r1) := hj
    have hk' : (h.m.set i (true, r)).get k = some (true, s1) := hk
    rw [T.get_set] at hj' hk'
    by_cases hji : j = i
    · subst hji
      rw [if_neg (Ne.symm hjk)] at hk'
      rw [Val.put_self] at hb1; injection hb1 with hb1; injection hb1 with e1 e2
      unfold Val.put at hb2; rw [if_neg (Ne.symm hjk)] at hb2
      intro he
      exact hap k s1 b2 c2 hk' hl2 hb2 (by omega)
    · rw [if_neg hji] at hj'
      unfold Val.put at hb1; rw [if_neg hji] at hb1
      by_cases hki : k = i
      · subst hki
        rw [Val.put_self] at hb2; injection hb2 with hb2; injection hb2 with e1 e2
        intro he
        exact hap j r1 b1 c1 hj' hl1 hb1 (by omega)
      · rw [if_neg hki] at hk'
        unfold Val.put at hb2; rw [if_neg hki] at hb2
        exact H.apart j k r1 s1 b1 c1 b2 c2 hjk hj' hk' hl1 hl2 hb1 hb2
  · intro k x j q hk
    have hk' : (h.m.set i (true, r)).get k = some (x, .was j q) := hk
    rw [T.get_set] at hk'
    by_cases hki : k = i
    · rw [if_pos hki] at hk'; injection hk' with hk'; injection hk' with _ g2; rw [g2] at hr; exact hr.elim
    · rw [if_neg hki] at hk'
      obtain ⟨b1, c1, g1, g2, g3, g4⟩ := H.was k x j q hk'
      refine ⟨b1, c1, hle _ _ g1, g2, g3, ?_⟩
      have alias : (∃ cj, ρ j = some (b1, cj)) → ∃ cj, (ρ.put i b cp) j = some (b1, cj) := fun ⟨cj, g⟩ => ⟨cj, hle _ _ g⟩
      rcases g4 with g4 | ⟨g4, g5⟩
      · exact Or.inl (alias g4)
      · rcases hwas k x j q b1 c1 hk' g1 with g6 | g6
        · exact Or.inl (alias g6)
        · refine Or.inr ⟨Holds.mono hle (w := w) rfl g4, fun m r1 b' c' hm hl hρ => ?_⟩
          have hm' : (h.m.set i (true, r)).get m = some (true, r1) := hm
          rw [T.get_set] at hm'
          unfold Val.put at hρ
          by_cases hmi : m = i
          · rw [if_pos hmi] at hρ; injection hρ with hρ; injection hρ with e1 e2; omega
          · rw [if_neg hmi] at hm' hρ; exact g5 m r1 b' c' hm' hl hρ

/-- an entry that another took over is kept as what it was -/
theorem Rel.retire {i idx : Nat} {r' q : Res} {b cp : Nat} (H : Rel e ρ ((h.turn i .gone).put idx r') w) (hne : i ≠ idx) (hn : i < h.n) (hρ : ρ i = some (b, cp)) (hb : b < w.heap.size) (hm : e.w0.heap.size ≤ b ∨ e.mine b)
    (hcase : (∃ cj, ρ idx = some (b, cj)) ∨ (Holds ρ b cp w q ∧ OffOwn ρ ((h.turn i .gone).put idx r') b)) : Rel e ρ ((h.turn i (.was idx q)).put idx r') w := by
  have get : ∀ k, ((h.turn i (.was idx q)).put idx r').m.get k = if k = i then some (true, .was idx q) else ((h.turn i .gone).put idx r').m.get k := by
    intro k
    show ((h.m.set i (true, .was idx q)).set idx (true, r')).get k = if k = i then _ else ((h.m.set i (true, .gone)).set idx (true, r')).get k
    rw [T.get_set, T.get_set, T.get_set, T.get_set]
    by_cases h1 : k = i
    · subst h1; rw [if_neg hne, if_pos rfl, if_pos rfl]
    · rw [if_neg h1, if_neg h1, if_neg h1]
  have own : ∀ k x s, ((h.turn i (.was idx q)).put idx r').m.get k = some (x, s) → s.live = true → ((h.turn i .gone).put idx r').m.get k = some (x, s) := by
    intro k x s hk hl
    rw [get] at hk
    by_cases h1 : k = i
    · rw [if_pos h1] at hk; injection hk with hk; injection hk with _ h2; subst h2; cases hl
    · rw [if_neg h1] at hk; exact hk
  refine ⟨H.kept, fun k hk => ?_, fun k x s hk hl => H.holds k x s (own k x s hk hl) hl, fun j k r1 s1 b1 c1 b2 c2 hjk hj hk hl1 hl2 => H.apart j k r1 s1 b1 c1 b2 c2 hjk (own j _ _ hj hl1) (own k _ _ hk hl2) hl1 hl2, fun k x j s hk => ?_⟩
  · have hk' : max h.n (idx + 1) ≤ k := hk
    refine ⟨(H.fresh k hk).1, ?_⟩
    rw [get, if_neg (by omega)]
    exact (H.fresh k hk).2
  · have off : ∀ b', OffOwn ρ ((h.turn i .gone).put idx r') b' → OffOwn ρ ((h.turn i (.was idx q)).put idx r') b' := fun b' ho m r1 b1 c1 hm hl => ho m r1 b1 c1 (own m _ _ hm hl) hl
    rw [get] at hk
    by_cases h1 : k = i
    · subst h1
      rw [if_pos rfl] at hk
      injection hk with hk; injection hk with _ h2; injection h2 with h3 h4
      subst h3; subst h4
      exact ⟨b, cp, hρ, hb, hm, hcase.imp id (fun ⟨g1, g2⟩ => ⟨g1, off b g2⟩)⟩
    · rw [if_neg h1] at hk
      obtain ⟨b1, c1, g1, g2, g3, g4⟩ := H.was k x j s hk
      exact ⟨b1, c1, g1, g2, g3, g4.imp id (fun ⟨g5, g6⟩ => ⟨g5, off b1 g6⟩)⟩

/-- an entry is given up -/
theorem Rel.drop (H : Rel e ρ h w) {i : Nat} {r : Res} (hi : h.m.get i = some (true, r)) (hl : r.live = true) : Rel e ρ (h.turn i .gone) w := by
  obtain ⟨b, cp, h1, _, _⟩ := H.holds i true r hi hl
  exact H.turn i r .gone b cp hi hl h1 rfl rfl rfl rfl (fun _ _ => rfl) (Or.inr rfl)
end

/-! a new variable -/
def zeroS (c : Ctx) (t : TypeId) : Option SV := match c.info t with | some i => (match i.zero with | some z => some (ofV z) | none => none) | none => none

def allocS (c : Ctx) (t : TypeId) (h : Heap) (i : Nat) : Out :=
  match zeroS c t with
  | some z => .need (h.free i) (.val (.ptr i 0) (h.put i (.cells z.cells t)))
  | none => .bad

def boxS (t : TypeId) (v : SV) (h : Heap) (i : Nat) : Out :=
  bif v.raw then .bad else .need (h.free i) (.val (.ptr i 0) (h.put i (.cells v.cells t)))

theorem raw_ne {s : SV} (h : s.raw = false) : s.raw = false := h
theorem ofV_raw (v : Value) : (ofV v).raw = false := by cases v <;> rfl

section
variable {c : Ctx} {P : Program} {e : Env} {ρ : Val} {h : Heap} {w : World} {Q : SV → Heap → Prop}
theorem run_boxS {t : TypeId} {s : SV} {i : Nat} (H : Rel e ρ h w) (hb : (boxS t s h i).holds Q) {v : Value} (hv : V ρ s v) : Came P e ρ w (Instr.box t v) Q := by
  unfold boxS at hb
  cases hr : s.raw with
  | true => rw [hr] at hb; exact hb.elim
  | false =>
    rw [hr] at hb
    obtain ⟨hf, hq⟩ := hb
    have hvc := hv.cells (raw_ne hr)
    obtain ⟨hle, hrel⟩ := H.newCells hf v.cells t 0 (.cells s.cells t) (fun ρ' w' hle hw => ⟨v.cells, hw, hvc.mono hle⟩)
    refine ⟨.pointer (some ⟨w.heap.size, 0, none⟩), w.alloc (.cells v.cells t), .ptr i 0, _, _, ?_, hle, hrel, ⟨w.heap.size, 0, Val.put_self _ _ _ _, rfl⟩, hq⟩
    simp [Instr.box, newVar, newRow]

/-- what does nothing but lay a new block -/
def LazyOf (P : Program) (ρ : Val) (i : Nat) (act : Sem Value) (sv : SV) (r : Res) : Prop :=
  ∃ (obj : Obj) (vf : Nat → Value) (cp : Nat), (∀ w : World, act.run P w = .ok (vf w.heap.size) (w.alloc obj)) ∧ (∀ ρ' b, ρ.le ρ' → ρ' i = some (b, cp) → V ρ' sv (vf b)) ∧ (∀ ρ' b w', ρ.le ρ' → w'.heap[b]? = some obj → Holds ρ' b cp w' r)

theorem LazyOf.came {act : Sem Value} {sv : SV} {r : Res} {i : Nat} (h1 : LazyOf P ρ i act sv r) (H : Rel e ρ h w) (hf : h.free i = true) (hq : Q sv (h.put i r)) : Came P e ρ w act Q := by
  obtain ⟨obj, vf, cp, hr, hv, hh⟩ := h1
  obtain ⟨g1, g2⟩ := H.none_of_free hf
  have hle := Val.le_put w.heap.size cp g1
  exact ⟨_, _, sv, _, _, hr w, hle, H.alloc obj r cp i g1 g2 (fun ρ' w' hle' hw => hh ρ' _ w' hle' hw), hv _ _ hle (Val.put_self _ _ _ _), hq⟩

theorem run_zero (K : c.Ok P) {t : TypeId} {z : SV} (hz : zeroS c t = some z) : ∃ v, (∀ w : World, (zeroValue t).run P w = .ok v w) ∧ V ρ z v ∧ z = ofV v := by
  unfold zeroS at hz
  split at hz <;> try (cases hz; done)
  rename_i i hi
  split at hz <;> try (cases hz; done)
  rename_i zv hzv
  injection hz with hz
  subst hz
  exact ⟨zv, fun w => by simp [zeroValue, typeInfo, K.info hi, hzv], V_ofV ρ zv, rfl⟩

theorem lazy_allocS (K : c.Ok P) {t : TypeId} {i : Nat} (ρ : Val) (hb : (allocS c t h i).holds Q) (old : Value) : ∃ sv r, LazyOf P ρ i (Instr.alloc t true old) sv r ∧ h.free i = true ∧ Q sv (h.put i r) := by
  unfold allocS at hb
  cases hz : zeroS c t with
  | none => rw [hz] at hb; exact hb.elim
  | some z =>
    rw [hz] at hb
    obtain ⟨hf, hq⟩ := hb
    obtain ⟨v, hv, hV, rfl⟩ := run_zero (ρ := ρ) K hz
    have hvc := hV.cells (raw_ne (ofV_raw v))
    refine ⟨.ptr i 0, .cells (ofV v).cells t, ⟨.cells v.cells t, fun b => .pointer (some ⟨b, 0, none⟩), 0, fun w1 => ?_, fun ρ' b hle hb => ⟨b, 0, hb, rfl⟩, fun ρ' b w' hle hw => ⟨v.cells, hw, hvc.mono hle⟩⟩, hf, hq⟩
    simp [Instr.alloc, newVar, newRow, hv w1]

theorem run_allocS (K : c.Ok P) {t : TypeId} {i : Nat} (H : Rel e ρ h w) (hb : (allocS c t h i).holds Q) (old : Value) : Came P e ρ w (Instr.alloc t true old) Q := by
  obtain ⟨sv, r, h1, h2, h3⟩ := lazy_allocS (P := P) K ρ hb old
  exact h1.came H h2 h3
end
end Go.SE

namespace Go.SE
open Go.RowKit

/-- a row's cells at first -/
def cyc (z : List SV) (n : Nat) : List SV := (List.range n).map fun i => z.getD (i % z.length) (.lit undef)

def buildSliceS (c : Ctx) (t : TypeId) (len : Nat) (parts : List (Nat × SV)) (h : Heap) (i : Nat) : Out :=
  match c.und t with
  | some (.slice e) => (match c.info e, zeroS c e with
    | some inf, some z => bif Nat.beq (len * inf.size) 0 then (match parts with
          | [] => .need (h.free i) (.val (.slc i 0 len len) (h.put i (.cells [] e)))
          | _ => .bad)
        else bif parts.all (fun p => !p.2.raw) then (match fillS (fun j => some (j * inf.size, inf.size)) (cyc z.cells (len * inf.size)) parts with
          | some l => .need (Nat.blt 0 z.cells.length && (Nat.ble (len * inf.size) 16777216 && h.free i)) (.val (.slc i 0 len len) (h.put i (.cells l e)))
          | none => .bad) else .bad
    | _, _ => .bad)
  | _ => .bad

def makeSliceS (c : Ctx) (t : TypeId) (len cap : SV) (h : Heap) (i : Nat) : Out :=
  match c.und t with
  | some (.slice e) => (match c.info e, zeroS c e, len.int?, cap.int? with
    | some inf, some z, some (_, n), some (_, m) =>
      .need (Nat.blt 0 z.cells.length && (leF 0 n && (leF n m && (leF ((inf.bytes : Int) * m) 281474976710656 && (leF m 9223372036854775807 && h.free i)))))
        (.val (.slc i 0 n.toNat m.toNat) (h.put i (match z with
          | .lit (.int k 0) => bif Nat.beq inf.size 1 then .ints k (List.replicate m.toNat 0) e else .cells (cyc z.cells (m.toNat * inf.size)) e
          | _ => .cells (cyc z.cells (m.toNat * inf.size)) e)))
    | _, _, _, _ => .bad)
  | _ => .bad

def makeMapS (h : Heap) (i : Nat) : Out := .need (h.free i) (.val (.ref i) (h.put i (.map [] 0)))

section
variable {c : Ctx} {P : Program} {e : Env} {ρ : Val} {h : Heap} {w : World} {Q : SV → Heap → Prop}

theorem mapM_places (K : c.Ok P) : ∀ (fs : List Field), (fs.all fun (f : Field) => (c.info f.type).isSome) = true →
    ∃ places : List (Nat × Nat), fs.mapM (fun (f : Field) => (P.info? f.type).map fun i => (f.offset, i.size)) = some places ∧
      ∀ (i : Nat) (f : Field) (fi : TypeInfo), fs[i]? = some f → c.info f.type = some fi → places[i]? = some (f.offset, fi.size)
  | [], _ => ⟨[], rfl, fun i f fi h => by simp at h⟩
  | f :: fs, ha => by
    rw [List.all_cons, Bool.and_eq_true] at ha
    obtain ⟨places, h1, h2⟩ := mapM_places K fs ha.2
    cases hi : c.info f.type with
    | none => rw [hi] at ha; exact absurd ha.1 (by simp)
    | some inf =>
      refine ⟨(f.offset, inf.size) :: places, ?_, ?_⟩
      · rw [List.mapM_cons, K.info hi, h1]; rfl
      · intro i g fi hg hfi
        cases i with
        | zero => simp at hg; subst hg; rw [hi] at hfi; injection hfi with hfi; subst hfi; rfl
        | succ i => simp at hg; simpa using h2 i g fi hg hfi

theorem run_buildS (K : c.Ok P) {t : TypeId} {parts : List (Nat × SV)} {s : SV} (hb : buildS c t parts = some (true, s)) (hraw : parts.all (fun p => !p.2.raw) = true) {ps : Array (Nat × Value)} (hp : PL ρ parts ps.toList) :
    ∃ v, (Instr.build t ps).run P w = .ok v w ∧ V ρ s v := by
  have hna : ∀ p ∈ parts, p.2.raw = false := fun p hm => raw_ne (by simpa using List.all_eq_true.1 hraw p hm)
  unfold buildS at hb
  split at hb <;> try (cases hb; done)
  · rename_i inf fs hi hu
    split at hb <;> try (cases hb; done)
    rename_i z hz
    simp only [Option.map_eq_some_iff, Prod.mk.injEq] at hb
    obtain ⟨l, hf, hall, rfl⟩ := hb
    obtain ⟨places, h1, h2⟩ := mapM_places K fs.toList hall
    have hzV := (V_ofV ρ z).cells (raw_ne (ofV_raw z))
    obtain ⟨cs, h3, h4⟩ := fillS_fill (place' := (places.toArray[·]?)) (fun i x hx => by
      split at hx <;> try (cases hx; done)
      rename_i f hfi
      split at hx <;> try (cases hx; done)
      rename_i fi hfi2
      injection hx with hx; subst hx
      simpa using h2 i f fi hfi hfi2) hp hna hzV hf
    refine ⟨.agg cs, run_build w t ps cs ?_, cs, rfl, h4⟩
    unfold Program.built
    rw [K.info hi, K.und hu]
    simp only [hz, h1]
    exact h3
  · rename_i inf n el hi hu
    split at hb <;> try (cases hb; done)
    rename_i z ei hz hei
    simp only [Option.map_eq_some_iff, Prod.mk.injEq] at hb
    obtain ⟨l, hf, _, rfl⟩ := hb
    have hzV := (V_ofV ρ z).cells (raw_ne (ofV_raw z))
    obtain ⟨cs, h3, h4⟩ := fillS_fill (place' := fun i => some (i * ei.size, ei.size)) (fun i x hx => hx) hp hna hzV hf
    refine ⟨.agg cs, run_build w t ps cs ?_, cs, rfl, h4⟩
    unfold Program.built
    rw [K.info hi, K.und hu]
    simp only [hz, K.info hei]
    exact h3

theorem VL_range {f : Nat → SV} {g : Nat → Value} : ∀ (l : List Nat), (∀ i ∈ l, V ρ (f i) (g i)) → VL ρ (l.map f) (l.map g)
  | [], _ => trivial
  | i :: l, h => ⟨h i (by simp), VL_range l (fun j hj => h j (by simp [hj]))⟩

theorem VL_cyc {z : List SV} {zs : Array Value} (hz : VL ρ z zs.toList) (h0 : 0 < z.length) (n : Nat) : VL ρ (cyc z n) (madeCells zs n).toList := by
  unfold cyc madeCells
  rw [Array.toList_map, Array.toList_range]
  have hlen : z.length = zs.size := by rw [hz.length]; simp
  refine VL_range _ (fun i _ => ?_)
  have hlt : i % z.length < z.length := Nat.mod_lt _ h0
  obtain ⟨v, hv, hV⟩ := hz.get (List.getElem?_eq_getElem hlt)
  rw [List.getD_eq_getElem?_getD, List.getElem?_eq_getElem hlt, Option.getD_some]
  have : zs[i % zs.size]! = v := by
    rw [← hlen]
    have hv' : zs[i % z.length]? = some v := by simpa using hv
    rw [getElem!_def, hv']
  rw [this]; exact hV

theorem cells_pos (v : Value) : (∃ cs, v = .agg cs) ∨ (ofV v).cells.length = 1 := by
  cases v <;> first | exact Or.inl ⟨_, rfl⟩ | exact Or.inr rfl

theorem lazy_buildSliceS (K : c.Ok P) {t : TypeId} {len : Nat} {parts : List (Nat × SV)} {i : Nat} (hb : (buildSliceS c t len parts h i).holds Q) {ps : Array (Nat × Value)} (hp : PL ρ parts ps.toList) : ∃ sv r, LazyOf P ρ i (Instr.buildSlice t len ps) sv r ∧ h.free i = true ∧ Q sv (h.put i r) := by
  unfold buildSliceS at hb
  split at hb <;> try (exact hb.elim)
  rename_i el hu
  split at hb <;> try (exact hb.elim)
  rename_i inf z hi hz
  obtain ⟨zv, hzv, hV, rfl⟩ := run_zero (ρ := ρ) K hz
  have hzi : inf.zero = some zv := by
    have := hzv default; simp only [zeroValue, Sem.run_bind, run_typeInfo default (K.info hi), Result.andThen_ok] at this
    cases hq : inf.zero with
    | none => rw [hq] at this; cases this
    | some q => rw [hq] at this; simp at this; rw [this]
  cases hn : Nat.beq (len * inf.size) 0 with
  | true =>
    rw [hn] at hb
    simp only [cond_true] at hb
    rw [Nat.beq_eq] at hn
    split at hb <;> try (exact hb.elim)
    obtain ⟨hf, hq⟩ := hb
    have hps : ps = #[] := by
      cases hpl : ps.toList with
      | nil => exact Array.toList_eq_nil_iff.1 hpl
      | cons p l => rw [hpl] at hp; exact hp.elim
    subst hps
    refine ⟨.slc i 0 len len, .cells [] el, ⟨.cells #[] el, fun b => .slice (some ⟨b, 0, none⟩) len len, 0, fun w => ?_, fun ρ' b hle hb => ⟨b, 0, hb, rfl⟩, fun ρ' b w' hle hw => ⟨#[], hw, trivial⟩⟩, hf, hq⟩
    have hr0 : (Array.map (fun (x : Nat) => (default : Value)) (Array.range 0)) = #[] := by simp [Array.range_zero']
    simp [Instr.buildSlice, run_underlying (K.und hu), sizeOf, typeInfo, K.info hi, hn, Instr.fill, newRow, hr0]
  | false =>
    rw [hn] at hb
    simp only [cond_false] at hb
    have hne : ¬ len * inf.size = 0 := by intro he; rw [he] at hn; cases hn
    cases hraw : parts.all (fun p => !p.2.raw) with
    | false => rw [hraw] at hb; exact hb.elim
    | true =>
      rw [hraw] at hb
      simp only [cond_true] at hb
      have hna : ∀ p ∈ parts, p.2.raw = false := fun p hm => raw_ne (by simpa using List.all_eq_true.1 hraw p hm)
      split at hb <;> try (exact hb.elim)
      rename_i l hfl
      obtain ⟨hcond, hq⟩ := hb
      rw [Bool.and_eq_true, Bool.and_eq_true, Nat.ble_eq, Nat.blt_eq] at hcond
      obtain ⟨hz0, hsmall, hf⟩ := hcond
      have hzV := hV.cells (raw_ne (ofV_raw zv))
      have hv0 : VL ρ (cyc (ofV zv).cells (len * inf.size)) (madeCells zv.cells (len * inf.size)).toList := VL_cyc hzV hz0 _
      obtain ⟨cs, h3, h4⟩ := fillS_fill (place' := fun j => some (j * inf.size, inf.size)) (fun i x hx => hx) hp hna hv0 hfl
      refine ⟨.slc i 0 len len, .cells l el, ⟨.cells cs el, fun b => .slice (some ⟨b, 0, none⟩) len len, 0, fun w => ?_, fun ρ' b hle hb => ⟨b, 0, hb, rfl⟩, fun ρ' b w' hle hw => ⟨cs, hw, h4.mono hle⟩⟩, hf, hq⟩
      exact run_buildSlice w t el len ps cs inf zv (K.und hu) (K.info hi) hzi (by omega) hne h3

theorem run_buildSliceS (K : c.Ok P) {t : TypeId} {len : Nat} {parts : List (Nat × SV)} {i : Nat} (H : Rel e ρ h w) (hb : (buildSliceS c t len parts h i).holds Q) {ps : Array (Nat × Value)} (hp : PL ρ parts ps.toList) : Came P e ρ w (Instr.buildSlice t len ps) Q := by
  obtain ⟨sv, r, h1, h2, h3⟩ := lazy_buildSliceS (P := P) K hb hp
  exact h1.came H h2 h3

theorem run_makeMapS {t : TypeId} {i : Nat} (H : Rel e ρ h w) (hb : (makeMapS h i).holds Q) : Came P e ρ w (Instr.makeMap t none) Q := by
  obtain ⟨hf, hq⟩ := hb
  obtain ⟨h1, h2⟩ := H.none_of_free hf
  have hrel := H.alloc (.map #[] 0) (.map [] 0) 0 i h1 h2 (fun ρ' w' hle hw => ⟨#[], hw, trivial⟩)
  exact ⟨.map (some w.heap.size), w.alloc (.map #[] 0), .ref i, _, _, by simp [Instr.makeMap], Val.le_put _ _ h1, hrel, ⟨w.heap.size, 0, Val.put_self _ _ _ _, rfl⟩, hq⟩

theorem lazy_makeSliceS (K : c.Ok P) {t : TypeId} {len cap : SV} {i : Nat} (hb : (makeSliceS c t len cap h i).holds Q) {vl vc : Value} (hl : V ρ len vl) (hc : V ρ cap vc) : ∃ sv r, LazyOf P ρ i (Instr.makeSlice t vl vc) sv r ∧ h.free i = true ∧ Q sv (h.put i r) := by
  unfold makeSliceS at hb
  split at hb <;> try (exact hb.elim)
  rename_i el hu
  split at hb <;> try (exact hb.elim)
  rename_i inf z k1 n k2 m hi hz hn hm
  obtain ⟨zv, hzv, hV, rfl⟩ := run_zero (ρ := ρ) K hz
  have hzi : inf.zero = some zv := by
    have := hzv default; simp only [zeroValue, Sem.run_bind, run_typeInfo default (K.info hi), Result.andThen_ok] at this
    cases hq : inf.zero with
    | none => rw [hq] at this; cases this
    | some q => rw [hq] at this; simp at this; rw [this]
  rw [SV.int?_eq hn] at hl; rw [SV.int?_eq hm] at hc
  cases hl; cases hc
  obtain ⟨hcond, hq⟩ := hb
  simp only [Bool.and_eq_true, leF_eq, decide_eq_true_eq, Nat.blt_eq] at hcond
  obtain ⟨hz0, h0, h1, h2, h3, hf⟩ := hcond
  have hr := fun w => run_make (P := P) w t el inf zv (K.und hu) (K.info hi) hzi k1 k2 n m h0 h1 h2 h3
  have hzV := hV.cells (raw_ne (ofV_raw zv))
  have hcyc : ∀ (n : Nat), VL ρ (cyc (ofV zv).cells n) (madeCells zv.cells n).toList := fun n => VL_cyc hzV hz0 n
  have fin : ∀ r, (∀ ρ' b w', ρ.le ρ' → w'.heap[b]? = some (.cells (madeCells zv.cells (m.toNat * inf.size)) el (0, 0)) → Holds ρ' b 0 w' r) → Q (.slc i 0 n.toNat m.toNat) (h.put i r) → ∃ sv r, LazyOf P ρ i (Instr.makeSlice t (.int k1 n) (.int k2 m)) sv r ∧ h.free i = true ∧ Q sv (h.put i r) := by
    intro r hr' hq
    exact ⟨.slc i 0 n.toNat m.toNat, r, ⟨_, fun b => .slice (some ⟨b, 0, none⟩) n.toNat m.toNat, 0, hr, fun ρ' b hle hb => ⟨b, 0, hb, rfl⟩, hr'⟩, hf, hq⟩
  have plain : Q (.slc i 0 n.toNat m.toNat) (h.put i (.cells (cyc (ofV zv).cells (m.toNat * inf.size)) el)) → ∃ sv r, LazyOf P ρ i (Instr.makeSlice t (.int k1 n) (.int k2 m)) sv r ∧ h.free i = true ∧ Q sv (h.put i r) :=
    fin _ (fun ρ' b w' hle hw => ⟨_, hw, (hcyc _).mono hle⟩)
  have key : ∀ r, Out.holds Q (.val (.slc i 0 n.toNat m.toNat) (h.put i r)) → Q (.slc i 0 n.toNat m.toNat) (h.put i r) := fun r h => h
  replace hq := key _ hq
  split at hq
  · rename_i k hzk
    cases hs : Nat.beq inf.size 1 with
    | false => rw [hs] at hq; exact plain (by rw [hzk] at *; exact hq)
    | true =>
      rw [hs] at hq
      simp only [cond_true] at hq
      rw [Nat.beq_eq] at hs
      refine fin (.ints k (List.replicate m.toNat 0) el) (fun ρ' b w' hle hw => ⟨_, hw, ?_⟩) hq
      have hzz : zv = .int k 0 := by
        cases zv <;> simp [ofV] at hzk
        rw [hzk.1, hzk.2]
      rw [hzz, hs, Nat.mul_one]
      unfold madeCells
      rw [Array.toList_map, Array.toList_range, List.map_replicate]
      apply List.ext_getElem?
      intro j
      rw [List.getElem?_map, List.getElem?_replicate]
      by_cases hj : j < m.toNat
      · rw [List.getElem?_range hj, if_pos hj]; simp [Value.cells, Nat.mod_one]
      · rw [List.getElem?_eq_none (by simpa using hj), if_neg hj]; rfl
  · exact plain hq
theorem run_makeSliceS (K : c.Ok P) {t : TypeId} {len cap : SV} {i : Nat} (H : Rel e ρ h w) (hb : (makeSliceS c t len cap h i).holds Q) {vl vc : Value} (hl : V ρ len vl) (hc : V ρ cap vc) : Came P e ρ w (Instr.makeSlice t vl vc) Q := by
  obtain ⟨sv, r, h1, h2, h3⟩ := lazy_makeSliceS (P := P) K hb hl hc
  exact h1.came H h2 h3
end
end Go.SE

