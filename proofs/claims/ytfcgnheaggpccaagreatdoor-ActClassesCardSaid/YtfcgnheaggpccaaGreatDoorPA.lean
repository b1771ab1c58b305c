/- A symbolic executor for the model: values, heaps, states, pure operations. No condition. -/
import Derived.Calls
import Derived.Below
import Derived.Laws.World
import Derived.Laws.AppendOwn
import Derived.Laws.Slices
import Derived.Laws.Strings
import Derived.Laws.StructEq
import Derived.WalkSpells
import Derived.IntWalk
import Derived.ChangeKeysEq
import Derived.Lib.Bytealg
namespace Go.SE

/-! finite maps from numbers, by binary digits -/
inductive T (α : Type) where
  | nil
  | node (v : Option α) (l r : T α)
  deriving Inhabited

namespace T
variable {α : Type}

def get : T α → Nat → Option α
  | .nil, _ => none
  | .node v l r, n => bif Nat.beq n 0 then v else bif Nat.beq (n % 2) 1 then l.get (n / 2) else r.get (n / 2 - 1)

def setF : Nat → T α → Nat → α → T α
  | 0, t, _, _ => t
  | f + 1, .nil, n, a => bif Nat.beq n 0 then .node (some a) .nil .nil else bif Nat.beq (n % 2) 1 then .node none (setF f .nil (n / 2) a) .nil else .node none .nil (setF f .nil (n / 2 - 1) a)
  | f + 1, .node v l r, n, a => bif Nat.beq n 0 then .node (some a) l r else bif Nat.beq (n % 2) 1 then .node v (setF f l (n / 2) a) r else .node v l (setF f r (n / 2 - 1) a)

def set (t : T α) (n : Nat) (a : α) : T α := setF (n + 1) t n a

theorem beq_ne {n m : Nat} (h : ¬ n = m) : Nat.beq n m = false := Bool.eq_false_iff.2 (fun e => h (Nat.eq_of_beq_eq_true e))

theorem ble_ne {n m : Nat} (h : ¬ n ≤ m) : Nat.ble n m = false := Bool.eq_false_iff.2 (fun e => h (Nat.le_of_ble_eq_true e))

theorem get_nil (n : Nat) : (T.nil : T α).get n = none := rfl

theorem get_node (v : Option α) (l r : T α) (n : Nat) : (T.node v l r).get n = if n = 0 then v else if n % 2 = 1 then l.get (n / 2) else r.get (n / 2 - 1) := by
  rw [get]
  by_cases h : n = 0
  · subst h; rfl
  · have h1 : Nat.beq n 0 = false := beq_ne h
    rw [h1, if_neg h]
    by_cases h2 : n % 2 = 1
    · have h3 : Nat.beq (n % 2) 1 = true := by simpa using h2
      rw [h3, if_pos h2]; rfl
    · have h3 : Nat.beq (n % 2) 1 = false := beq_ne h2
      rw [h3, if_neg h2]; rfl

theorem setF_nil (f : Nat) (n : Nat) (a : α) : setF (f + 1) (.nil : T α) n a = setF (f + 1) (.node none .nil .nil) n a := by
  simp only [setF]

theorem setF_node (f : Nat) (v : Option α) (l r : T α) (n : Nat) (a : α) :
    setF (f + 1) (.node v l r) n a = if n = 0 then .node (some a) l r else if n % 2 = 1 then .node v (setF f l (n / 2) a) r else .node v l (setF f r (n / 2 - 1) a) := by
  rw [setF]
  by_cases h : n = 0
  · subst h; rfl
  · have h1 : Nat.beq n 0 = false := beq_ne h
    rw [h1, if_neg h]
    by_cases h2 : n % 2 = 1
    · have h3 : Nat.beq (n % 2) 1 = true := by simpa using h2
      rw [h3, if_pos h2]; rfl
    · have h3 : Nat.beq (n % 2) 1 = false := beq_ne h2
      rw [h3, if_neg h2]; rfl

theorem get_setF : ∀ (f : Nat) (t : T α) (n m : Nat) (a : α), n < f → (setF f t n a).get m = if m = n then some a else t.get m := by
  intro f
  induction f with
  | zero => intro t n m a h; omega
  | succ f ih =>
    intro t n m a h
    have key : ∀ (v : Option α) (l r : T α), (setF (f + 1) (.node v l r) n a).get m = if m = n then some a else (T.node v l r).get m := by
      intro v l r
      rw [setF_node]
      by_cases h0 : n = 0
      · subst h0
        rw [if_pos rfl, get_node, get_node]
        by_cases hm : m = 0
        · simp [hm]
        · simp [hm]
      · rw [if_neg h0]
        by_cases h1 : n % 2 = 1
        · rw [if_pos h1, get_node, get_node]
          by_cases hm : m = 0
          · subst hm; simp [Ne.symm h0]
          · rw [if_neg hm, if_neg hm]
            by_cases hm1 : m % 2 = 1
            · rw [if_pos hm1, if_pos hm1, ih l (n / 2) (m / 2) a (by omega)]
              by_cases he : m = n
              · subst he; simp
              · rw [if_neg he, if_neg (by omega)]
            · rw [if_neg hm1, if_neg hm1, if_neg (by intro he; subst he; exact hm1 h1)]
        · rw [if_neg h1, get_node, get_node]
          by_cases hm : m = 0
          · subst hm; simp [Ne.symm h0]
          · rw [if_neg hm, if_neg hm]
            by_cases hm1 : m % 2 = 1
            · rw [if_pos hm1, if_pos hm1, if_neg (by intro he; subst he; exact h1 hm1)]
            · rw [if_neg hm1, if_neg hm1, ih r (n / 2 - 1) (m / 2 - 1) a (by omega)]
              by_cases he : m = n
              · subst he; simp
              · rw [if_neg he, if_neg (by omega)]
    cases t with
    | nil => rw [setF_nil, key]; simp [get_node, get_nil]
    | node v l r => exact key v l r

theorem get_set (t : T α) (n m : Nat) (a : α) : (t.set n a).get m = if m = n then some a else t.get m := get_setF _ _ _ _ _ (by omega)

/-- what is set twice is as set in the other order. -/
theorem setF_fuel : ∀ (f g : Nat) (t : T α) (n : Nat) (a : α), n < f → n < g → setF f t n a = setF g t n a := by
  intro f
  induction f with
  | zero => intro g t n a h; omega
  | succ f ih =>
    intro g t n a hf hg
    obtain ⟨g, rfl⟩ : ∃ k, g = k + 1 := ⟨g - 1, by omega⟩
    have key : ∀ (v : Option α) (l r : T α), setF (f + 1) (.node v l r) n a = setF (g + 1) (.node v l r) n a := by
      intro v l r
      rw [setF_node, setF_node]
      by_cases h0 : n = 0
      · rw [if_pos h0, if_pos h0]
      · rw [if_neg h0, if_neg h0, ih g l (n / 2) a (by omega) (by omega), ih g r (n / 2 - 1) a (by omega) (by omega)]
    cases t with
    | nil => rw [setF_nil, setF_nil]; exact key _ _ _
    | node v l r => exact key v l r

theorem setF_comm : ∀ (f : Nat) (t : T α) (n m : Nat) (a b : α), n ≠ m → n < f → m < f → setF f (setF f t n a) m b = setF f (setF f t m b) n a := by
  intro f
  induction f with
  | zero => intro t n m a b _ h; omega
  | succ f ih =>
    intro t n m a b hne hn hm
    have key : ∀ (v : Option α) (l r : T α), setF (f + 1) (setF (f + 1) (.node v l r) n a) m b = setF (f + 1) (setF (f + 1) (.node v l r) m b) n a := by
      intro v l r
      rw [setF_node, setF_node]
      by_cases n0 : n = 0
      · by_cases m0 : m = 0
        · omega
        · subst n0
          by_cases m1 : m % 2 = 1
          · simp [setF_node, m0, m1]
          · simp [setF_node, m0, m1]
      · by_cases m0 : m = 0
        · subst m0
          by_cases n1 : n % 2 = 1
          · simp [setF_node, n0, n1]
          · simp [setF_node, n0, n1]
        · by_cases n1 : n % 2 = 1
          · by_cases m1 : m % 2 = 1
            · simp [setF_node, n0, n1, m0, m1]
              exact ih l (n / 2) (m / 2) a b (by omega) (by omega) (by omega)
            · simp [setF_node, n0, n1, m0, m1]
          · by_cases m1 : m % 2 = 1
            · simp [setF_node, n0, n1, m0, m1]
            · simp [setF_node, n0, n1, m0, m1]
              exact ih r (n / 2 - 1) (m / 2 - 1) a b (by omega) (by omega) (by omega)
    cases t with
    | nil => rw [setF_nil, setF_nil]; exact key _ _ _
    | node v l r => exact key v l r

theorem set_comm (t : T α) (n m : Nat) (a b : α) (h : n ≠ m) : (t.set n a).set m b = (t.set m b).set n a := by
  unfold set
  rw [setF_fuel (n + 1) (n + m + 1) _ n _ (by omega) (by omega), setF_fuel (m + 1) (n + m + 1) _ m _ (by omega) (by omega),
    setF_fuel (m + 1) (n + m + 1) t m _ (by omega) (by omega), setF_fuel (n + 1) (n + m + 1) _ n _ (by omega) (by omega)]
  exact setF_comm _ _ _ _ _ _ h (by omega) (by omega)

def ofListF : Nat → List α → T α → T α
  | _, [], t => t
  | n, x :: l, t => ofListF (n + 1) l (t.set n x)

theorem get_ofListF : ∀ (l : List α) (n : Nat) (t : T α) (m : Nat), (ofListF n l t).get m = if n ≤ m ∧ m < n + l.length then l[m - n]? else t.get m := by
  intro l
  induction l with
  | nil => intro n t m; rw [ofListF, if_neg (by simp only [List.length_nil]; omega)]
  | cons x l ih =>
    intro n t m
    rw [ofListF, ih, get_set]
    by_cases h : n + 1 ≤ m ∧ m < n + 1 + l.length
    · rw [if_pos h, if_pos (by simp; omega), show m - n = (m - (n + 1)) + 1 from by omega, List.getElem?_cons_succ]
    · rw [if_neg h]
      by_cases he : m = n
      · subst he; rw [if_pos rfl, if_pos (by simp), Nat.sub_self]; rfl
      · rw [if_neg he, if_neg (by simp; omega)]

def ofList (l : List α) : T α := ofListF 0 l .nil

theorem get_ofList (l : List α) (m : Nat) : (ofList l).get m = l[m]? := by
  rw [ofList, get_ofListF]
  by_cases h : m < l.length
  · rw [if_pos (by omega)]; rfl
  · rw [if_neg (by omega), List.getElem?_eq_none (by omega)]; rfl
end T

/-! symbolic values -/
inductive SV where
  | lit (v : Value)
  | ptr (i off : Nat)
  | slc (i off len cap : Nat)
  | own (i len : Nat)
  | tail (i off at_ len o0 : Nat)   -- of an own row, from element at_ on: at cell off, or, if nothing is behind there, at o0
  | ref (i : Nat)
  | fn (f : Fn) (first captured : List SV)
  | iface (t : TypeId) (v : SV)
  | agg (l : List SV)
  | tup (l : List SV)
  | any
  deriving Inhabited

def SV.raw : SV → Bool
  | .lit (.agg _) => true
  | .any => true
  | _ => false

/-- Where the symbolic blocks lie: the block's number, and the capacity of the row at its head. -/
abbrev Val := Nat → Option (Nat × Nat)

mutual
def V (ρ : Val) : SV → Value → Prop
  | .lit x, v => v = x
  | .ptr i off, v => ∃ b c, ρ i = some (b, c) ∧ v = .pointer (some ⟨b, off, none⟩)
  | .slc i off len cap, v => ∃ b c, ρ i = some (b, c) ∧ v = .slice (some ⟨b, off, none⟩) len cap
  | .own i len, v => ∃ b c, ρ i = some (b, c) ∧ v = .slice (some ⟨b, 0, none⟩) len c ∧ len ≤ c
  | .tail i off at_ len o0, v => ∃ b c, ρ i = some (b, c) ∧ v = .slice (some ⟨b, if c = at_ then o0 else off, none⟩) len (c - at_) ∧ at_ + len ≤ c
  | .ref i, v => ∃ b c, ρ i = some (b, c) ∧ v = .map (some b)
  | .fn f first captured, v => ∃ fs cs, v = .func f fs cs ∧ VL ρ first fs.toList ∧ VL ρ captured cs.toList
  | .iface t x, v => ∃ y, v = .iface t y ∧ V ρ x y
  | .agg l, v => ∃ cs, v = .agg cs ∧ VL ρ l cs.toList
  | .tup l, v => ∃ cs, v = .tuple cs ∧ VL ρ l cs.toList
  | .any, _ => True
def VL (ρ : Val) : List SV → List Value → Prop
  | [], [] => True
  | x :: xs, y :: ys => V ρ x y ∧ VL ρ xs ys
  | _, _ => False
end

/-- ρ' knows all that ρ knows. -/
def Val.le (ρ ρ' : Val) : Prop := ∀ i x, ρ i = some x → ρ' i = some x
theorem Val.le.refl (ρ : Val) : ρ.le ρ := fun _ _ h => h
theorem Val.le.trans {a b c : Val} (h : a.le b) (k : b.le c) : a.le c := fun i x hx => k i x (h i x hx)

mutual
theorem V.mono {ρ ρ' : Val} (h : ρ.le ρ') : ∀ {s : SV} {v : Value}, V ρ s v → V ρ' s v
  | .lit _, _, hv => hv
  | .ptr _ _, _, ⟨b, c, hb, hv⟩ => ⟨b, c, h _ _ hb, hv⟩
  | .slc _ _ _ _, _, ⟨b, c, hb, hv⟩ => ⟨b, c, h _ _ hb, hv⟩
  | .own _ _, _, ⟨b, c, hb, hv⟩ => ⟨b, c, h _ _ hb, hv⟩
  | .tail _ _ _ _ _, _, ⟨b, c, hb, hv⟩ => ⟨b, c, h _ _ hb, hv⟩
  | .ref _, _, ⟨b, c, hb, hv⟩ => ⟨b, c, h _ _ hb, hv⟩
  | .fn _ _ _, _, ⟨fs, cs, hv, h1, h2⟩ => ⟨fs, cs, hv, VL.mono h h1, VL.mono h h2⟩
  | .iface _ _, _, ⟨y, hv, h1⟩ => ⟨y, hv, V.mono h h1⟩
  | .agg _, _, ⟨cs, hv, h1⟩ => ⟨cs, hv, VL.mono h h1⟩
  | .tup _, _, ⟨cs, hv, h1⟩ => ⟨cs, hv, VL.mono h h1⟩
  | .any, _, _ => trivial
theorem VL.mono {ρ ρ' : Val} (h : ρ.le ρ') : ∀ {l : List SV} {vs : List Value}, VL ρ l vs → VL ρ' l vs
  | [], [], _ => trivial
  | _ :: _, _ :: _, ⟨h1, h2⟩ => ⟨V.mono h h1, VL.mono h h2⟩
  | [], _ :: _, hv => hv.elim
  | _ :: _, [], hv => hv.elim
end

section
variable {ρ : Val}
theorem VL.length : ∀ {l : List SV} {vs : List Value}, VL ρ l vs → l.length = vs.length
  | [], [], _ => rfl
  | _ :: _, _ :: _, ⟨_, h⟩ => congrArg (· + 1) (VL.length h)
  | [], _ :: _, h => h.elim
  | _ :: _, [], h => h.elim
theorem VL.get : ∀ {l : List SV} {vs : List Value}, VL ρ l vs → ∀ {i : Nat} {s : SV}, l[i]? = some s → ∃ v, vs[i]? = some v ∧ V ρ s v
  | [], [], _, i, s, h => by simp at h
  | x :: xs, y :: ys, ⟨h1, h2⟩, i, s, h => by
    cases i with
    | zero => simp at h; subst h; exact ⟨y, by simp, h1⟩
    | succ i => simp at h; obtain ⟨v, hv, h3⟩ := VL.get h2 h; exact ⟨v, by simpa using hv, h3⟩
  | [], _ :: _, h, _, _, _ => h.elim
  | _ :: _, [], h, _, _, _ => h.elim
theorem VL.set : ∀ {l : List SV} {vs : List Value}, VL ρ l vs → ∀ (i : Nat) {s : SV} {v : Value}, V ρ s v → VL ρ (l.set i s) (vs.set i v)
  | [], [], _, i, s, v, h => by simp [VL]
  | x :: xs, y :: ys, ⟨h1, h2⟩, i, s, v, h => by
    cases i with
    | zero => exact ⟨h, h2⟩
    | succ i => exact ⟨h1, VL.set h2 i h⟩
  | [], _ :: _, h, _, _, _, _ => h.elim
  | _ :: _, [], h, _, _, _, _ => h.elim
theorem VL.append : ∀ {l : List SV} {vs : List Value}, VL ρ l vs → ∀ {l' : List SV} {vs' : List Value}, VL ρ l' vs' → VL ρ (l ++ l') (vs ++ vs')
  | [], [], _, _, _, h => h
  | _ :: _, _ :: _, ⟨h1, h2⟩, _, _, h => ⟨h1, VL.append h2 h⟩
  | [], _ :: _, h, _, _, _ => h.elim
  | _ :: _, [], h, _, _, _ => h.elim
theorem VL.take : ∀ {l : List SV} {vs : List Value}, VL ρ l vs → ∀ (n : Nat), VL ρ (l.take n) (vs.take n)
  | [], [], _, n => by simp [VL]
  | x :: xs, y :: ys, ⟨h1, h2⟩, n => by
    cases n with
    | zero => exact trivial
    | succ n => exact ⟨h1, VL.take h2 n⟩
  | [], _ :: _, h, _ => h.elim
  | _ :: _, [], h, _ => h.elim
theorem VL.drop : ∀ {l : List SV} {vs : List Value}, VL ρ l vs → ∀ (n : Nat), VL ρ (l.drop n) (vs.drop n)
  | [], [], _, n => by simp [VL]
  | x :: xs, y :: ys, ⟨h1, h2⟩, n => by
    cases n with
    | zero => exact ⟨h1, h2⟩
    | succ n => exact VL.drop h2 n
  | [], _ :: _, h, _ => h.elim
  | _ :: _, [], h, _ => h.elim
theorem VL.lits : ∀ (vs : List Value), VL ρ (vs.map .lit) vs
  | [] => trivial
  | _ :: vs => ⟨rfl, VL.lits vs⟩
end

end Go.SE

namespace Go.SE
open Go.RowKit

/-- What a symbolic block holds. -/
inductive Res where
  | cells (l : List SV) (E : TypeId)                       -- all its cells
  | own (l : List SV) (E : TypeId) (sz : Nat)              -- its first cells; as many rows of sz cells as its capacity says
  | ints (k : IntKind) (l : List Int) (E : TypeId)         -- all its cells: numbers
  | owni (k : IntKind) (l : List Int) (E : TypeId)         -- its first cells: numbers; as many cells as its capacity says
  | mark (k : IntKind) (l : List Int) (E : TypeId)         -- its first cells: numbers; they are read alone
  | map (es : List (SV × SV × Nat)) (clock : Nat)
  | gone
  | was (j : Nat) (r : Res)                               -- a row that grew: it is j's block now, or one that still is as r says
  | iter (j since : Nat) (seen : List Nat) (last : Nat)    -- a range over map j
  | obj (o : Obj)
  deriving Inhabited

def Res.live : Res → Bool
  | .gone => false
  | .was _ _ => false
  | _ => true

structure Heap where
  n : Nat
  m : T (Bool × Res)       -- true: its own, to be written; false: it is read alone
  deriving Inhabited

def MapRel (ρ : Val) : List (SV × SV × Nat) → List MapEntry → Prop
  | [], [] => True
  | (k, v, b) :: es, e :: es' => V ρ k e.key ∧ V ρ v e.val ∧ b = e.born ∧ MapRel ρ es es'
  | _, _ => False

/-- Block b holds what is said. -/
def Holds (ρ : Val) (b c : Nat) (w : World) : Res → Prop
  | .cells l E => ∃ cs, w.heap[b]? = some (.cells cs E (0, 0)) ∧ VL ρ l cs.toList
  | .own l E sz => ∃ cs, w.heap[b]? = some (.cells cs E (0, 0)) ∧ cs.size = c * sz ∧ l.length ≤ cs.size ∧ c ≤ maxLen ∧ VL ρ l (cs.toList.take l.length)
  | .ints k l E => ∃ cs, w.heap[b]? = some (.cells cs E (0, 0)) ∧ cs.toList = l.map (Value.int k)
  | .owni k l E => ∃ cs, w.heap[b]? = some (.cells cs E (0, 0)) ∧ cs.size = c ∧ l.length ≤ cs.size ∧ c ≤ maxLen ∧ cs.toList.take l.length = l.map (Value.int k)
  | .mark k l E => ∃ cs fz, w.heap[b]? = some (.cells cs E fz) ∧ l.length ≤ cs.size ∧ cs.toList.take l.length = l.map (Value.int k)
  | .map es clock => ∃ cs, w.heap[b]? = some (.map cs clock) ∧ MapRel ρ es cs.toList
  | .gone => False
  | .was _ _ => False
  | .iter j since seen last => ∃ bm cm, ρ j = some (bm, cm) ∧ w.heap[b]? = some (.mapIter (some bm) since seen.toArray last)
  | .obj o => w.heap[b]? = some o

theorem MapRel.mono {ρ ρ' : Val} (h : ρ.le ρ') : ∀ {es : List (SV × SV × Nat)} {cs : List MapEntry}, MapRel ρ es cs → MapRel ρ' es cs
  | [], [], _ => trivial
  | (_, _, _) :: _, _ :: _, ⟨h1, h2, h3, h4⟩ => ⟨V.mono h h1, V.mono h h2, h3, MapRel.mono h h4⟩
  | [], _ :: _, hv => hv.elim
  | (_, _, _) :: _, [], hv => hv.elim

theorem Holds.mono {ρ ρ' : Val} (h : ρ.le ρ') {b c : Nat} {w w' : World} (hw : w'.heap[b]? = w.heap[b]?) : ∀ {r : Res}, Holds ρ b c w r → Holds ρ' b c w' r
  | .cells _ _, ⟨cs, h1, h2⟩ => ⟨cs, hw.trans h1, VL.mono h h2⟩
  | .own _ _ _, ⟨cs, h1, h2, h3, h4, h5⟩ => ⟨cs, hw.trans h1, h2, h3, h4, VL.mono h h5⟩
  | .ints _ _ _, ⟨cs, h1, h2⟩ => ⟨cs, hw.trans h1, h2⟩
  | .owni _ _ _, ⟨cs, h1, h2⟩ => ⟨cs, hw.trans h1, h2⟩
  | .mark _ _ _, ⟨cs, fz, h1, h2⟩ => ⟨cs, fz, hw.trans h1, h2⟩
  | .map _ _, ⟨cs, h1, h2⟩ => ⟨cs, hw.trans h1, MapRel.mono h h2⟩
  | .gone, h1 => h1.elim
  | .was _ _, h1 => h1.elim
  | .iter _ _ _ _, ⟨bm, cm, h1, h2⟩ => ⟨bm, cm, h _ _ h1, hw.trans h2⟩
  | .obj _, h1 => hw.trans h1

theorem Holds.lt {ρ : Val} {b c : Nat} {w : World} {r : Res} (h : Holds ρ b c w r) : b < w.heap.size := by
  have : ∃ o, w.heap[b]? = some o := by
    cases r <;> simp only [Holds] at h
    · obtain ⟨cs, h1, _⟩ := h; exact ⟨_, h1⟩
    · obtain ⟨cs, h1, _⟩ := h; exact ⟨_, h1⟩
    · obtain ⟨cs, h1, _⟩ := h; exact ⟨_, h1⟩
    · obtain ⟨cs, h1, _⟩ := h; exact ⟨_, h1⟩
    · obtain ⟨cs, fz, h1, _⟩ := h; exact ⟨_, h1⟩
    · obtain ⟨cs, h1, _⟩ := h; exact ⟨_, h1⟩
    · obtain ⟨_, _, _, h1⟩ := h; exact ⟨_, h1⟩
    · exact ⟨_, h⟩
  obtain ⟨o, ho⟩ := this
  exact (Array.getElem?_eq_some_iff.1 ho).1

/-- The world when the walk began, the blocks of it that may be written, and those that are read alone. -/
structure Env where
  w0 : World
  mine : Nat → Prop
  ro : Nat → Prop
  ro_ok : ∀ b, ro b → b < w0.heap.size ∧ ¬ mine b

/-- What was there and may not be written is as it was; the streams are. -/
structure Kept (e : Env) (w : World) : Prop where
  os : w.os = e.w0.os
  tape : w.tape = e.w0.tape
  output : w.output = e.w0.output
  size : e.w0.heap.size ≤ w.heap.size
  block : ∀ b, b < e.w0.heap.size → ¬ e.mine b → w.heap[b]? = e.w0.heap[b]?

/-- b is none of the blocks that may be written -/
def OffOwn (ρ : Val) (h : Heap) (b : Nat) : Prop := ∀ k r b' c', h.m.get k = some (true, r) → r.live = true → ρ k = some (b', c') → b' ≠ b

/-- The world is as the symbolic heap says. -/
structure Rel (e : Env) (ρ : Val) (h : Heap) (w : World) : Prop where
  kept : Kept e w
  fresh : ∀ i, h.n ≤ i → ρ i = none ∧ h.m.get i = none
  holds : ∀ i x r, h.m.get i = some (x, r) → r.live = true → ∃ b c, ρ i = some (b, c) ∧ Holds ρ b c w r ∧ (if x then e.w0.heap.size ≤ b ∨ e.mine b else e.ro b)
  apart : ∀ i j r s b c b' c', i ≠ j → h.m.get i = some (true, r) → h.m.get j = some (true, s) → r.live = true → s.live = true → ρ i = some (b, c) → ρ j = some (b', c') → b ≠ b'
  was : ∀ i x j r, h.m.get i = some (x, .was j r) → ∃ b c, ρ i = some (b, c) ∧ b < w.heap.size ∧ (e.w0.heap.size ≤ b ∨ e.mine b) ∧ ((∃ cj, ρ j = some (b, cj)) ∨ (Holds ρ b c w r ∧ OffOwn ρ h b))

theorem Kept.refl (w : World) (mine ro : Nat → Prop) (hro) : Kept ⟨w, mine, ro, hro⟩ w := ⟨rfl, rfl, rfl, Nat.le_refl _, fun _ _ _ => rfl⟩

/-- a symbolic frame's state: the slots, how many there are, the heap, the deferred calls (the last first). -/
structure State where
  t : T SV
  n : Nat
  h : Heap
  ds : List (Fn × List SV × List SV)     -- the function, what it captured, the arguments
  deriving Inhabited

def State.slot (s : State) (i : Nat) : SV := (s.t.get i).getD (.lit undef)

def DsRel (ρ : Val) : List (Fn × List SV × List SV) → List Deferred → Prop
  | [], [] => True
  | (f, cap, args) :: ds, d :: ds' => (∃ cs, d.target = .fn f cs ∧ VL ρ cap cs.toList) ∧ VL ρ args d.args.toList ∧ DsRel ρ ds ds'
  | _, _ => False

theorem DsRel.mono {ρ ρ' : Val} (h : ρ.le ρ') : ∀ {ds : List (Fn × List SV × List SV)} {cs : List Deferred}, DsRel ρ ds cs → DsRel ρ' ds cs
  | [], [], _ => trivial
  | (_, _, _) :: _, _ :: _, ⟨⟨cs, h1, h2⟩, h3, h4⟩ => ⟨⟨cs, h1, VL.mono h h2⟩, VL.mono h h3, DsRel.mono h h4⟩
  | [], _ :: _, hv => hv.elim
  | (_, _, _) :: _, [], hv => hv.elim

structure RelSt (e : Env) (ρ : Val) (s : State) (a : Act) (w : World) : Prop where
  size : a.tmps.size = s.n
  slots : ∀ i, V ρ (s.slot i) (a.tmps.getD i undef)
  defers : DsRel ρ s.ds a.defers
  rel : Rel e ρ s.h w

/-! laws -/
section
variable {e : Env} {ρ : Val} {h : Heap} {w : World}

theorem Rel.drew (H : Rel e ρ h w) : Rel e ρ h w.drew :=
  ⟨⟨H.kept.os, H.kept.tape, H.kept.output, H.kept.size, H.kept.block⟩, H.fresh, fun i x r hi hlv => by
    obtain ⟨b, c, h1, h2, h3⟩ := H.holds i x r hi hlv
    exact ⟨b, c, h1, Holds.mono (Val.le.refl ρ) (w := w) rfl h2, h3⟩, H.apart, fun i x j r hi => by
    obtain ⟨b, c, h1, h2, h3, h4⟩ := H.was i x j r hi
    exact ⟨b, c, h1, h2, h3, h4.imp id (fun h => ⟨Holds.mono (Val.le.refl ρ) (w := w) rfl h.1, h.2⟩)⟩⟩

def Val.put (ρ : Val) (i b c : Nat) : Val := fun j => if j = i then some (b, c) else ρ j
theorem Val.le_put {ρ : Val} {i : Nat} (b c : Nat) (h : ρ i = none) : ρ.le (ρ.put i b c) := by
  intro j x hj
  unfold Val.put
  by_cases hji : j = i
  · subst hji; rw [h] at hj; cases hj
  · rw [if_neg hji]; exact hj
theorem Val.put_self (ρ : Val) (i b c : Nat) : ρ.put i b c i = some (b, c) := by simp [Val.put]

/-- A new block. -/
theorem Rel.alloc (H : Rel e ρ h w) (o : Obj) (r : Res) (c : Nat) (i : Nat) (hi : ρ i = none) (hn : h.m.get i = none)
    (hr : ∀ ρ' w', ρ.le ρ' → w'.heap[w.heap.size]? = some o → Holds ρ' w.heap.size c w' r) :
    Rel e (ρ.put i w.heap.size c) ⟨max h.n (i + 1), h.m.set i (true, r)⟩ (w.alloc o) := by
  have hle := Val.le_put w.heap.size c hi
  have hnew : (w.alloc o).heap[w.heap.size]? = some o := by show (w.heap.push o)[w.heap.size]? = some o; simp
  have hrw : ∀ j q, r ≠ .was j q := fun j q he => by have := hr _ _ hle hnew; rw [he] at this; exact this
  refine ⟨⟨H.kept.os, H.kept.tape, H.kept.output, ?_, ?_⟩, ?_, ?_, ?_, ?_⟩
  · have := H.kept.size; simp; omega
  · intro b hb hm
    rw [Below.heap_alloc _ _ _ (Nat.lt_of_lt_of_le hb H.kept.size)]
    exact H.kept.block b hb hm
  · intro j hj
    have hj' : max h.n (i + 1) ≤ j := hj
    have hj1 : h.n ≤ j := by omega
    have hji : j ≠ i := by omega
    refine ⟨?_, ?_⟩
    · unfold Val.put; rw [if_neg hji]; exact (H.fresh j hj1).1
    · rw [T.get_set, if_neg hji]; exact (H.fresh j hj1).2
  · intro j x s hj hlv
    rw [T.get_set] at hj
    by_cases hji : j = i
    · subst hji
      rw [if_pos rfl] at hj
      injection hj with hj; injection hj with h1 h2; subst h1; subst h2
      exact ⟨w.heap.size, c, Val.put_self _ _ _ _, hr _ _ hle hnew, by rw [if_pos rfl]; exact Or.inl H.kept.size⟩
    · rw [if_neg hji] at hj
      obtain ⟨b, c', h1, h2, h3⟩ := H.holds j x s hj hlv
      refine ⟨b, c', hle _ _ h1, Holds.mono hle (Below.heap_alloc _ _ _ h2.lt) h2, h3⟩
  · intro j k r1 s1 b c1 b' c1' hjk hj hk hl1 hl2 hb hb'
    have old : ∀ j r1 b c1, j ≠ i → (h.m.set i (true, r)).get j = some (true, r1) → r1.live = true → ρ.put i w.heap.size c j = some (b, c1) → h.m.get j = some (true, r1) ∧ ρ j = some (b, c1) ∧ b < w.heap.size := by
      intro j r1 b c1 hji h1 hlv h2
      rw [T.get_set, if_neg hji] at h1
      unfold Val.put at h2; rw [if_neg hji] at h2
      obtain ⟨b2, c2, h3, h4, _⟩ := H.holds j _ _ h1 hlv
      rw [h2] at h3; injection h3 with h3; injection h3 with h5 h6; subst h5
      exact ⟨h1, h2, h4.lt⟩
    by_cases hji : j = i
    · subst hji
      rw [Val.put_self] at hb; injection hb with hb; injection hb with h5 h6
      obtain ⟨_, _, h7⟩ := old k s1 b' c1' (Ne.symm hjk) hk hl2 hb'
      omega
    · obtain ⟨g1, g2, g3⟩ := old j r1 b c1 hji hj hl1 hb
      by_cases hki : k = i
      · subst hki
        rw [Val.put_self] at hb'; injection hb' with hb'; injection hb' with h5 h6
        omega
      · obtain ⟨k1, k2, k3⟩ := old k s1 b' c1' hki hk hl2 hb'
        exact H.apart j k r1 s1 b c1 b' c1' hjk g1 k1 hl1 hl2 g2 k2
  · intro k x j q hk
    have hk' : (h.m.set i (true, r)).get k = some (x, .was j q) := hk
    rw [T.get_set] at hk'
    by_cases hki : k = i
    · rw [if_pos hki] at hk'; injection hk' with hk'; injection hk' with _ h2; exact absurd h2 (hrw j q)
    · rw [if_neg hki] at hk'
      obtain ⟨b, c', h1, h2, h3, h4⟩ := H.was k x j q hk'
      refine ⟨b, c', hle _ _ h1, by simp; omega, h3, ?_⟩
      rcases h4 with ⟨cj, h4⟩ | ⟨h4, h5⟩
      · exact Or.inl ⟨cj, hle _ _ h4⟩
      · refine Or.inr ⟨Holds.mono hle (Below.heap_alloc _ _ _ h2) h4, fun m r1 b' c1 hm hl hρ => ?_⟩
        have hm' : (h.m.set i (true, r)).get m = some (true, r1) := hm
        rw [T.get_set] at hm'
        unfold Val.put at hρ
        by_cases hmi : m = i
        · rw [if_pos hmi] at hρ; injection hρ with hρ; injection hρ with e1 e2; omega
        · rw [if_neg hmi] at hm' hρ; exact h5 m r1 b' c1 hm' hl hρ

/-- A block that may be written is turned; all else stays. -/
theorem Rel.turn (H : Rel e ρ h w) {w' : World} (i : Nat) (r r' : Res) (b c : Nat) (hi : h.m.get i = some (true, r)) (hlr : r.live = true) (hρ : ρ i = some (b, c))
    (hos : w'.os = w.os) (ht : w'.tape = w.tape) (ho : w'.output = w.output) (hs : w'.heap.size = w.heap.size) (hb : ∀ k, k ≠ b → w'.heap[k]? = w.heap[k]?)
    (hr : Holds ρ b c w' r' ∨ r' = .gone) : Rel e ρ ⟨h.n, h.m.set i (true, r')⟩ w' := by
  have hmine : e.w0.heap.size ≤ b ∨ e.mine b := by
    obtain ⟨b2, c2, h3, h4, h5⟩ := H.holds i _ _ hi hlr
    rw [hρ] at h3; injection h3 with h3; injection h3 with h6 h7; subst h6
    simpa using h5
  have hr1 : r'.live = true → Holds ρ b c w' r' := fun hl => hr.elim id (fun he => by rw [he] at hl; cases hl)
  have hrw : ∀ j q, r' ≠ .was j q := fun j q he => hr.elim (fun h => by rw [he] at h; exact h) (fun h => by rw [he] at h; cases h)
  refine ⟨⟨hos.trans H.kept.os, ht.trans H.kept.tape, ho.trans H.kept.output, by rw [hs]; exact H.kept.size, ?_⟩, ?_, ?_, ?_, ?_⟩
  · intro k hk hm
    rw [hb k (by intro he; subst he; rcases hmine with h1 | h1; omega; exact hm h1)]
    exact H.kept.block k hk hm
  · intro j hj
    refine ⟨(H.fresh j hj).1, ?_⟩
    have hji : j ≠ i := by intro he; subst he; rw [(H.fresh j hj).2] at hi; cases hi
    rw [T.get_set, if_neg hji]; exact (H.fresh j hj).2
  · intro j x s hj hlv
    rw [T.get_set] at hj
    by_cases hji : j = i
    · subst hji
      rw [if_pos rfl] at hj
      injection hj with hj; injection hj with h1 h2; subst h1; subst h2
      exact ⟨b, c, hρ, hr1 hlv, by simpa using hmine⟩
    · rw [if_neg hji] at hj
      obtain ⟨b2, c2, h1, h2, h3⟩ := H.holds j x s hj hlv
      have hne : b2 ≠ b := by
        cases x with
        | true => exact H.apart j i s r b2 c2 b c hji hj hi hlv hlr h1 hρ
        | false =>
          intro he; subst he
          simp at h3
          have h3 := e.ro_ok _ h3
          rcases hmine with h4 | h4
          · omega
          · exact h3.2 h4
      exact ⟨b2, c2, h1, Holds.mono (Val.le.refl ρ) (hb b2 hne) h2, h3⟩
  · intro j k r1 s1 b1 c1 b2 c2 hjk hj hk hl1 hl2 h1 h2
    have back : ∀ j r1, (h.m.set i (true, r')).get j = some (true, r1) → r1.live = true → ∃ r2, h.m.get j = some (true, r2) ∧ r2.live = true := by
      intro j r1 hj hlv
      rw [T.get_set] at hj
      by_cases hji : j = i
      · subst hji; exact ⟨r, hi, hlr⟩
      · rw [if_neg hji] at hj; exact ⟨r1, hj, hlv⟩
    obtain ⟨r2, hj, hl1⟩ := back j r1 hj hl1
    obtain ⟨s2, hk, hl2⟩ := back k s1 hk hl2
    exact H.apart j k r2 s2 b1 c1 b2 c2 hjk hj hk hl1 hl2 h1 h2
  · intro k x j q hk
    have hk' : (h.m.set i (true, r')).get k = some (x, .was j q) := hk
    rw [T.get_set] at hk'
    by_cases hki : k = i
    · rw [if_pos hki] at hk'; injection hk' with hk'; injection hk' with _ h2; exact absurd h2 (hrw j q)
    · rw [if_neg hki] at hk'
      obtain ⟨b1, c1, h1, h2, h3, h4⟩ := H.was k x j q hk'
      refine ⟨b1, c1, h1, by rw [hs]; exact h2, h3, h4.imp id (fun ⟨h4, h5⟩ => ?_)⟩
      have hne : b ≠ b1 := h5 i r b c hi hlr hρ
      refine ⟨Holds.mono (Val.le.refl ρ) (hb b1 (Ne.symm hne)) h4, fun m r1 b' c' hm hl hρ' => ?_⟩
      have hm' : (h.m.set i (true, r')).get m = some (true, r1) := hm
      rw [T.get_set] at hm'
      by_cases hmi : m = i
      · subst hmi; rw [hρ] at hρ'; injection hρ' with hρ'; injection hρ' with e1 e2; omega
      · rw [if_neg hmi] at hm'; exact h5 m r1 b' c' hm' hl hρ'
end
end Go.SE

namespace Go.SE
open Go.RowKit

/-- A constant as a symbolic value. -/
def ofV : Value → SV
  | .agg cs => .agg (cs.toList.map .lit)
  | .tuple cs => .tup (cs.toList.map .lit)
  | .iface t v => .iface t (.lit v)
  | .func f fs cs => .fn f (fs.toList.map .lit) (cs.toList.map .lit)
  | v => .lit v

theorem V_ofV (ρ : Val) (v : Value) : V ρ (ofV v) v := by
  cases v <;> simp only [ofV, V]
  · exact ⟨_, _, rfl, VL.lits _, VL.lits _⟩
  · exact ⟨_, rfl, rfl⟩
  · exact ⟨_, rfl, VL.lits _⟩
  · exact ⟨_, rfl, VL.lits _⟩

def State.ev (s : State) : Operand → SV
  | .tmp t => s.slot t
  | .const v => ofV v
  | .global g => .lit (.pointer (some ⟨g, 0, none⟩))
  | .func f => .fn (.func f) [] []

theorem RelSt.ev {e : Env} {ρ : Val} {s : State} {a : Act} {w : World} (H : RelSt e ρ s a w) (x : Operand) : V ρ (s.ev x) (a.eval x) := by
  cases x with
  | tmp t => exact H.slots t
  | const v => exact V_ofV ρ v
  | global g => exact rfl
  | func f => exact ⟨#[], #[], rfl, trivial, trivial⟩

/-! looking into a symbolic value -/
def SV.bool? : SV → Option Bool
  | .lit (.bool b) => some b
  | _ => none
def SV.int? : SV → Option (IntKind × Int)
  | .lit (.int k n) => some (k, n)
  | _ => none
def SV.str? : SV → Option ByteArray
  | .lit (.string s) => some s
  | _ => none
/-- nothing was laid there -/
def SV.void : SV → Bool
  | .lit (.tuple cs) => cs.toList.isEmpty
  | _ => false
theorem SV.void_eq {x : SV} (h : x.void = true) : x = .lit undef := by
  cases x with
  | lit v =>
    cases v <;> simp [SV.void] at h
    subst h; rfl
  | _ => simp [SV.void] at h
def SV.agg? : SV → Option (List SV)
  | .agg l => some l
  | _ => none
def SV.tup? : SV → Option (List SV)
  | .tup l => some l
  | _ => none
theorem SV.bool?_eq {x : SV} {b : Bool} (h : x.bool? = some b) : x = .lit (.bool b) := by
  cases x with
  | lit v => cases v <;> simp [SV.bool?] at h; rw [h]
  | _ => simp [SV.bool?] at h
theorem SV.int?_eq {x : SV} {k : IntKind} {n : Int} (h : x.int? = some (k, n)) : x = .lit (.int k n) := by
  cases x with
  | lit v => cases v <;> simp [SV.int?] at h; rw [h.1, h.2]
  | _ => simp [SV.int?] at h
theorem SV.str?_eq {x : SV} {s : ByteArray} (h : x.str? = some s) : x = .lit (.string s) := by
  cases x with
  | lit v => cases v <;> simp [SV.str?] at h; rw [h]
  | _ => simp [SV.str?] at h
theorem SV.agg?_eq {x : SV} {l : List SV} (h : x.agg? = some l) : x = .agg l := by
  cases x with
  | agg l' => simp [SV.agg?] at h; rw [h]
  | _ => simp [SV.agg?] at h
theorem SV.tup?_eq {x : SV} {l : List SV} (h : x.tup? = some l) : x = .tup l := by
  cases x with
  | tup l' => simp [SV.tup?] at h; rw [h]
  | _ => simp [SV.tup?] at h

/-! numbers, so that the kernel is quick -/
def ltF : Int → Int → Bool
  | .ofNat a, .ofNat b => Nat.blt a b
  | .negSucc _, .ofNat _ => true
  | .ofNat _, .negSucc _ => false
  | .negSucc a, .negSucc b => Nat.blt b a
def eqF : Int → Int → Bool
  | .ofNat a, .ofNat b => Nat.beq a b
  | .negSucc a, .negSucc b => Nat.beq a b
  | _, _ => false
theorem ltF_eq (a b : Int) : ltF a b = decide (a < b) := by
  cases a with
  | ofNat a =>
    cases b with
    | ofNat b => simp only [ltF]; rw [Bool.eq_iff_iff, Nat.blt_eq, decide_eq_true_iff]; exact Int.ofNat_lt.symm
    | negSucc b => simp only [ltF]; symm; rw [decide_eq_false_iff_not]; simp only [Int.ofNat_eq_natCast]; omega
  | negSucc a =>
    cases b with
    | ofNat b => simp only [ltF]; symm; rw [decide_eq_true_iff]; simp only [Int.ofNat_eq_natCast]; omega
    | negSucc b => simp only [ltF]; rw [Bool.eq_iff_iff, Nat.blt_eq, decide_eq_true_iff]; omega
theorem eqF_eq (a b : Int) : eqF a b = (a == b) := by
  rw [Bool.eq_iff_iff, beq_iff_eq]
  cases a with
  | ofNat a =>
    cases b with
    | ofNat b => simp only [eqF, Nat.beq_eq]; exact ⟨fun h => by rw [h], fun h => by injection h⟩
    | negSucc b => simp only [eqF]; exact ⟨fun h => (by cases h), fun h => (by cases h)⟩
  | negSucc a =>
    cases b with
    | ofNat b => simp only [eqF]; exact ⟨fun h => (by cases h), fun h => (by cases h)⟩
    | negSucc b => simp only [eqF, Nat.beq_eq]; exact ⟨fun h => by rw [h], fun h => by injection h⟩
def leF (a b : Int) : Bool := !ltF b a
theorem leF_eq (a b : Int) : leF a b = decide (a ≤ b) := by
  rw [leF, ltF_eq, Bool.eq_iff_iff, decide_eq_true_iff, Bool.not_eq_true', decide_eq_false_iff_not]; omega

/-- the numbers that a kind holds, as a test -/
def fits (k : IntKind) (n : Int) : Bool :=
  match k, n with
  | .i64, .ofNat m => Nat.blt m 9223372036854775808
  | .i64, .negSucc m => Nat.blt m 9223372036854775808
  | .u64, .ofNat m => Nat.blt m 18446744073709551616
  | .u32, .ofNat m => Nat.blt m 4294967296
  | .u8, .ofNat m => Nat.blt m 256
  | .i32, .ofNat m => Nat.blt m 2147483648
  | .i32, .negSucc m => Nat.blt m 2147483648
  | _, _ => false
theorem fits_wrap : ∀ {k : IntKind} {n : Int}, fits k n = true → k.wrap n = n
  | .i64, .ofNat m, h => by
    simp only [fits, Nat.blt_eq] at h
    exact IntWalk.i64_in _ (by simp only [Int.ofNat_eq_natCast]; omega)
  | .i64, .negSucc m, h => by
    simp only [fits, Nat.blt_eq] at h
    exact IntWalk.i64_in _ (by omega)
  | .u64, .ofNat m, h => by
    simp only [fits, Nat.blt_eq] at h
    exact IntWalk.u64_in _ (by simp only [Int.ofNat_eq_natCast]; omega)
  | .u32, .ofNat m, h => by
    simp only [fits, Nat.blt_eq] at h
    exact IntWalk.u32_in _ (by simp only [Int.ofNat_eq_natCast]; omega)
  | .u8, .ofNat m, h => by
    simp only [fits, Nat.blt_eq] at h
    exact IntWalk.u8_in _ (by simp only [Int.ofNat_eq_natCast]; omega)
  | .i32, .ofNat m, h => by
    simp only [fits, Nat.blt_eq] at h
    exact IntWalk.i32_in _ (by simp only [Int.ofNat_eq_natCast]; omega)
  | .i32, .negSucc m, h => by
    simp only [fits, Nat.blt_eq] at h
    exact IntWalk.i32_in _ (by omega)
  | .u64, .negSucc _, h => by cases h
  | .u32, .negSucc _, h => by cases h
  | .u8, .negSucc _, h => by cases h
  | .i8, .ofNat _, h => by cases h
  | .i8, .negSucc _, h => by cases h
  | .i16, .ofNat _, h => by cases h
  | .i16, .negSucc _, h => by cases h
  | .u16, .ofNat _, h => by cases h
  | .u16, .negSucc _, h => by cases h
def wrapF (k : IntKind) (n : Int) : Int := bif fits k n then n else k.wrap n
theorem wrapF_eq (k : IntKind) (n : Int) : wrapF k n = k.wrap n := by
  unfold wrapF
  cases h : fits k n with
  | true => exact (fits_wrap h).symm
  | false => rfl

/-- arithmetic of one kind of whole numbers; none: it panics or is none -/
def intOp (op : BinOp) (k : IntKind) (a b : Int) : Option (Bool × SV) :=
  match op with
  | .add => some (true, .lit (.int k (wrapF k (a + b))))
  | .sub => some (true, .lit (.int k (wrapF k (a - b))))
  | .mul => some (true, .lit (.int k (wrapF k (a * b))))
  | .quo => some (!eqF b 0, .lit (.int k (wrapF k (a.tdiv b))))
  | .rem => some (!eqF b 0, .lit (.int k (a.tmod b)))
  | .and => some (true, .lit (.int k (wrapF k (BitVec.ofInt k.bits a &&& BitVec.ofInt k.bits b).toNat)))
  | .or => some (true, .lit (.int k (wrapF k (BitVec.ofInt k.bits a ||| BitVec.ofInt k.bits b).toNat)))
  | .xor => some (true, .lit (.int k (wrapF k (BitVec.ofInt k.bits a ^^^ BitVec.ofInt k.bits b).toNat)))
  | .andNot => some (true, .lit (.int k (wrapF k (BitVec.ofInt k.bits a &&& ~~~BitVec.ofInt k.bits b).toNat)))
  | .eql => some (true, .lit (.bool (eqF a b)))
  | .neq => some (true, .lit (.bool (!eqF a b)))
  | .lss => some (true, .lit (.bool (ltF a b)))
  | .leq => some (true, .lit (.bool (leF a b)))
  | .gtr => some (true, .lit (.bool (ltF b a)))
  | .geq => some (true, .lit (.bool (leF b a)))
  | _ => none

def shiftOp (op : BinOp) (k : IntKind) (a y : Int) : Option (Bool × SV) :=
  match op with
  | .shl => some (leF 0 y, .lit (.int k (wrapF k (a * 2 ^ min y.toNat k.bits))))
  | .shr => some (leF 0 y, .lit (.int k (a.fdiv (2 ^ min y.toNat k.bits))))
  | _ => none

section
variable {P : Program} {w : World}
theorem run_intOp {op : BinOp} {k : IntKind} {a b : Int} {s : SV} (T : TypeId) (h : intOp op k a b = some (true, s)) :
    ∃ v, s = .lit v ∧ (binOp op T (.int k a) (.int k b)).run P w = .ok v w := by
  cases op <;> simp only [intOp, Option.some.injEq, Prod.mk.injEq, true_and, reduceCtorEq, Bool.not_eq_true'] at h <;>
    first
      | (obtain ⟨h1, rfl⟩ := h; refine ⟨_, rfl, ?_⟩; rw [eqF_eq] at h1; simp only [beq_eq_false_iff_ne, ne_eq] at h1; simp [binOp, Op.intDiv, h1, wrapF_eq]; done)
      | (subst h; refine ⟨_, rfl, ?_⟩; simp [binOp, Op.intArith, Op.intBits, Op.intCmp, wrapF_eq, eqF_eq, ltF_eq, leF_eq]; done)
      | skip
  all_goals (subst h; refine ⟨_, rfl, ?_⟩; simp [binOp, Op.intArith, Op.intBits, Op.intCmp, wrapF_eq, eqF_eq, ltF_eq, leF_eq]; try rfl)
end
end Go.SE

namespace Go.SE
open Go.RowKit

/-- functions without a body -/
inductive Ext where
  | countS | indexByteS | same

def Ext.entry : Ext → Array Value → Sem Value
  | .countS => Extern.BytealgCount.count
  | .indexByteS => Extern.BytealgIndexByte.indexByte
  | .same => Extern.AbiNoEscape.same

/-- The program's types and functions, as maps. -/
structure Ctx where
  types : T TypeInfo
  funcs : T Func
  eqs : List TypeId      -- structs and arrays that are compared
  exts : List (FuncId × Ext)

def findExt : List (FuncId × Ext) → FuncId → Option Ext
  | [], _ => none
  | (g, e) :: l, f => bif Nat.beq g f then some e else findExt l f

def Ctx.info (c : Ctx) (t : TypeId) : Option TypeInfo := c.types.get t
def Ctx.und (c : Ctx) (t : TypeId) : Option TypeDesc :=
  match c.info t with
  | some i => (match i.desc with
    | .named _ u => (match c.info u with
      | some j => some j.desc
      | none => none)
    | d => some d)
  | none => none
def Ctx.size (c : Ctx) (t : TypeId) : Nat := match c.info t with | some i => i.size | none => 0
def isAggD : TypeDesc → Bool
  | .struct _ => true
  | .array _ _ => true
  | _ => false
def Ctx.agg (c : Ctx) (t : TypeId) : Bool := match c.und t with | some d => isAggD d | none => false

structure Ctx.Ok0 (c : Ctx) (P : Program) : Prop where
  types : ∀ t i, c.types.get t = some i → P.info? t = some i
  funcs : ∀ f fn, c.funcs.get f = some fn → P.funcs[f]? = some fn
  mixed : P.follows .mixedOrders = true

def ctxOf (P : Program) (eqs : List TypeId) (exts : List (FuncId × Ext)) : Ctx := ⟨T.ofList P.types.toList, T.ofList P.funcs.toList, eqs, exts⟩

theorem ctxOf_ok0 (P : Program) (eqs : List TypeId) (exts : List (FuncId × Ext)) (h : P.follows .mixedOrders = true) : (ctxOf P eqs exts).Ok0 P := by
  refine ⟨fun t i hi => ?_, fun f fn hf => ?_, h⟩
  · rw [ctxOf, T.get_ofList] at hi
    have hlt : t < P.types.size := by
      rcases Nat.lt_or_ge t P.types.size with h' | h'
      · exact h'
      · rw [List.getElem?_eq_none (by simpa using h')] at hi; cases hi
    show (if t < P.types.size then P.types[t]? else _) = some i
    rw [if_pos hlt]; simpa using hi
  · rw [ctxOf, T.get_ofList] at hf; simpa using hf

section
variable {c : Ctx} {P : Program} {w : World}
theorem Ctx.Ok0.info (K : c.Ok0 P) {t : TypeId} {i : TypeInfo} (h : c.info t = some i) : P.info? t = some i := K.types t i h
theorem Ctx.Ok0.und (K : c.Ok0 P) {t : TypeId} {d : TypeDesc} (h : c.und t = some d) : P.underlying t = some d := by
  unfold Ctx.und at h
  unfold Program.underlying
  cases h1 : c.info t with
  | none => rw [h1] at h; cases h
  | some i =>
    rw [h1] at h
    rw [K.info h1]
    obtain ⟨desc, str, size, bytes, hp, al, fa, z, cm, ms⟩ := i
    cases desc <;> simp only at h ⊢ <;> try exact h
    rename_i nm u
    cases h2 : c.info u with
    | none => rw [h2] at h; cases h
    | some j => rw [h2] at h; rw [K.info h2]; exact h
theorem Ctx.Ok0.size_pos (K : c.Ok0 P) {t : TypeId} (h : 0 < c.size t) : ∃ i, c.info t = some i ∧ i.size = c.size t ∧ P.info? t = some i ∧ P.cellsOf t = c.size t := by
  unfold Ctx.size at h ⊢
  cases h1 : c.info t with
  | none => rw [h1] at h; exact absurd h (by simp)
  | some i => exact ⟨i, rfl, rfl, K.info h1, by unfold Program.cellsOf; rw [K.info h1]; rfl⟩
theorem run_isAgg (K : c.Ok0 P) {t : TypeId} {d : TypeDesc} (h : c.und t = some d) : (isAgg t).run P w = .ok (c.agg t) w := by
  unfold isAgg Ctx.agg
  rw [h]
  simp only [Sem.run_bind, run_underlying (K.und h), Result.andThen_ok]
  cases d <;> rfl
end

/-- a part of cells -/
def partS (c : Ctx) (t : TypeId) (l : List SV) (off : Nat) : Option SV :=
  match c.und t, c.info t with
  | some d, some i => bif isAggD d then some (.agg ((l.drop off).take i.size)) else l[off]?
  | _, _ => none

theorem extract_toList (cs : Array Value) (off n : Nat) : (cs.extract off (off + n)).toList = (cs.toList.drop off).take n := by
  simp

section
variable {c : Ctx} {P : Program} {w : World} {ρ : Val}
theorem run_part (K : c.Ok0 P) {t : TypeId} {l : List SV} {off : Nat} {s : SV} (h : partS c t l off = some s) {cs : Array Value} (hl : VL ρ l cs.toList) :
    ∃ v, (part t cs off).run P w = .ok v w ∧ V ρ s v := by
  unfold partS at h
  cases h1 : c.und t with
  | none => rw [h1] at h; cases h
  | some d =>
    cases h2 : c.info t with
    | none => rw [h1, h2] at h; cases h
    | some i =>
      rw [h1, h2] at h
      have ha := run_isAgg (w := w) K h1
      have hag : c.agg t = isAggD d := by unfold Ctx.agg; rw [h1]
      simp only [← hag] at h
      unfold part
      simp only [Sem.run_bind, ha, Result.andThen_ok]
      cases hg : c.agg t with
      | true =>
        rw [hg] at h
        simp only [cond_true, Option.some.injEq] at h
        subst h
        refine ⟨.agg (cs.extract off (off + i.size)), ?_, ?_⟩
        · have hcs : P.cellsOf t = i.size := by unfold Program.cellsOf; rw [K.info h2]; rfl
          simp [run_sizeOf w (K.info h2), hcs]
        · exact ⟨_, rfl, by rw [extract_toList]; exact (hl.drop off).take i.size⟩
      | false =>
        rw [hg] at h
        simp only [cond_false] at h
        obtain ⟨v, hv, hV⟩ := hl.get h
        have hv' : cs[off]? = some v := by simpa using hv
        exact ⟨v, by simp [hv'], hV⟩
end

/-! == -/
def eqB (a b : Bool) : Bool := bif a then b else !b
def bytesEq : List UInt8 → List UInt8 → Bool
  | [], [] => true
  | a :: x, b :: y => bif Nat.beq a.toNat b.toNat then bytesEq x y else false
  | _, _ => false
def strEq (a b : ByteArray) : Bool := bytesEq a.data.toList b.data.toList
theorem eqB_eq (a b : Bool) : eqB a b = (a == b) := by cases a <;> cases b <;> rfl
theorem bytesEq_eq : ∀ (x y : List UInt8), bytesEq x y = (x == y)
  | [], [] => rfl
  | [], _ :: _ => rfl
  | _ :: _, [] => rfl
  | a :: x, b :: y => by
    rw [bytesEq, bytesEq_eq x y]
    by_cases h : a = b
    · subst h; rw [show Nat.beq a.toNat a.toNat = true from Nat.beq_refl _]; simp
    · have h' : Nat.beq a.toNat b.toNat = false := T.beq_ne (fun e => h (UInt8.toNat_inj.1 e))
      rw [h']; simp [h]
theorem strEq_eq (a b : ByteArray) : strEq a b = (a.toList == b.toList) := by
  rw [strEq, bytesEq_eq, ByteArray.toList_eq, ByteArray.toList_eq]

def allS {α : Type} (f : α → Option Bool) : List α → Option Bool
  | [] => some true
  | x :: xs => (match f x, allS f xs with
    | some r, some s => some (bif r then s else false)
    | _, _ => none)

def eqIn (c : Ctx) : Nat → TypeId → SV → SV → Option Bool
  | 0, _, _, _ => none
  | n + 1, t, x, y =>
    match c.und t with
    | some .bool => (match x.bool?, y.bool? with | some a, some b => some (eqB a b) | _, _ => none)
    | some (.int _) => (match x.int?, y.int? with | some (k, a), some (k', b) => (if k = k' then some (eqF a b) else none) | _, _ => none)
    | some .string => (match x.str?, y.str? with | some a, some b => some (strEq a b) | _, _ => none)
    | some (.array len e) => (match c.info e, x.agg?, y.agg? with
      | some i, some xs, some ys => allS (fun j => match partS c e xs (j * i.size), partS c e ys (j * i.size) with
        | some a, some b => eqIn c n e a b
        | _, _ => none) (List.range len)
      | _, _, _ => none)
    | some (.struct fs) => (match x.agg?, y.agg? with
      | some xs, some ys => allS (fun f => bif f.name == "_" then none else match partS c f.type xs f.offset, partS c f.type ys f.offset with
        | some a, some b => eqIn c n f.type a b
        | _, _ => none) fs.toList
      | _, _ => none)
    | _ => none

/-- of structs a fact is wanted that the program alone gives -/
def plainEq (c : Ctx) (P : Program) : Nat → TypeId → Bool
  | 0, _ => false
  | n + 1, t =>
    match c.und t with
    | some (.array _ e) => plainEq c P n e
    | some (.struct fs) => !P.stoodInHeld t && fs.toList.all (fun f => plainEq c P n f.type)
    | _ => true

section
variable {c : Ctx} {P : Program} {w : World} {ρ : Val}
theorem run_eqIn (K : c.Ok0 P) : ∀ (n : Nat) (d : Nat) (t : TypeId) (x y : SV) (r : Bool), eqIn c n t x y = some r → plainEq c P n t = true → n ≤ d → ∀ {vx vy : Value}, V ρ x vx → V ρ y vy →
    (Op.equalIn d t vx vy).run P w = .ok r w := by
  intro n
  induction n with
  | zero => intro d t x y r h; cases h
  | succ n ih =>
    intro d t x y r h hp hd vx vy hx hy
    obtain ⟨d, rfl⟩ : ∃ k, d = k + 1 := ⟨d - 1, by omega⟩
    rw [eqIn] at h
    cases hu : c.und t with
    | none => rw [hu] at h; cases h
    | some desc =>
      have hU := K.und hu
      rw [hu] at h
      cases desc with
      | bool =>
        simp only at h
        split at h <;> try (cases h; done)
        rename_i a b ha hb
        rw [SV.bool?_eq ha] at hx; rw [SV.bool?_eq hb] at hy
        cases hx; cases hy
        injection h with h; rw [run_equalIn_bool w d t a b hU, ← h, eqB_eq]
      | int kk =>
        simp only at h
        split at h <;> try (cases h; done)
        rename_i k a k' b ha hb
        rw [SV.int?_eq ha] at hx; rw [SV.int?_eq hb] at hy
        cases hx; cases hy
        split at h <;> try (cases h; done)
        rename_i hk; subst hk
        injection h with h; rw [run_equalIn_int w d t k _ a b hU, ← h, eqF_eq]
      | string =>
        simp only at h
        split at h <;> try (cases h; done)
        rename_i a b ha hb
        rw [SV.str?_eq ha] at hx; rw [SV.str?_eq hb] at hy
        cases hx; cases hy
        injection h with h; rw [run_equalIn_string w d t a b hU, ← h, strEq_eq]
      | array len e =>
        simp only at h
        rw [plainEq, hu] at hp
        simp only at hp
        split at h <;> try (cases h; done)
        rename_i i xs ys hi ha hb
        rw [SV.agg?_eq ha] at hx; rw [SV.agg?_eq hb] at hy
        obtain ⟨cx, rfl, hxs⟩ := hx
        obtain ⟨cy, rfl, hys⟩ := hy
        rw [run_equalIn_array w d cx cy hU (K.info hi)]
        have hcs : P.cellsOf e = i.size := by unfold Program.cellsOf; rw [K.info hi]; rfl
        rw [hcs]
        revert h r
        generalize List.range len = is
        induction is with
        | nil => intro r h; injection h with h; subst h; simp [Op.eqItems]
        | cons j is ihl =>
          intro r h
          rw [allS] at h
          split at h <;> try (cases h; done)
          rename_i r1 r2 h1 h2
          split at h1 <;> try (cases h1; done)
          rename_i a b ha hb
          obtain ⟨va, hva, hVa⟩ := run_part (w := w) K ha hxs
          obtain ⟨vb, hvb, hVb⟩ := run_part (w := w) K hb hys
          have := ih d e a b r1 h1 hp (by omega) hVa hVb
          simp only [Op.eqItems, Sem.run_bind, hva, hvb, this, Result.andThen_ok]
          injection h with h
          cases r1 with
          | true => simp only [Bool.not_true, Bool.false_eq_true, if_false]; rw [ihl r2 h2]; rw [← h]; rfl
          | false => rw [← h]; simp
      | struct fs =>
        simp only at h
        rw [plainEq, hu] at hp
        simp only [Bool.and_eq_true, Bool.not_eq_true'] at hp
        split at h <;> try (cases h; done)
        rename_i xs ys ha hb
        rw [SV.agg?_eq ha] at hx; rw [SV.agg?_eq hb] at hy
        obtain ⟨cx, rfl, hxs⟩ := hx
        obtain ⟨cy, rfl, hys⟩ := hy
        have hf : P.fieldsOf t = fs := by unfold Program.fieldsOf; rw [hU]
        rw [run_equalIn_struct w d t cx cy (by rw [hf]; exact hU) hp.1, hf]
        have hall := hp.2
        revert h r hall
        generalize fs.toList = is
        induction is with
        | nil => intro r h _; injection h with h; subst h; simp [Op.eqFields]
        | cons f is ihl =>
          intro r h hall
          rw [List.all_cons, Bool.and_eq_true] at hall
          rw [allS] at h
          split at h <;> try (cases h; done)
          rename_i r1 r2 h1 h2
          cases hnm : f.name == "_" with
          | true => rw [hnm] at h1; cases h1
          | false =>
            rw [hnm] at h1
            simp only [cond_false] at h1
            split at h1 <;> try (cases h1; done)
            rename_i a b ha hb
            obtain ⟨va, hva, hVa⟩ := run_part (w := w) K ha hxs
            obtain ⟨vb, hvb, hVb⟩ := run_part (w := w) K hb hys
            have := ih d f.type a b r1 h1 hall.1 (by omega) hVa hVb
            have hne : f.name ≠ "_" := by simpa using hnm
            simp only [Op.eqFields, if_pos hne, Sem.run_bind, hva, hvb, this, Result.andThen_ok]
            injection h with h
            cases r1 with
            | true => simp only [Bool.not_true, Bool.false_eq_true, if_false]; rw [ihl r2 h2 hall.2]; rw [← h]; rfl
            | false => rw [← h]; simp
      | _ => simp only at h; cases h
end

/-- is it nil? of a type of that kind -/
def nilOf : TypeDesc → SV → Option Bool
  | .pointer _, .lit (.pointer none) => some true
  | .pointer _, .lit (.pointer (some _)) => some false
  | .pointer _, .ptr _ _ => some false
  | .slice _, .lit (.slice none _ _) => some true
  | .slice _, .lit (.slice (some _) _ _) => some false
  | .slice _, .slc _ _ _ _ => some false
  | .slice _, .own _ _ => some false
  | .slice _, .tail _ _ _ _ _ => some false
  | .map _ _, .lit (.map none) => some true
  | .map _ _, .lit (.map (some _)) => some false
  | .map _ _, .ref _ => some false
  | .func _ _ _, .lit .nilFunc => some true
  | .func _ _ _, .fn _ _ _ => some false
  | .interface _, .lit .nilIface => some true
  | .interface _, .iface _ _ => some false
  | _, _ => none

def eqNil (d : TypeDesc) (x y : SV) : Option Bool :=
  match nilOf d x, nilOf d y with
  | some true, some b => some b
  | some false, some true => some false
  | _, _ => none

def eqAny (c : Ctx) (t : TypeId) (x y : SV) : Option Bool :=
  match c.und t with
  | some .bool => (match x.bool?, y.bool? with | some a, some b => some (eqB a b) | _, _ => none)
  | some (.array _ _) => bif c.eqs.elem t then eqIn c 8 t x y else none
  | some (.struct _) => bif c.eqs.elem t then eqIn c 8 t x y else none
  | some d => eqNil d x y
  | none => none

structure Ctx.Ok (c : Ctx) (P : Program) : Prop extends c.Ok0 P where
  named : ∀ f fn, c.funcs.get f = some fn → (fn.name == "runtime.NumGoroutine") = false
  eqs : ∀ t, c.eqs.elem t = true → P.eqGuardType P.depth t = false ∧ plainEq c P 8 t = true
  exts : ∀ f x, findExt c.exts f = some x → ∃ fn, P.funcs[f]? = some fn ∧ (fn.name == "runtime.NumGoroutine") = false ∧ fn.body.isNone = true ∧ Extern.findNext fn = none ∧ Extern.find fn = some x.entry

/-- what a value is, for a nil test -/
def nilV : TypeDesc → Value → Bool → Prop
  | .pointer _, v, b => ∃ a, v = .pointer a ∧ b = a.isNone
  | .slice _, v, b => ∃ a n m, v = .slice a n m ∧ b = a.isNone
  | .map _ _, v, b => ∃ a, v = .map a ∧ b = a.isNone
  | .func _ _ _, v, b => (v = .nilFunc ∧ b = true) ∨ (∃ f x y, v = .func f x y ∧ b = false)
  | .interface _, v, b => (v = .nilIface ∧ b = true) ∨ (∃ t x, v = .iface t x ∧ b = false)
  | _, _, _ => False

theorem nilOf_V {ρ : Val} {d : TypeDesc} {x : SV} {b : Bool} (h : nilOf d x = some b) {v : Value} (hv : V ρ x v) : nilV d v b := by
  cases d <;> cases x <;> (try (simp [nilOf] at h; done)) <;> (try (rename_i u; cases u <;> (try (simp [nilOf] at h; done)))) <;> simp only [V] at hv <;> simp only [nilV]
  all_goals first
    | (subst hv; rename_i a; cases a <;> simp [nilOf] at h <;> subst h <;> exact ⟨_, rfl, rfl⟩)
    | (subst hv; rename_i a n m; cases a <;> simp [nilOf] at h <;> subst h <;> exact ⟨_, _, _, rfl, rfl⟩)
    | (subst hv; simp [nilOf] at h; subst h; exact Or.inl ⟨rfl, rfl⟩)
    | (obtain ⟨b1, c1, _, rfl⟩ := hv; simp [nilOf] at h; subst h; exact ⟨_, rfl, rfl⟩)
    | (obtain ⟨b1, c1, _, rfl⟩ := hv; simp [nilOf] at h; subst h; exact ⟨_, _, _, rfl, rfl⟩)
    | (obtain ⟨b1, c1, _, rfl, _⟩ := hv; simp [nilOf] at h; subst h; exact ⟨_, _, _, rfl, rfl⟩)
    | (obtain ⟨b1, c1, rfl, _⟩ := hv; simp [nilOf] at h; subst h; exact Or.inr ⟨_, _, _, rfl, rfl⟩)
    | (obtain ⟨b1, rfl, _⟩ := hv; simp [nilOf] at h; subst h; exact Or.inr ⟨_, _, rfl, rfl⟩)

section
variable {c : Ctx} {P : Program} {w : World} {ρ : Val}
theorem run_eqNil (n : Nat) {t : TypeId} {d : TypeDesc} (hu : P.underlying t = some d) {vx vy : Value} {a b r : Bool} (hx : nilV d vx a) (hy : nilV d vy b)
    (hr : (a = true ∧ r = b) ∨ (a = false ∧ b = true ∧ r = false)) : (Op.equalIn (n + 1) t vx vy).run P w = .ok r w := by
  cases d <;> simp only [nilV] at hx hy
  · obtain ⟨p, rfl, rfl⟩ := hx
    obtain ⟨q, rfl, rfl⟩ := hy
    cases p <;> cases q <;> simp at hr <;> subst hr <;> simp [Op.equalIn, run_underlying hu]
  · obtain ⟨p, n, m, rfl, rfl⟩ := hx
    obtain ⟨q, n', m', rfl, rfl⟩ := hy
    cases p <;> cases q <;> simp at hr <;> subst hr <;> simp [Op.equalIn, run_underlying hu]
  · obtain ⟨p, rfl, rfl⟩ := hx
    obtain ⟨q, rfl, rfl⟩ := hy
    cases p <;> cases q <;> simp at hr <;> subst hr <;> simp [Op.equalIn, run_underlying hu]
  · rcases hx with ⟨rfl, rfl⟩ | ⟨f, x, y, rfl, rfl⟩ <;> rcases hy with ⟨rfl, rfl⟩ | ⟨f', x', y', rfl, rfl⟩ <;> simp at hr <;> subst hr <;> simp [Op.equalIn, run_underlying hu]
  · rcases hx with ⟨rfl, rfl⟩ | ⟨f, x, rfl, rfl⟩ <;> rcases hy with ⟨rfl, rfl⟩ | ⟨f', x', rfl, rfl⟩ <;> simp at hr <;> subst hr <;> simp [Op.equalIn, run_underlying hu]
end
end Go.SE

namespace Go.SE
open Go.RowKit

/-- neither a number nor a string -/
def other : Value → Bool
  | .int _ _ => false
  | .float _ _ => false
  | .complex _ _ _ => false
  | .string _ => false
  | _ => true
theorem nilV_other {d : TypeDesc} {v : Value} {b : Bool} (h : nilV d v b) : other v = true := by
  cases d <;> simp only [nilV] at h
  · obtain ⟨_, rfl, _⟩ := h; rfl
  · obtain ⟨_, _, _, rfl, _⟩ := h; rfl
  · obtain ⟨_, rfl, _⟩ := h; rfl
  · rcases h with ⟨rfl, _⟩ | ⟨_, _, _, rfl, _⟩ <;> rfl
  · rcases h with ⟨rfl, _⟩ | ⟨_, _, rfl, _⟩ <;> rfl
theorem run_eql_other {P : Program} {w : World} (t : TypeId) {x y : Value} (h : other x = true) {r : Bool} (he : (Op.equal t x y).run P w = .ok r w) : (binOp .eql t x y).run P w = .ok (.bool r) w := by
  have : binOp .eql t x y = (do pure (.bool (← Op.equal t x y)) : Sem Value) := by
    cases x <;> simp [other] at h <;> cases y <;> rfl
  rw [this]
  simp [he]
theorem run_neq_other {P : Program} {w : World} (t : TypeId) {x y : Value} (h : other x = true) {r : Bool} (he : (Op.equal t x y).run P w = .ok r w) : (binOp .neq t x y).run P w = .ok (.bool (!r)) w := by
  have : binOp .neq t x y = (do pure (.bool (!(← Op.equal t x y))) : Sem Value) := by
    cases x <;> simp [other] at h <;> cases y <;> rfl
  rw [this]
  simp [he]

section
variable {c : Ctx} {P : Program} {w : World} {ρ : Val}
theorem run_eqAny (K : c.Ok P) {t : TypeId} {x y : SV} {r : Bool} (h : eqAny c t x y = some r) {vx vy : Value} (hx : V ρ x vx) (hy : V ρ y vy) : (Op.equal t vx vy).run P w = .ok r w ∧ other vx = true := by
  show (Op.equalIn (9999 + 1) t vx vy).run P w = .ok r w ∧ other vx = true
  unfold eqAny at h
  cases hu : c.und t with
  | none => rw [hu] at h; cases h
  | some d =>
    rw [hu] at h
    have hU := K.und hu
    have hwide : (∃ n e, d = .array n e) ∨ (∃ fs, d = .struct fs) → eqIn c 8 t x y = some r → other vx = true := by
      intro hd h
      rw [eqIn, hu] at h
      have : ∃ l, x.agg? = some l := by
        rcases hd with ⟨n, e, rfl⟩ | ⟨fs, rfl⟩ <;> simp only at h <;> split at h <;> first | exact ⟨_, by assumption⟩ | (cases h; done)
      obtain ⟨l, hl⟩ := this
      rw [SV.agg?_eq hl] at hx
      obtain ⟨cs, rfl, _⟩ := hx
      rfl
    have hagg : ((∃ n e, d = .array n e) ∨ (∃ fs, d = .struct fs)) → ∀ (h : (bif c.eqs.elem t then eqIn c 8 t x y else none) = some r), (Op.equalIn (9999 + 1) t vx vy).run P w = .ok r w ∧ other vx = true := by
      intro hd h
      cases hm : c.eqs.elem t with
      | false => rw [hm] at h; cases h
      | true =>
        rw [hm] at h
        refine ⟨run_eqIn K.toOk0 8 _ t x y r h (K.eqs t hm).2 (by omega) hx hy, ?_⟩
        exact hwide hd h
    have hnil : ∀ (h : eqNil d x y = some r), (Op.equalIn (9999 + 1) t vx vy).run P w = .ok r w ∧ other vx = true := by
      intro h
      unfold eqNil at h
      split at h <;> try (cases h; done)
      · rename_i b h1 h2
        injection h with h
        exact ⟨run_eqNil 9999 hU (nilOf_V h1 hx) (nilOf_V h2 hy) (Or.inl ⟨rfl, h.symm⟩), nilV_other (nilOf_V h1 hx)⟩
      · rename_i h1 h2
        injection h with h
        exact ⟨run_eqNil 9999 hU (nilOf_V h1 hx) (nilOf_V h2 hy) (Or.inr ⟨rfl, rfl, h.symm⟩), nilV_other (nilOf_V h1 hx)⟩
    cases d with
    | bool =>
      simp only at h
      split at h <;> try (cases h; done)
      rename_i a b ha hb
      rw [SV.bool?_eq ha] at hx; rw [SV.bool?_eq hb] at hy
      cases hx; cases hy
      injection h with h; exact ⟨by rw [run_equalIn_bool w 9999 t a b hU, ← h, eqB_eq], rfl⟩
    | array len e => exact hagg (Or.inl ⟨_, _, rfl⟩) h
    | struct fs => exact hagg (Or.inr ⟨_, rfl⟩) h
    | _ => exact hnil h
end

/-- a comparison with '==' whose guard says nothing -/
def guardOk (c : Ctx) (t : TypeId) (x y : SV) (xo yo : Operand) : Bool :=
  match x, y with
  | .any, _ => false
  | _, .any => false
  | .lit .nilIface, .lit .nilIface => Region.isConst xo || Region.isConst yo
  | .agg _, _ => c.eqs.elem t
  | _, .agg _ => c.eqs.elem t
  | .lit (.agg _), _ => false
  | _, .lit (.agg _) => false
  | _, _ => true

def isShift : BinOp → Bool
  | .shl => true
  | .shr => true
  | _ => false

def strOp (op : BinOp) (a b : ByteArray) : Option (Bool × SV) :=
  match op with
  | .eql => some (true, .lit (.bool (strEq a b)))
  | .neq => some (true, .lit (.bool (!strEq a b)))
  | .lss => some (true, .lit (.bool (Op.bytesLess a.data.toList b.data.toList)))
  | .gtr => some (true, .lit (.bool (!(Op.bytesLess a.data.toList b.data.toList || strEq a b))))
  | .add => some (Nat.blt (a.size + b.size) 9223372036854775808, .lit (.string (a ++ b)))
  | _ => none

def binS (c : Ctx) (op : BinOp) (t : TypeId) (xo yo : Operand) (x y : SV) : Option (Bool × SV) :=
  match x.int?, y.int? with
  | some (k, a), some (k', b) => bif isShift op then shiftOp op k a b else (if k = k' then intOp op k a b else none)
  | _, _ =>
    match x.str?, y.str? with
    | some a, some b => strOp op a b
    | _, _ =>
      match op with
      | .eql => bif guardOk c t x y xo yo then (eqAny c t x y).map fun r => (true, .lit (.bool r)) else none
      | .neq => bif guardOk c t x y xo yo then (eqAny c t x y).map fun r => (true, .lit (.bool (!r))) else none
      | _ => none

section
variable {c : Ctx} {P : Program} {w : World} {ρ : Val}
theorem run_eqGuard_int (op : BinOp) (t : TypeId) (x y : Operand) (k k' : IntKind) (a b : Int) : (eqGuard op t x y (.int k a) (.int k' b)).run P w = .ok () w := by
  cases op <;> simp [eqGuard]
theorem run_eqGuard_str (op : BinOp) (t : TypeId) (x y : Operand) (a b : ByteArray) : (eqGuard op t x y (.string a) (.string b)).run P w = .ok () w := by
  cases op <;> simp [eqGuard]

theorem V_agg_of {x : SV} {cs : Array Value} (h : V ρ x (.agg cs)) : (∃ l, x = .agg l) ∨ x = .lit (.agg cs) ∨ x = .any := by
  cases x <;> simp only [V] at h
  · exact Or.inr (Or.inl (by rw [h]))
  all_goals first
    | exact Or.inr (Or.inr rfl)
    | (obtain ⟨_, _, _, h⟩ := h; cases h; done)
    | (obtain ⟨_, _, _, h, _⟩ := h; cases h; done)
    | (obtain ⟨_, _, h, _⟩ := h; cases h; done)
    | (obtain ⟨_, h, _⟩ := h; cases h; done)
    | exact Or.inl ⟨_, rfl⟩
theorem V_nilIface_of {x : SV} (h : V ρ x .nilIface) (hne : x ≠ .any) : x = .lit .nilIface := by
  cases x <;> simp only [V] at h
  · rw [h]
  all_goals first
    | exact (hne rfl).elim
    | (obtain ⟨_, _, _, h⟩ := h; cases h; done)
    | (obtain ⟨_, _, _, h, _⟩ := h; cases h; done)
    | (obtain ⟨_, _, h, _⟩ := h; cases h; done)
    | (obtain ⟨_, h, _⟩ := h; cases h; done)

theorem run_guard (K : c.Ok P) (op : BinOp) {t : TypeId} {x y : SV} {xo yo : Operand} (h : guardOk c t x y xo yo = true) {vx vy : Value} (hx : V ρ x vx) (hy : V ρ y vy) :
    (eqGuard op t xo yo vx vy).run P w = .ok () w := by
  have key : ∀ vx vy, (eqGuard .eql t xo yo vx vy).run P w = .ok () w → (eqGuard op t xo yo vx vy).run P w = .ok () w := by
    intro vx vy h
    cases op <;> first | (simp [eqGuard]; done) | exact h | skip
    all_goals (unfold eqGuard at h ⊢; simpa using h)
  apply key
  unfold eqGuard
  rw [if_neg (by simp)]
  cases vx with
  | nilIface =>
    cases vy with
    | nilIface =>
      have hx1 : x ≠ .any := by intro he; subst he; cases h
      have hy1 : y ≠ .any := by intro he; subst he; cases x <;> cases h
      rw [V_nilIface_of hx hx1, V_nilIface_of hy hy1] at h
      simp only [guardOk] at h
      cases xo <;> cases yo <;> simp [Region.isConst] at h ⊢
    | _ => simp
  | agg cs =>
    cases vy with
    | agg cs' =>
      have hm : c.eqs.elem t = true := by
        rcases V_agg_of hx with ⟨l, rfl⟩ | rfl | rfl
        · cases y <;> first | exact h | cases h
        · rcases V_agg_of hy with ⟨l', rfl⟩ | rfl | rfl
          · exact h
          · cases h
          · cases h
        · cases h
      simp [run_program, (K.eqs t hm).1]
    | _ => simp
  | _ => simp

theorem run_shiftOp {op : BinOp} {k yk : IntKind} {a b : Int} {s : SV} (T : TypeId) (h : shiftOp op k a b = some (true, s)) :
    ∃ v, s = .lit v ∧ (binOp op T (.int k a) (.int yk b)).run P w = .ok v w := by
  cases op <;> simp only [shiftOp, Option.some.injEq, Prod.mk.injEq, reduceCtorEq] at h
  all_goals
    obtain ⟨h1, rfl⟩ := h
    rw [leF_eq, decide_eq_true_iff] at h1
    have h2 : ¬ b < 0 := by omega
    exact ⟨_, rfl, by simp [binOp, Op.shift, h2, wrapF_eq]⟩

theorem run_strOp {op : BinOp} {a b : ByteArray} {s : SV} (T : TypeId) (h : strOp op a b = some (true, s)) :
    ∃ v, s = .lit v ∧ (binOp op T (.string a) (.string b)).run P w = .ok v w := by
  cases op <;> simp only [strOp, Option.some.injEq, Prod.mk.injEq, reduceCtorEq, true_and] at h
  · obtain ⟨h1, rfl⟩ := h
    rw [Nat.blt_eq] at h1
    have h2 : ¬ ((a.size + b.size : Nat) : Int) > IntKind.i64.max := by
      show ¬ ((a.size + b.size : Nat) : Int) > 9223372036854775807
      omega
    exact ⟨_, rfl, by simp only [binOp, Op.stringOp, if_neg h2]; rfl⟩
  all_goals (subst h; exact ⟨_, rfl, by simp [binOp, Op.stringOp, strEq_eq, ByteArray.toList_eq]⟩)

theorem run_binS (K : c.Ok P) {op : BinOp} {t : TypeId} {xo yo : Operand} {x y s : SV} (h : binS c op t xo yo x y = some (true, s)) {vx vy : Value} (hx : V ρ x vx) (hy : V ρ y vy) :
    ∃ v, s = .lit v ∧ (do eqGuard op t xo yo vx vy; binOp op t vx vy : Sem Value).run P w = .ok v w := by
  unfold binS at h
  split at h
  · rename_i k a k' b h1 h2
    rw [SV.int?_eq h1] at hx; rw [SV.int?_eq h2] at hy
    cases hx; cases hy
    simp only [Sem.run_bind, run_eqGuard_int, Result.andThen_ok]
    cases hs : isShift op with
    | true => rw [hs] at h; exact run_shiftOp t h
    | false =>
      rw [hs] at h
      simp only [cond_false] at h
      split at h
      · rename_i hk; subst hk; exact run_intOp t h
      · cases h
  · split at h
    · rename_i a b h1 h2
      rw [SV.str?_eq h1] at hx; rw [SV.str?_eq h2] at hy
      cases hx; cases hy
      simp only [Sem.run_bind, run_eqGuard_str, Result.andThen_ok]
      exact run_strOp t h
    · rename_i hni hns
      cases hg : guardOk c t x y xo yo with
      | false => rw [hg] at h; cases op <;> cases h
      | true =>
        rw [hg] at h
        cases op <;> simp only [cond_true, Option.map_eq_some_iff, Prod.mk.injEq, true_and, reduceCtorEq] at h
        · obtain ⟨r, hr, rfl⟩ := h
          obtain ⟨h2, h3⟩ := run_eqAny (w := w) K hr hx hy
          refine ⟨_, rfl, ?_⟩
          simp only [Sem.run_bind, run_guard (w := w) K _ hg hx hy, Result.andThen_ok]
          exact run_eql_other t h3 h2
        · obtain ⟨r, hr, rfl⟩ := h
          obtain ⟨h2, h3⟩ := run_eqAny (w := w) K hr hx hy
          refine ⟨_, rfl, ?_⟩
          simp only [Sem.run_bind, run_guard (w := w) K _ hg hx hy, Result.andThen_ok]
          exact run_neq_other t h3 h2
end
end Go.SE

namespace Go.SE
open Go.RowKit

/-- a value that lies in one cell, or its cells -/
def SV.cells : SV → List SV
  | .agg l => l
  | s => [s]
def SV.one : SV → Bool
  | .lit (.agg _) => false
  | .lit (.tuple _) => false
  | .agg _ => false
  | .tup _ => false
  | .any => false
  | _ => true

def unS (op : UnOp) (x : SV) : Option (Bool × SV) :=
  match op with
  | .neg => (match x.int? with | some (k, n) => some (true, .lit (.int k (wrapF k (0 - n)))) | none => none)
  | .xor => (match x.int? with | some (k, n) => some (true, .lit (.int k (wrapF k (BitVec.ofInt k.bits (if k.signed then -1 else k.max) ^^^ BitVec.ofInt k.bits n).toNat))) | none => none)
  | .not => (match x.bool? with | some b => some (true, .lit (.bool (!b))) | none => none)
  | .plus => none

def convS (c : Ctx) (src dst : TypeId) (x : SV) : Option (Bool × SV) :=
  match c.und src, c.und dst with
  | some _, some (.int k) => (match x.int? with | some (_, n) => some (true, .lit (.int k (wrapF k n))) | none => none)
  | some _, some .string => (match x.str? with | some s => some (true, .lit (.string s)) | none => none)
  | _, _ => none

/-- a field's or an element's place -/
def fieldAddrS (c : Ctx) (t : TypeId) (x : SV) (f : Nat) : Option (Bool × SV) :=
  match c.und t, x with
  | some (.struct fs), .ptr i off => (match fs.toList[f]? with
    | some fd => bif Nat.blt 0 (c.size fd.type) then some (true, .ptr i (off + fd.offset)) else none
    | none => none)
  | _, _ => none

def fieldS (c : Ctx) (t : TypeId) (x : SV) (f : Nat) : Option (Bool × SV) :=
  match c.und t, x.agg? with
  | some (.struct fs), some l => (match fs.toList[f]? with
    | some fd => (partS c fd.type l fd.offset).map fun s => (true, s)
    | none => none)
  | _, _ => none

def inRange (n : Int) (len : Nat) : Bool := leF 0 n && ltF n (len : Int)

def indexAddrS (c : Ctx) (t : TypeId) (x ix : SV) : Option (Bool × SV) :=
  match c.und t, ix.int? with
  | some (.array len e), some (_, n) => (match x, c.info e with
    | .ptr i off, some inf => some (inRange n len, .ptr i (off + n.toNat * inf.size))
    | _, _ => none)
  | some (.slice e), some (_, n) => (match x, c.info e with
    | .slc i off len _, some inf => some (inRange n len, .ptr i (off + n.toNat * inf.size))
    | .own i len, some inf => some (inRange n len, .ptr i (n.toNat * inf.size))
    | .tail i off _ len _, some inf => some (inRange n len, .ptr i (off + n.toNat * inf.size))
    | _, _ => none)
  | _, _ => none

def indexS (c : Ctx) (t : TypeId) (x ix : SV) : Option (Bool × SV) :=
  match c.und t, ix.int? with
  | some .string, some (_, n) => (match x.str? with
    | some s => some (inRange n s.size, .lit (.int .u8 ((s.data.toList.getD n.toNat 0).toNat : Int)))
    | none => none)
  | some (.array len e), some (_, n) => (match x.agg?, c.info e with
    | some l, some inf => (partS c e l (n.toNat * inf.size)).map fun s => (inRange n len, s)
    | _, _ => none)
  | _, _ => none

theorem inRange_eq {n : Int} {len : Nat} (h : inRange n len = true) : 0 ≤ n ∧ n < (len : Int) := by
  simp only [inRange, Bool.and_eq_true, leF_eq, ltF_eq, decide_eq_true_eq] at h
  exact h

section
variable {c : Ctx} {P : Program} {w : World} {ρ : Val}
theorem run_unS {op : UnOp} {x s : SV} (h : unS op x = some (true, s)) {vx : Value} (hx : V ρ x vx) : ∃ v, s = .lit v ∧ (Op.unary op vx).run P w = .ok v w := by
  cases op <;> simp only [unS] at h <;> try (cases h; done)
  all_goals (split at h <;> try (cases h; done))
  · rename_i k n hi
    rw [SV.int?_eq hi] at hx; cases hx
    simp only [Option.some.injEq, Prod.mk.injEq, true_and] at h
    exact ⟨_, h.symm, by simp [Op.unary, Op.intArith, wrapF_eq]⟩
  · rename_i k n hi
    rw [SV.int?_eq hi] at hx; cases hx
    simp only [Option.some.injEq, Prod.mk.injEq, true_and] at h
    exact ⟨_, h.symm, by simp [Op.unary, Op.intBits, wrapF_eq]⟩
  · rename_i b hi
    rw [SV.bool?_eq hi] at hx; cases hx
    simp only [Option.some.injEq, Prod.mk.injEq, true_and] at h
    exact ⟨_, h.symm, by simp [Op.unary]⟩

theorem run_convS (K : c.Ok P) {src dst : TypeId} {x s : SV} (h : convS c src dst x = some (true, s)) {vx : Value} (hx : V ρ x vx) : ∃ v, s = .lit v ∧ (convert src dst vx).run P w = .ok v w := by
  unfold convS at h
  cases h1 : c.und src with
  | none => rw [h1] at h; cases h
  | some d1 =>
    cases h2 : c.und dst with
    | none => rw [h1, h2] at h; cases h
    | some d2 =>
      rw [h1, h2] at h
      cases d2 with
      | int k =>
        simp only at h
        split at h <;> try (cases h; done)
        rename_i k' n hi
        rw [SV.int?_eq hi] at hx; cases hx
        simp only [Option.some.injEq, Prod.mk.injEq, true_and] at h
        exact ⟨_, h.symm, by simp [convert, run_underlying (K.und h1), run_underlying (K.und h2), Conv.intToInt, wrapF_eq]⟩
      | string =>
        simp only at h
        split at h <;> try (cases h; done)
        rename_i s' hi
        rw [SV.str?_eq hi] at hx; cases hx
        simp only [Option.some.injEq, Prod.mk.injEq, true_and] at h
        refine ⟨_, h.symm, ?_⟩
        cases d1 <;> simp [convert, run_underlying (K.und h1), run_underlying (K.und h2)]
      | _ => cases h

theorem Addr_add (b off n : Nat) : (⟨b, off, none⟩ : Addr).add n = ⟨b, off + n, none⟩ := by
  unfold Addr.add
  split
  · rename_i h; subst h; rfl
  · rfl

theorem V_ptr {i off : Nat} {v : Value} (h : V ρ (.ptr i off) v) (n : Nat) : ∃ b c, ρ i = some (b, c) ∧ v = .pointer (some ⟨b, off, none⟩) ∧ V ρ (.ptr i (off + n)) (.pointer (some ((⟨b, off, none⟩ : Addr).add n))) := by
  obtain ⟨b, c, h1, h2⟩ := h
  exact ⟨b, c, h1, h2, b, c, h1, by rw [Addr_add]⟩

theorem run_fieldAddrS (K : c.Ok P) {t : TypeId} {x s : SV} {f : Nat} (h : fieldAddrS c t x f = some (true, s)) {vx : Value} (hx : V ρ x vx) : ∃ v, (Instr.fieldAt t vx f).run P w = .ok v w ∧ V ρ s v := by
  unfold fieldAddrS at h
  split at h <;> try (cases h; done)
  rename_i fs i off hu
  split at h <;> try (cases h; done)
  rename_i fd hf
  cases hs : Nat.blt 0 (c.size fd.type) with
  | false => rw [hs] at h; cases h
  | true =>
    rw [hs] at h
    simp only [cond_true, Option.some.injEq, Prod.mk.injEq, true_and] at h
    subst h
    rw [Nat.blt_eq] at hs
    obtain ⟨inf, hi1, hi2, hi3, hi4⟩ := K.size_pos hs
    obtain ⟨b, cp, h1, rfl, h3⟩ := V_ptr hx fd.offset
    refine ⟨_, ?_, h3⟩
    have hf' : fs[f]? = some fd := by simpa using hf
    have hz : P.cellsOf fd.type ≠ 0 := by omega
    simp [Instr.fieldAt, Instr.sureAddr, run_underlying (K.und hu), hf', fieldPlace, run_sizeOf w hi3, hz]

theorem run_fieldS (K : c.Ok P) {t : TypeId} {x s : SV} {f : Nat} (h : fieldS c t x f = some (true, s)) {vx : Value} (hx : V ρ x vx) : ∃ v, (Instr.field t vx f).run P w = .ok v w ∧ V ρ s v := by
  unfold fieldS at h
  split at h <;> try (cases h; done)
  rename_i fs l hu ha
  split at h <;> try (cases h; done)
  rename_i fd hf
  simp only [Option.map_eq_some_iff, Prod.mk.injEq, true_and] at h
  obtain ⟨s', hp, rfl⟩ := h
  rw [SV.agg?_eq ha] at hx
  obtain ⟨cs, rfl, hl⟩ := hx
  obtain ⟨v, hv, hV⟩ := run_part (w := w) K.toOk0 hp hl
  have hf' : fs[f]? = some fd := by simpa using hf
  exact ⟨v, by simp [Instr.field, run_underlying (K.und hu), hf', asAgg, hv], hV⟩
end
end Go.SE

