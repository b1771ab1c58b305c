/- The symbolic executor: append, copy, maps, ranges. No condition. -/
import Derived.Test.YtfcgnheaggpccaaGreatDoorPB
import Derived.Test.YtfcgnheaggpccaaGreatDoorPA
import Derived.Laws.RangeAny
import Derived.Maps.RangeRun
namespace Go.SE
open Go.RowKit

/-- what is behind an append, or copied: elements, all known; or numbers, a list -/
inductive Row where
  | svs (l : List SV)
  | ints (k : IntKind) (l : List Int)

def Row.svs? : Row → List SV
  | .svs l => l
  | .ints k l => l.map fun x => .lit (.int k x)

/-- n elements of a source, of so many cells each: whether they are there, and they -/
def rowOf (r : Res) (off n : Nat) : Option (Bool × Row) :=
  match r with
  | .cells l _ => some (Nat.ble (off + n) l.length, .svs ((l.drop off).take n))
  | .own l _ _ => some (Nat.ble (off + n) l.length, .svs ((l.drop off).take n))
  | .ints k l _ => some (Nat.ble (off + n) l.length, .ints k ((l.drop off).take n))
  | .owni k l _ => some (Nat.ble (off + n) l.length, .ints k ((l.drop off).take n))
  | .mark k l _ => some (Nat.ble (off + n) l.length, .ints k ((l.drop off).take n))
  | _ => none

/-- a source: how many elements; whether they are there, and they -/
def srcS (x : SV) (sz : Nat) (h : Heap) : Option (Nat × Bool × Row) :=
  match x with
  | .lit (.slice none m _) => some (m, Nat.beq m 0, .svs [])
  | .slc i off m _ => (match h.m.get i with
    | some (_, r) => (match rowOf r off (m * sz) with | some (b, l) => some (m, b, l) | none => none)
    | none => none)
  | .own i m => (match h.m.get i with
    | some (_, r) => (match rowOf r 0 (m * sz) with | some (b, l) => some (m, b, l) | none => none)
    | none => none)
  | .tail i off _ m _ => bif Nat.beq m 0 then some (0, true, .svs []) else (match h.m.get i with
    | some (_, r) => (match rowOf r off (m * sz) with | some (b, l) => some (m, b, l) | none => none)
    | none => none)
  | .lit (.string s) => some (s.size, Nat.beq sz 1, .ints .u8 (s.data.toList.map fun b => (b.toNat : Int)))
  | _ => none

/-- a new row -/
def Row.fresh (l : Row) (E : TypeId) (sz : Nat) : Res :=
  match l with
  | .svs l => .own l E sz
  | .ints k l => bif Nat.beq sz 1 then .owni k l E else .own (l.map fun x => .lit (.int k x)) E sz

/-- a new row of two -/
def joinRow (l l' : Row) (E : TypeId) (sz : Nat) : Res :=
  match l, l' with
  | .ints k a, .ints k' b => bif Nat.beq sz 1 && decide (k' = k) then .owni k (a ++ b) E else .own (l.svs? ++ l'.svs?) E sz
  | _, _ => .own (l.svs? ++ l'.svs?) E sz

def boundOk (n bytes : Nat) : Bool := Nat.ble (n * bytes) 140737488355328 && Nat.ble n 140737488355328

def notInt : TypeDesc → Bool
  | .slice _ => true
  | .string => true
  | _ => false

def appendS (c : Ctx) (t u : TypeId) (s x : SV) (h : Heap) (idx : Nat) : Out :=
  match (match c.und u with | some d => bif notInt d then c.und t else none | none => none) with
  | some (.slice e) => (match c.info e, zeroS c e with
    | some inf, some z => bif Nat.beq z.cells.length inf.size && Nat.blt 0 inf.size then (match srcS x inf.size h with
      | some (m, b, news) => .need b (match s with
        | .lit (.slice none 0 0) => .br (Nat.beq m 0) (.val (.lit (.slice none 0 0)) h) (.need (boundOk m inf.bytes && h.free idx) (.val (.own idx m) (h.put idx (news.fresh e inf.size))))
        | .own i n => (match h.m.get i with
          | some (true, .own l E sz) => bif Nat.beq E e && Nat.beq sz inf.size then .need (Nat.ble (n * sz) l.length && (boundOk (n + m) inf.bytes && (h.free idx && news.svs?.all SV.one)))
              (.val (.own idx (n + m)) ((h.turn i (.was idx (.own l E sz))).put idx (.own (l.take (n * sz) ++ news.svs?) e sz))) else .bad
          | some (true, .owni k l E) => (match news with
            | .ints k' l' => bif Nat.beq E e && (Nat.beq inf.size 1 && decide (k' = k)) then .need (Nat.ble n l.length && (boundOk (n + m) inf.bytes && h.free idx))
              (.val (.own idx (n + m)) ((h.turn i (.was idx (.owni k l E))).put idx (.owni k (l.take n ++ l') e))) else .bad
            | .svs [v] => (match v.int? with
              | some (k', a) => bif Nat.beq E e && (Nat.beq inf.size 1 && decide (k' = k)) then .need (Nat.ble n l.length && (boundOk (n + m) inf.bytes && h.free idx))
                (.val (.own idx (n + m)) ((h.turn i (.was idx (.owni k l E))).put idx (.owni k (l.take n ++ [a]) e))) else .bad
              | none => .bad)
            | _ => .bad)
          | _ => .bad)
        | .slc i off n cap => (match h.m.get i with
          | some (x, r) => .br (Nat.ble (n + m) cap)
              (match putRes r (off + n * inf.size) news.svs?, x with
                | some (b, r'), true => .need b (.val (.slc i off (n + m) cap) (h.turn i r'))
                | _, _ => .bad)
              (match rowOf r off (n * inf.size) with
                | some (b, l) => .need (b && (boundOk (n + m) inf.bytes && h.free idx)) (.val (.own idx (n + m)) (h.put idx (joinRow l news e inf.size)))
                | none => .bad)
          | none => .bad)
        | _ => .bad)
      | none => .bad) else .bad
    | _, _ => .bad)
  | _ => .bad

section
variable {c : Ctx} {P : Program} {e : Env} {ρ : Val} {h : Heap} {w : World} {Q : SV → Heap → Prop}

theorem VL_ints (k : IntKind) : ∀ (l : List Int), VL ρ (l.map fun x => .lit (.int k x)) (l.map (Value.int k))
  | [] => trivial
  | _ :: l => ⟨rfl, VL_ints k l⟩

/-- the cells of a row -/
def RowIs (ρ : Val) : Row → List Value → Prop
  | .svs l, us => VL ρ l us
  | .ints k l, us => us = l.map (Value.int k)
theorem RowIs.svs {r : Row} {us : List Value} (h : RowIs ρ r us) : VL ρ r.svs? us := by
  cases r with
  | svs l => exact h
  | ints k l => have h' : us = _ := h; subst h'; exact VL_ints k l

theorem rowOf_cells {b cp : Nat} {r : Res} (hr : Holds ρ b cp w r) {off n : Nat} {l : Row} (h : rowOf r off n = some (true, l)) :
    ∃ us : List Value, us.length = n ∧ RowIs ρ l us ∧ ∀ j v, us[j]? = some v → w.cell? ⟨b, off + j, none⟩ = some v := by
  cases r with
  | cells l' E =>
    simp only [rowOf, Option.some.injEq, Prod.mk.injEq] at h
    obtain ⟨h1, rfl⟩ := h
    exact lookN_cells (r := .cells l' E) hr (by rw [lookN, h1])
  | own l' E sz =>
    simp only [rowOf, Option.some.injEq, Prod.mk.injEq] at h
    obtain ⟨h1, rfl⟩ := h
    exact lookN_cells (r := .own l' E sz) hr (by rw [lookN, h1])
  | ints k l' E =>
    simp only [rowOf, Option.some.injEq, Prod.mk.injEq] at h
    obtain ⟨h1, rfl⟩ := h
    rw [Nat.ble_eq] at h1
    obtain ⟨cs, g1, g2⟩ := hr
    refine ⟨((l'.drop off).take n).map (Value.int k), by rw [List.length_map, List.length_take, List.length_drop]; omega, rfl, fun j v hj => ?_⟩
    rw [cell_at g1]
    have : cs[off + j]? = cs.toList[off + j]? := by simp
    rw [this, g2]
    rw [List.getElem?_map, List.getElem?_take] at hj
    split at hj
    · rw [List.getElem?_drop] at hj; rw [List.getElem?_map]; exact hj
    · cases hj
  | owni k l' E =>
    simp only [rowOf, Option.some.injEq, Prod.mk.injEq] at h
    obtain ⟨h1, rfl⟩ := h
    rw [Nat.ble_eq] at h1
    obtain ⟨cs, g1, _, g3, _, g2⟩ := hr
    refine ⟨((l'.drop off).take n).map (Value.int k), by rw [List.length_map, List.length_take, List.length_drop]; omega, rfl, fun j v hj => ?_⟩
    rw [cell_at g1]
    rw [List.getElem?_map, List.getElem?_take] at hj
    split at hj
    · rename_i hjn
      rw [List.getElem?_drop] at hj
      have hlt : off + j < l'.length := by omega
      have : (cs.toList.take l'.length)[off + j]? = cs[off + j]? := by rw [List.getElem?_take, if_pos hlt]; simp
      rw [← this, g2, List.getElem?_map]; exact hj
    · cases hj
  | mark k l' E =>
    simp only [rowOf, Option.some.injEq, Prod.mk.injEq] at h
    obtain ⟨h1, rfl⟩ := h
    rw [Nat.ble_eq] at h1
    obtain ⟨cs, fz, g1, g3, g2⟩ := hr
    refine ⟨((l'.drop off).take n).map (Value.int k), by rw [List.length_map, List.length_take, List.length_drop]; omega, rfl, fun j v hj => ?_⟩
    rw [cell_at g1]
    rw [List.getElem?_map, List.getElem?_take] at hj
    split at hj
    · rename_i hjn
      rw [List.getElem?_drop] at hj
      have hlt : off + j < l'.length := by omega
      have : (cs.toList.take l'.length)[off + j]? = cs[off + j]? := by rw [List.getElem?_take, if_pos hlt]; simp
      rw [← this, g2, List.getElem?_map]; exact hj
    · cases hj
  | map es cl => cases h
  | gone => cases h
  | was _ _ => cases h
  | iter _ _ _ _ => cases h
  | obj o => cases h

theorem rowOf_live {r : Res} {off n : Nat} {x : Bool × Row} (h : rowOf r off n = some x) : r.live = true := by cases r <;> first | rfl | (cases h; done)

theorem firstCells_at {sz m : Nat} {a : Addr} {len cap : Nat} {us : List Value} (hl : us.length = m * sz) {w' : World} (h : ∀ j v, us[j]? = some v → w'.cell? (a.add j) = some v) :
    (Builtin.firstCells sz m (.slice (some a) len cap)).run P w' = .ok us.toArray w' := run_firstCells_some w' sz m a len cap us hl h

/-- a source in the model -/
theorem run_srcS (H : Rel e ρ h w) {x : SV} {sz m : Nat} {l : Row} (hs : srcS x sz h = some (m, true, l)) {vx : Value} (hx : V ρ x vx) :
    ∃ us : List Value, us.length = m * sz ∧ RowIs ρ l us ∧ (Builtin.lenOf vx).run P w = .ok m w ∧ (∀ w' : World, (∀ a, w'.cell? a = w.cell? a) → (Builtin.firstCells sz m vx).run P w' = .ok us.toArray w') := by
  have blk : ∀ (i off m cap : Nat) (x : Bool) (r : Res) (b cp : Nat) (l : Row), ρ i = some (b, cp) → h.m.get i = some (x, r) → rowOf r off (m * sz) = some (true, l) →
      ∃ us : List Value, us.length = m * sz ∧ RowIs ρ l us ∧ (Builtin.lenOf (.slice (some ⟨b, off, none⟩) m cap)).run P w = .ok m w ∧ (∀ w' : World, (∀ a, w'.cell? a = w.cell? a) → (Builtin.firstCells sz m (.slice (some ⟨b, off, none⟩) m cap)).run P w' = .ok us.toArray w') := by
    intro i off m cap x r b cp l hρ hi hr
    obtain ⟨b', cp', hρ', hh, _⟩ := H.holds i x r hi (rowOf_live hr)
    rw [hρ] at hρ'; injection hρ' with hρ'; injection hρ' with e1 e2; subst e1; subst e2
    obtain ⟨us, h1, h2, h3⟩ := rowOf_cells hh hr
    exact ⟨us, h1, h2, rfl, fun w' hw => firstCells_at h1 (fun j v hj => by rw [Addr_add, hw]; exact h3 j v hj)⟩
  unfold srcS at hs
  split at hs <;> try (cases hs; done)
  · rename_i m' cap
    simp only [Option.some.injEq, Prod.mk.injEq, Nat.beq_eq] at hs
    obtain ⟨rfl, h0, rfl⟩ := hs
    subst h0
    cases hx
    exact ⟨[], by simp, trivial, rfl, fun w' _ => by simp [Builtin.firstCells]⟩
  · rename_i i off m' cap
    obtain ⟨b, cp, hρ, rfl⟩ := hx
    split at hs <;> try (cases hs; done)
    rename_i x r hi
    split at hs <;> try (cases hs; done)
    rename_i bb l' hr
    simp only [Option.some.injEq, Prod.mk.injEq] at hs
    obtain ⟨rfl, rfl, rfl⟩ := hs
    exact blk i off _ cap x r b cp _ hρ hi hr
  · rename_i i m'
    obtain ⟨b, cp, hρ, rfl, _⟩ := hx
    split at hs <;> try (cases hs; done)
    rename_i x r hi
    split at hs <;> try (cases hs; done)
    rename_i bb l' hr
    simp only [Option.some.injEq, Prod.mk.injEq] at hs
    obtain ⟨rfl, rfl, rfl⟩ := hs
    exact blk i 0 _ cp x r b cp _ hρ hi hr
  · rename_i i off at_ m' o0
    obtain ⟨b, cp, hρ, rfl, hle⟩ := hx
    cases hn : Nat.beq m' 0 with
    | true =>
      rw [hn] at hs
      simp only [cond_true, Option.some.injEq, Prod.mk.injEq, true_and] at hs
      obtain ⟨rfl, rfl⟩ := hs
      rw [Nat.beq_eq] at hn
      subst hn
      exact ⟨[], by simp, trivial, rfl, fun w' _ => firstCells_at (us := []) (by simp) (fun j v hj => by simp at hj)⟩
    | false =>
      rw [hn] at hs
      simp only [cond_false] at hs
      have hn0 : m' ≠ 0 := by rintro rfl; simp at hn
      split at hs <;> try (cases hs; done)
      rename_i x r hi
      split at hs <;> try (cases hs; done)
      rename_i bb l' hr
      simp only [Option.some.injEq, Prod.mk.injEq] at hs
      obtain ⟨rfl, rfl, rfl⟩ := hs
      rw [if_neg (by omega : ¬ cp = at_)]
      exact blk i off _ (cp - at_) x r b cp _ hρ hi hr
  · rename_i s
    simp only [Option.some.injEq, Prod.mk.injEq, Nat.beq_eq] at hs
    obtain ⟨rfl, h1, rfl⟩ := hs
    subst h1
    cases hx
    refine ⟨(s.data.toList.map fun (b : UInt8) => (b.toNat : Int)).map (Value.int .u8), by simp, rfl, rfl, fun w' _ => ?_⟩
    have he : s.extract 0 s.size = s := by simp
    simp [Builtin.firstCells, he, List.map_map, Function.comp_def]
    apply Array.ext'
    simp

theorem cellsOf_info {t : TypeId} {inf : TypeInfo} (h : P.info? t = some inf) : P.cellsOf t = inf.size := by unfold Program.cellsOf; rw [h]; rfl

/-- append, in the model: there is room -/
theorem run_append_in {t u ty el : TypeId} {inf : TypeInfo} {d : TypeDesc} (ht : P.underlying t = some (.slice el)) (hu : P.underlying u = some d) (hd : notInt d = true) (hi : P.info? el = some inf)
    {b off n cap m : Nat} {vx : Value} {us : List Value} (hlen : (Builtin.lenOf vx).run P w = .ok m w) (hf : (Builtin.firstCells inf.size m vx).run P w = .ok us.toArray w) (hroom : n + m ≤ cap) {w' : World}
    (hst : (storeCells ⟨b, off + n * inf.size, none⟩ us).run P w = .ok () w') :
    (Builtin.append_ #[t, u] ty #[.slice (some ⟨b, off, none⟩) n cap, vx]).run P w = .ok (.slice (some ⟨b, off, none⟩) (n + m) cap) w' := by
  cases d <;> simp [notInt] at hd <;> simp [Builtin.append_, run_underlying ht, run_underlying hu, run_sizeOf w hi, cellsOf_info hi, hlen, hroom, hf, Addr_add, hst]
theorem run_append_out {t u ty el : TypeId} {inf : TypeInfo} {zv : Value} {d : TypeDesc} (ht : P.underlying t = some (.slice el)) (hu : P.underlying u = some d) (hd : notInt d = true) (hi : P.info? el = some inf) (hz : inf.zero = some zv)
    {base : Option Addr} {n cap m : Nat} {vx : Value} {us os : List Value} (hlen : (Builtin.lenOf vx).run P w = .ok m w) (hf : (Builtin.firstCells inf.size m vx).run P w.drew = .ok us.toArray w.drew)
    (ho : (Builtin.firstCells inf.size n (.slice base n cap)).run P w.drew = .ok os.toArray w.drew) (hroom : cap < n + m) (hb : boundOk (n + m) inf.bytes = true) :
    (Builtin.append_ #[t, u] ty #[.slice base n cap, vx]).run P w =
      .ok (.slice (some ⟨w.heap.size, 0, none⟩) (n + m) (grownCap w (n + m) cap el)) (w.drew.alloc (.cells (os.toArray ++ (us.toArray ++ Builtin.zeroCells zv.cells (grownCap w (n + m) cap el - (n + m)))) el)) := by
  simp only [boundOk, Bool.and_eq_true, Nat.ble_eq] at hb
  have h1 : ¬ (n + m ≤ cap) := by omega
  have h2 : ¬ (9223372036854775807 < ((n : Int) + (m : Int))) := by omega
  have h3 : ¬ (281474976710656 < Builtin.nextslicecap (n + m) cap * inf.bytes) := by
    have := growslice_fits (need := n + m) (old := cap) hroom hb.1; omega
  cases d <;> simp [notInt] at hd <;> simp [Builtin.append_, run_underlying ht, run_underlying hu, sizeOf, typeInfo, hi, hlen, h1, h2, h3, IntKind.max, IntKind.bits, IntKind.signed, zeroValue, hz, newRow, ho, hf, grownCap, Question.forced]

/-- behind a grown row: the new block -/
theorem Rel.grown (H : Rel e ρ h w) {idx : Nat} (hf : h.free idx = true) {el : TypeId} {inf : TypeInfo} {zv : Value} (hz : zv.cells.size = inf.size) {n cap m : Nat} {os us : List Value} (hos : os.length = n * inf.size) (hus : us.length = m * inf.size)
    (hb : boundOk (n + m) inf.bytes = true) {r : Res}
    (hr : ∀ (ρ' : Val) (w' : World) (b cp : Nat) (cs : Array Value), ρ.le ρ' → w'.heap[b]? = some (.cells cs el (0, 0)) → cs.size = cp * inf.size → n + m ≤ cp → cp ≤ maxLen → cs.toList.take ((n + m) * inf.size) = os ++ us → Holds ρ' b cp w' r) :
    ρ.le (ρ.put idx w.heap.size (grownCap w (n + m) cap el)) ∧ V (ρ.put idx w.heap.size (grownCap w (n + m) cap el)) (.own idx (n + m)) (.slice (some ⟨w.heap.size, 0, none⟩) (n + m) (grownCap w (n + m) cap el)) ∧
      Rel e (ρ.put idx w.heap.size (grownCap w (n + m) cap el)) (h.put idx r) (w.drew.alloc (.cells (os.toArray ++ (us.toArray ++ Builtin.zeroCells zv.cells (grownCap w (n + m) cap el - (n + m)))) el)) := by
  simp only [boundOk, Bool.and_eq_true, Nat.ble_eq] at hb
  have hge := grownCap_ge w (n + m) cap el
  have hle2 := grownCap_le_maxLen w (n + m) cap el (by unfold maxLen; omega)
  obtain ⟨hle, hrel⟩ := (H.drew).newCells (w := w.drew) hf (os.toArray ++ (us.toArray ++ Builtin.zeroCells zv.cells (grownCap w (n + m) cap el - (n + m)))) el (grownCap w (n + m) cap el) r (fun ρ' w' hle hw => by
    refine hr ρ' w' _ _ _ hle hw ?_ hge hle2 ?_
    · simp only [Array.size_append, List.size_toArray, size_zeroCells, hz, hos, hus, ← Nat.add_mul]
      congr 1; omega
    · simp only [Array.toList_append]
      rw [← List.append_assoc]
      have : (n + m) * inf.size = (os ++ us).length := by rw [List.length_append, hos, hus, Nat.add_mul]
      rw [this]
      exact List.take_left)
  exact ⟨hle, ⟨w.heap.size, _, Val.put_self _ _ _ _, rfl, hge⟩, hrel⟩

theorem Rel.was_off (H : Rel e ρ h w) {i : Nat} {r : Res} {b cp : Nat} (hi : h.m.get i = some (true, r)) (hl : r.live = true) (hρ : ρ i = some (b, cp)) :
    ∀ k x j q b' c', (h.turn i .gone).m.get k = some (x, .was j q) → ρ k = some (b', c') → (∃ cj, ρ j = some (b', cj)) ∨ b' ≠ b := by
  intro k x j q b' c' hk hρk
  have hk' : (h.m.set i (true, Res.gone)).get k = some (x, .was j q) := hk
  rw [T.get_set] at hk'
  by_cases hki : k = i
  · rw [if_pos hki] at hk'; injection hk' with hk'; injection hk' with _ h2; cases h2
  · rw [if_neg hki] at hk'
    obtain ⟨b1, c1, g1, g2, g3, g4⟩ := H.was k x j q hk'
    rw [hρk] at g1; injection g1 with g1; injection g1 with e1 e2; subst e1
    exact g4.imp id (fun g => Ne.symm (g.2 i r b cp hi hl hρ))
theorem Rel.lt_n (H : Rel e ρ h w) {i : Nat} {y : Bool × Res} (hi : h.m.get i = some y) : i < h.n := by
  rcases Nat.lt_or_ge i h.n with h1 | h1
  · exact h1
  · rw [(H.fresh i h1).2] at hi; cases hi
theorem Rel.retireIn (H : Rel e ρ h w) {i idx : Nat} {r r' : Res} {b cp : Nat} (hi : h.m.get i = some (true, r)) (hl : r.live = true) (hρ : ρ i = some (b, cp)) (hf : h.free idx = true) {w' : World} (hb : b < w'.heap.size) (hm : e.w0.heap.size ≤ b ∨ e.mine b)
    (hle : ρ.le (ρ.put idx b cp)) (H' : Rel e (ρ.put idx b cp) ((h.turn i .gone).put idx r') w') : Rel e (ρ.put idx b cp) ((h.turn i (.was idx r)).put idx r') w' := by
  have hlt := H.lt_n hi
  have hge : h.n ≤ idx := by simpa [Heap.free] using hf
  exact H'.retire (by omega) hlt (hle _ _ hρ) hb hm (Or.inl ⟨cp, Val.put_self _ _ _ _⟩)
theorem Rel.retireOut (H : Rel e ρ h w) {i idx : Nat} {r r' : Res} {b cp cp' : Nat} (hi : h.m.get i = some (true, r)) (hl : r.live = true) (hρ : ρ i = some (b, cp)) (hf : h.free idx = true) (hm : e.w0.heap.size ≤ b ∨ e.mine b) {o : Obj}
    (hle : ρ.le (ρ.put idx w.heap.size cp')) (H' : Rel e (ρ.put idx w.heap.size cp') ((h.turn i .gone).put idx r') (w.drew.alloc o)) : Rel e (ρ.put idx w.heap.size cp') ((h.turn i (.was idx r)).put idx r') (w.drew.alloc o) := by
  have hlt := H.lt_n hi
  have hge : h.n ≤ idx := by simpa [Heap.free] using hf
  obtain ⟨b', c', g1, g2, _⟩ := H.holds i true r hi hl
  rw [hρ] at g1; injection g1 with g1; injection g1 with e1 e2; subst e1; subst e2
  have hbw := g2.lt
  refine H'.retire (by omega) hlt (hle _ _ hρ) (by simp; show b < w.heap.size + 1; omega) hm (Or.inr ⟨Holds.mono hle (by rw [Below.heap_alloc _ _ _ (by exact hbw)]; rfl) g2, fun k r1 b1 c1 hk hl1 hρ1 => ?_⟩)
  have hk' : ((h.m.set i (true, Res.gone)).set idx (true, r')).get k = some (true, r1) := hk
  rw [T.get_set, T.get_set] at hk'
  unfold Val.put at hρ1
  by_cases h1 : k = idx
  · rw [if_pos h1] at hρ1; injection hρ1 with hρ1; injection hρ1 with e1 e2; omega
  · rw [if_neg h1] at hk' hρ1
    by_cases h2 : k = i
    · rw [if_pos h2] at hk'; injection hk' with hk'; injection hk' with _ h3; subst h3; cases hl1
    · rw [if_neg h2] at hk'
      exact H.apart k i r1 r b1 c1 b cp h2 hk' hi hl1 hl hρ1 hρ

theorem fresh_holds {l : Row} {us : List Value} (hl : RowIs ρ l us) {el sz m : Nat} (hus : us.length = m * sz) : ∀ (ρ' : Val) (w' : World) (b cp : Nat) (cs : Array Value), ρ.le ρ' → w'.heap[b]? = some (.cells cs el (0, 0)) → cs.size = cp * sz → m ≤ cp → cp ≤ maxLen → cs.toList.take (m * sz) = us →
    Holds ρ' b cp w' (l.fresh el sz) := by
  intro ρ' w' b cp cs hle hw hcs hm hcp ht
  have own : ∀ l', VL ρ l' us → Holds ρ' b cp w' (.own l' el sz) := by
    intro l' hv
    have hlen := hv.length
    refine ⟨cs, hw, hcs, ?_, hcp, ?_⟩
    · rw [hlen, hus, hcs]; exact Nat.mul_le_mul_right _ hm
    · rw [hlen, hus, ht]; exact hv.mono hle
  cases l with
  | svs l' => exact own l' hl
  | ints k l' =>
    unfold Row.fresh
    cases hs : Nat.beq sz 1 with
    | false => exact own _ hl.svs
    | true =>
      rw [Nat.beq_eq] at hs
      subst hs
      have hu : us = l'.map (Value.int k) := hl
      have hl' : l'.length = m := by rw [hu, List.length_map, Nat.mul_one] at hus; exact hus
      simp only [cond_true]
      refine ⟨cs, hw, by omega, by omega, hcp, ?_⟩
      rw [hl', ← Nat.mul_one m, ht, hu]

theorem run_appendS (K : c.Ok P) {t u ty : TypeId} {s x : SV} {idx : Nat} (H : Rel e ρ h w) (hb : (appendS c t u s x h idx).holds Q) {vs vx : Value} (hs : V ρ s vs) (hx : V ρ x vx) :
    Came P e ρ w (Builtin.append_ #[t, u] ty #[vs, vx]) Q := by
  unfold appendS at hb
  split at hb <;> try (exact hb.elim)
  rename_i el hut
  split at hut <;> try (cases hut; done)
  rename_i d hu
  cases hd : notInt d with
  | false => rw [hd] at hut; cases hut
  | true =>
  rw [hd] at hut
  simp only [cond_true] at hut
  split at hb <;> try (exact hb.elim)
  rename_i inf z hi hz
  obtain ⟨zv, hzv, hV, rfl⟩ := run_zero (ρ := ρ) K hz
  replace hzv := hzv w
  have hzi : inf.zero = some zv := by
    have := hzv; simp only [zeroValue, Sem.run_bind, run_typeInfo w (K.info hi), Result.andThen_ok] at this
    cases hq : inf.zero with
    | none => rw [hq] at this; cases this
    | some q => rw [hq] at this; simp at this; rw [this]
  cases hzc : (Nat.beq (ofV zv).cells.length inf.size && Nat.blt 0 inf.size) with
  | false => rw [hzc] at hb; exact hb.elim
  | true =>
  rw [hzc] at hb
  simp only [cond_true] at hb
  simp only [Bool.and_eq_true, Nat.beq_eq, Nat.blt_eq] at hzc
  obtain ⟨hzc, hpos⟩ := hzc
  have hzs : zv.cells.size = inf.size := by
    rw [← hzc, (hV.cells (raw_ne (ofV_raw zv))).length]; simp
  split at hb <;> try (exact hb.elim)
  rename_i m b news hsrc
  obtain ⟨rfl, hb⟩ := hb
  obtain ⟨us, hus, hrow, hlen, hfc⟩ := run_srcS (P := P) H hsrc hx
  have hT := K.und hut
  have hU := K.und hu
  have hI := K.info hi
  -- the row's own part, told by what it held
  split at hb
  · -- nil
    cases hs
    obtain ⟨hb0, hb1⟩ := hb
    by_cases h0 : m = 0
    · subst h0
      have hu0 : us = [] := List.eq_nil_of_length_eq_zero (by rw [hus]; simp)
      subst hu0
      refine Came.of_pure H (hb0 rfl) ⟨_, ?_, rfl⟩
      have hf0 := hfc w (fun _ => rfl)
      cases d <;> simp [notInt] at hd <;> simp [Builtin.append_, run_underlying hT, run_underlying hU, run_sizeOf w hI, cellsOf_info hI, hlen, hf0]
    · obtain ⟨hbo, hq⟩ := hb1 (T.beq_ne h0)
      rw [Bool.and_eq_true] at hbo
      have hr := run_append_out (P := P) (w := w) (ty := ty) (base := none) (n := 0) (cap := 0) (os := []) hT hU hd hI hzi hlen (hfc w.drew (fun _ => rfl)) (by simp [Builtin.firstCells]) (by omega) (by simpa using hbo.1)
      obtain ⟨g1, g2, g3⟩ := H.grown (cap := 0) (n := 0) (m := m) (os := []) (us := us) (el := el) (r := news.fresh el inf.size) hbo.2 hzs (by simp) hus (by simpa using hbo.1) (fun ρ' w' b cp cs hle hw hcs hm hcp ht => by
        simp only [Nat.zero_add, List.nil_append] at hm ht
        exact fresh_holds hrow hus ρ' w' b cp cs hle hw hcs hm hcp ht)
      simp only [Nat.zero_add] at hr g1 g2 g3
      exact ⟨_, _, _, _, _, hr, g1, g3, g2, hq⟩
  · -- its own row
    rename_i i n
    obtain ⟨b, cp, hρ, rfl, hn⟩ := hs
    split at hb <;> try (exact hb.elim)
    · rename_i l E sz hi'
      cases hc : (Nat.beq E el && Nat.beq sz inf.size) with
      | false => rw [hc] at hb; exact hb.elim
      | true =>
      rw [hc] at hb
      simp only [Bool.and_eq_true, Nat.beq_eq] at hc
      obtain ⟨rfl, rfl⟩ := hc
      obtain ⟨hcond, hq⟩ := hb
      simp only [Bool.and_eq_true, Nat.ble_eq] at hcond
      obtain ⟨h1, h2, h3, h4⟩ := hcond
      obtain ⟨b', cp', hρ', ⟨cs, hw, hcs, hlc, hcp, hv⟩, hmine⟩ := H.holds i true _ hi' rfl
      rw [hρ] at hρ'; injection hρ' with hρ'; injection hρ' with e1 e2; subst e1; subst e2
      rw [if_pos rfl] at hmine
      have hfree : (h.turn i .gone).free idx = true := h3
      have Hd := H.drop hi' rfl
      have hnews := hrow.svs
      by_cases hroom : n + m ≤ cp
      · have hst := run_storeCells_at P b (n * inf.size) E us 0 cs w hw (by simp only [Nat.add_zero]; rw [hus, hcs, ← Nat.add_mul]; exact Nat.mul_le_mul_right _ hroom) (ones_of hnews h4)
        simp only [Nat.add_zero] at hst
        have hr := run_append_in (P := P) (ty := ty) (off := 0) hT hU hd hI hlen (hfc w (fun _ => rfl)) hroom (by rw [Nat.zero_add]; exact hst)
        have Ht := H.turn (w' := w.setRow b (cs.toList.take (n * inf.size) ++ us ++ cs.toList.drop (n * inf.size + us.length)).toArray) i _ .gone b cp hi' rfl hρ rfl rfl rfl (by simp) (fun k hk => setRow_other w b k _ hk) (Or.inr rfl)
        obtain ⟨g1, g2⟩ := Rel.adopt Ht (i := idx) hfree (b := b) (cp := cp) (r := .own (l.take (n * inf.size) ++ news.svs?) E inf.size) hmine (by
          intro j s b' c' hj hl hρj
          have hj' : (h.m.set i (true, Res.gone)).get j = some (true, s) := hj
          rw [T.get_set] at hj'
          by_cases hji : j = i
          · rw [if_pos hji] at hj'; injection hj' with hj'; injection hj' with _ hj'; subst hj'; cases hl
          · rw [if_neg hji] at hj'
            exact H.apart j i s _ b' c' b cp hji hj' hi' hl rfl hρj hρ) (H.was_off hi' rfl hρ) (by
          refine ⟨_, setRow_heap w b cs _ E _ hw, ?_, ?_, hcp, ?_⟩
          · simp only [List.size_toArray, List.length_append, List.length_take, List.length_drop, Array.length_toList]
            have : (n + m) * inf.size ≤ cp * inf.size := Nat.mul_le_mul_right _ hroom
            rw [Nat.add_mul] at this
            omega
          · simp only [List.size_toArray, List.length_append, List.length_take, List.length_drop, Array.length_toList, hnews.length]
            omega
          · have hlen2 : (l.take (n * inf.size) ++ news.svs?).length = n * inf.size + us.length := by
              rw [List.length_append, List.length_take, hnews.length]; omega
            have hcl : n * inf.size ≤ cs.size := by rw [hcs]; exact Nat.mul_le_mul_right _ (by omega)
            rw [hlen2, List.take_left' (by simp only [List.length_append, List.length_take, Array.length_toList]; omega)]
            refine VL.append ?_ hnews
            have := hv.take (n * inf.size)
            rwa [List.take_take, Nat.min_eq_left h1] at this)
        exact ⟨_, _, .own idx (n + m), _, _, hr, g1, H.retireIn hi' rfl hρ (by exact hfree) (by simp [World.setRow]; exact (Array.getElem?_eq_some_iff.1 hw).1) hmine g1 g2, ⟨b, cp, Val.put_self _ _ _ _, rfl, hroom⟩, hq⟩
      · have hos : (cs.toList.take (n * inf.size)).length = n * inf.size := by
          rw [List.length_take]; simp only [Array.length_toList]; omega
        have hfo : (Builtin.firstCells inf.size n (.slice (some ⟨b, 0, none⟩) n cp)).run P w.drew = .ok (cs.toList.take (n * inf.size)).toArray w.drew :=
          firstCells_at hos (fun j v hj => by
            rw [Addr_add, Nat.zero_add]
            show w.cell? _ = _
            rw [cell_at hw]
            rw [List.getElem?_take] at hj
            split at hj
            · simpa using hj
            · cases hj)
        have hr := run_append_out (P := P) (w := w) (ty := ty) hT hU hd hI hzi hlen (hfc w.drew (fun _ => rfl)) hfo (by omega) h2
        obtain ⟨g1, g2, g3⟩ := Hd.grown (cap := cp) (n := n) (m := m) (os := cs.toList.take (n * inf.size)) (us := us) (el := E) (r := .own (l.take (n * inf.size) ++ news.svs?) E inf.size) hfree hzs hos hus h2 (fun ρ' w' b cp cs' hle hw hcs' hm hcp ht => by
          have hlen2 : (l.take (n * inf.size) ++ news.svs?).length = (n + m) * inf.size := by
            rw [List.length_append, List.length_take, hnews.length, hus, Nat.add_mul]; omega
          refine ⟨cs', hw, hcs', ?_, hcp, ?_⟩
          · rw [hlen2, hcs']; exact Nat.mul_le_mul_right _ hm
          · rw [hlen2, ht]
            refine VL.append ?_ (hnews.mono hle)
            have := (hv.take (n * inf.size)).mono hle
            rwa [List.take_take, Nat.min_eq_left h1] at this)
        exact ⟨_, _, _, _, _, hr, g1, H.retireOut hi' rfl hρ (by exact hfree) hmine g1 g3, g2, hq⟩
    · -- a row of numbers
      rename_i k l E hi'
      have key : ∀ (l' : List Int) (h2 : boundOk (n + m) inf.bytes = true), us = l'.map (Value.int k) → E = el → inf.size = 1 → n ≤ l.length → h.free idx = true → Q (.own idx (n + m)) ((h.turn i (.was idx (.owni k l E))).put idx (.owni k (l.take n ++ l') el)) →
          Came P e ρ w (Builtin.append_ #[t, u] ty #[.slice (some ⟨b, 0, none⟩) n cp, vx]) Q := by
        intro l' h2 hue hE hone h1 hfree hq
        subst hE
        rw [hone, Nat.mul_one] at hus
        obtain ⟨b', cp', hρ', ⟨cs, hw, hcs, hlc, hcp, hv⟩, hmine⟩ := H.holds i true _ hi' rfl
        rw [hρ] at hρ'; injection hρ' with hρ'; injection hρ' with e1 e2; subst e1; subst e2
        rw [if_pos rfl] at hmine
        have hfree' : (h.turn i .gone).free idx = true := hfree
        have Hd := H.drop hi' rfl
        have hl' : l'.length = m := by rw [hue, List.length_map] at hus; exact hus
        have hvn : cs.toList.take n = (l.take n).map (Value.int k) := by
          rw [List.map_take, ← hv, List.take_take, Nat.min_eq_left h1]
        by_cases hroom : n + m ≤ cp
        · have hst := run_storeCells_at P b (n * inf.size) E us 0 cs w hw (by rw [hone]; omega) (by intro v hv; rw [hue] at hv; obtain ⟨x, _, rfl⟩ := List.mem_map.1 hv; rfl)
          simp only [Nat.add_zero] at hst
          have hr := run_append_in (P := P) (ty := ty) (off := 0) hT hU hd hI hlen (hfc w (fun _ => rfl)) hroom (by rw [Nat.zero_add]; exact hst)
          have Ht := H.turn (w' := w.setRow b (cs.toList.take (n * inf.size) ++ us ++ cs.toList.drop (n * inf.size + us.length)).toArray) i _ .gone b cp hi' rfl hρ rfl rfl rfl (by simp) (fun k hk => setRow_other w b k _ hk) (Or.inr rfl)
          obtain ⟨g1, g2⟩ := Rel.adopt Ht (i := idx) hfree' (b := b) (cp := cp) (r := .owni k (l.take n ++ l') E) hmine (by
            intro j s b' c' hj hl hρj
            have hj' : (h.m.set i (true, Res.gone)).get j = some (true, s) := hj
            rw [T.get_set] at hj'
            by_cases hji : j = i
            · rw [if_pos hji] at hj'; injection hj' with hj'; injection hj' with _ hj'; subst hj'; cases hl
            · rw [if_neg hji] at hj'
              exact H.apart j i s _ b' c' b cp hji hj' hi' hl rfl hρj hρ) (H.was_off hi' rfl hρ) (by
            refine ⟨_, setRow_heap w b cs _ E _ hw, ?_, ?_, hcp, ?_⟩
            · simp only [List.size_toArray, List.length_append, List.length_take, List.length_drop, Array.length_toList]; rw [hone]; omega
            · simp only [List.size_toArray, List.length_append, List.length_take, List.length_drop, Array.length_toList]; rw [hone]; omega
            · have hlen2 : (l.take n ++ l').length = n + us.length := by rw [List.length_append, List.length_take]; omega
              rw [hlen2, hone, Nat.mul_one, List.take_left' (by simp only [List.length_append, List.length_take, Array.length_toList]; omega)]
              rw [hvn, hue, List.map_append])
          exact ⟨_, _, .own idx (n + m), _, _, hr, g1, H.retireIn hi' rfl hρ (by exact hfree) (by simp [World.setRow]; exact (Array.getElem?_eq_some_iff.1 hw).1) hmine g1 g2, ⟨b, cp, Val.put_self _ _ _ _, rfl, hroom⟩, hq⟩
        · have hos : (cs.toList.take n).length = n * inf.size := by
            rw [List.length_take]; simp only [Array.length_toList]; rw [hone]; omega
          have hfo : (Builtin.firstCells inf.size n (.slice (some ⟨b, 0, none⟩) n cp)).run P w.drew = .ok (cs.toList.take n).toArray w.drew :=
            firstCells_at hos (fun j v hj => by
              rw [Addr_add, Nat.zero_add]
              show w.cell? _ = _
              rw [cell_at hw]
              rw [List.getElem?_take] at hj
              split at hj
              · simpa using hj
              · cases hj)
          have hr := run_append_out (P := P) (w := w) (ty := ty) hT hU hd hI hzi hlen (hfc w.drew (fun _ => rfl)) hfo (by omega) h2
          obtain ⟨g1, g2, g3⟩ := Hd.grown (cap := cp) (n := n) (m := m) (os := cs.toList.take n) (us := us) (el := E) (r := .owni k (l.take n ++ l') E) hfree' hzs hos (by rw [hone]; omega) h2 (fun ρ' w' b cp cs' hle hw hcs' hm hcp ht => by
            have hlen2 : (l.take n ++ l').length = n + m := by rw [List.length_append, List.length_take]; omega
            rw [hone, Nat.mul_one] at hcs' ht
            refine ⟨cs', hw, hcs', by omega, hcp, ?_⟩
            rw [hlen2, ht, hvn, hue, List.map_append])
          exact ⟨_, _, _, _, _, hr, g1, H.retireOut hi' rfl hρ (by exact hfree) hmine g1 g3, g2, hq⟩
      split at hb <;> try (exact hb.elim)
      · rename_i k' l'
        cases hc : (Nat.beq E el && (Nat.beq inf.size 1 && decide (k' = k))) with
        | false => rw [hc] at hb; exact hb.elim
        | true =>
        rw [hc] at hb
        simp only [Bool.and_eq_true, Nat.beq_eq, decide_eq_true_eq] at hc
        obtain ⟨hE, hone, rfl⟩ := hc
        obtain ⟨hcond, hq⟩ := hb
        simp only [Bool.and_eq_true, Nat.ble_eq] at hcond
        exact key l' hcond.2.1 hrow hE hone hcond.1 hcond.2.2 hq
      · rename_i v
        split at hb <;> try (exact hb.elim)
        rename_i k' a hv
        cases hc : (Nat.beq E el && (Nat.beq inf.size 1 && decide (k' = k))) with
        | false => rw [hc] at hb; exact hb.elim
        | true =>
        rw [hc] at hb
        simp only [Bool.and_eq_true, Nat.beq_eq, decide_eq_true_eq] at hc
        obtain ⟨hE, hone, rfl⟩ := hc
        obtain ⟨hcond, hq⟩ := hb
        simp only [Bool.and_eq_true, Nat.ble_eq] at hcond
        have hu1 : us = [a].map (Value.int k') := by
          match us, hrow with
          | [y], ⟨hy, _⟩ => rw [SV.int?_eq hv] at hy; cases hy; rfl
        exact key [a] hcond.2.1 hu1 hE hone hcond.1 hcond.2.2 hq
  · -- a piece of a block
    rename_i i off n cap
    obtain ⟨b, cp, hρ, rfl⟩ := hs
    split at hb <;> try (exact hb.elim)
    rename_i x r hi'
    obtain ⟨hb1, hb2⟩ := hb
    by_cases hroom : n + m ≤ cap
    · replace hb1 := hb1 (by simpa using hroom)
      split at hb1 <;> try (exact hb1.elim)
      rename_i b1 r' hpr
      obtain ⟨rfl, hq⟩ := hb1
      have hlv : r.live = true := by cases r <;> first | rfl | (cases hpr; done)
      obtain ⟨b', cp', hρ', hr, _⟩ := H.holds i true r hi' hlv
      rw [hρ] at hρ'; injection hρ' with hρ'; injection hρ' with e1 e2; subst e1; subst e2
      obtain ⟨w', g1, g2, g3, g4, g5, g6, g7⟩ := putRes_store (P := P) hr hpr hrow.svs
      have hrun := run_append_in (P := P) (ty := ty) hT hU hd hI hlen (hfc w (fun _ => rfl)) hroom g1
      exact ⟨_, _, .slc i off (n + m) cap, _, ρ, hrun, Val.le.refl ρ, H.turn i r r' b cp hi' hlv hρ g3 g4 g5 g6 g7 (Or.inl g2), ⟨b, cp, hρ, rfl⟩, hq⟩
    · replace hb2 := hb2 (T.ble_ne hroom)
      split at hb2 <;> try (exact hb2.elim)
      rename_i b1 l hro
      obtain ⟨hcond, hq⟩ := hb2
      simp only [Bool.and_eq_true] at hcond
      obtain ⟨rfl, h2, hfree⟩ := hcond
      obtain ⟨b', cp', hρ', hr, _⟩ := H.holds i x r hi' (rowOf_live hro)
      rw [hρ] at hρ'; injection hρ' with hρ'; injection hρ' with e1 e2; subst e1; subst e2
      obtain ⟨os, hos, hrow2, hcell⟩ := rowOf_cells hr hro
      have hfo : (Builtin.firstCells inf.size n (.slice (some ⟨b, off, none⟩) n cap)).run P w.drew = .ok os.toArray w.drew :=
        firstCells_at hos (fun j v hj => by rw [Addr_add]; exact hcell j v hj)
      have hrun := run_append_out (P := P) (w := w) (ty := ty) hT hU hd hI hzi hlen (hfc w.drew (fun _ => rfl)) hfo (by omega) h2
      obtain ⟨g1, g2, g3⟩ := H.grown (cap := cap) (n := n) (m := m) (os := os) (us := us) (el := el) (r := joinRow l news el inf.size) hfree hzs hos hus h2 (fun ρ' w' b cp cs' hle hw hcs' hm hcp ht => by
        have own : Holds ρ' b cp w' (.own (l.svs? ++ news.svs?) el inf.size) := by
          have hv := VL.append hrow2.svs hrow.svs
          have hlen2 : (l.svs? ++ news.svs?).length = (n + m) * inf.size := by rw [hv.length, List.length_append, hos, hus, Nat.add_mul]
          refine ⟨cs', hw, hcs', ?_, hcp, ?_⟩
          · rw [hlen2, hcs']; exact Nat.mul_le_mul_right _ hm
          · rw [hlen2, ht]; exact hv.mono hle
        cases l with
        | svs l => exact own
        | ints k l =>
          cases news with
          | svs l' => exact own
          | ints k' l' =>
            unfold joinRow
            simp only
            cases hc : (Nat.beq inf.size 1 && decide (k' = k)) with
            | false => exact own
            | true =>
              simp only [Bool.and_eq_true, Nat.beq_eq, decide_eq_true_eq] at hc
              obtain ⟨hone, rfl⟩ := hc
              simp only [cond_true]
              have ho : os = l.map (Value.int k') := hrow2
              have hn : us = l'.map (Value.int k') := hrow
              rw [hone, Nat.mul_one] at hcs' ht hos hus
              have h5 : (l ++ l').length = n + m := by rw [List.length_append]; rw [ho, List.length_map] at hos; rw [hn, List.length_map] at hus; omega
              refine ⟨cs', hw, hcs', by omega, hcp, ?_⟩
              rw [h5, ht, ho, hn, List.map_append])
      exact ⟨_, _, _, _, _, hrun, g1, g3, g2, hq⟩
  · exact hb.elim
end
end Go.SE

namespace Go.SE
open Go.RowKit

/-- cells turned by a row -/
def putRow (r : Res) (off : Nat) (row : Row) : Option (Bool × Res) :=
  match r, row with
  | .ints k l E, .ints k' a => bif decide (k' = k) then some (Nat.ble (off + a.length) l.length, .ints k (l.take off ++ (a ++ l.drop (off + a.length))) E) else none
  | .owni k l E, .ints k' a => bif decide (k' = k) then some (Nat.ble (off + a.length) l.length, .owni k (l.take off ++ (a ++ l.drop (off + a.length))) E) else none
  | r, row => putRes r off row.svs?

/-- the first n elements of a source -/
def srcTake (x : SV) (sz n : Nat) (h : Heap) : Option (Bool × Row) :=
  match x with
  | .lit (.slice none _ _) => some (Nat.beq n 0, .svs [])
  | .slc i off _ _ => (match h.m.get i with | some (_, r) => rowOf r off (n * sz) | none => none)
  | .own i _ => (match h.m.get i with | some (_, r) => rowOf r 0 (n * sz) | none => none)
  | .tail i off _ len _ => bif Nat.beq n 0 then some (true, .svs []) else (match h.m.get i with | some (_, r) => (match rowOf r off (n * sz) with | some (b, l) => some (b && Nat.ble n len, l) | none => none) | none => none)
  | .lit (.string s) => some (Nat.beq sz 1, .ints .u8 (((s.extract 0 n).data.toList).map fun b => (b.toNat : Int)))
  | _ => none

def lenOfS : SV → Option Nat
  | .lit (.slice _ m _) => some m
  | .slc _ _ m _ => some m
  | .own _ m => some m
  | .tail _ _ _ m _ => some m
  | .lit (.string s) => some s.size
  | _ => none

def copyS (c : Ctx) (t u : TypeId) (d s : SV) (h : Heap) : Out :=
  match c.und t with
  | some (.slice e) => (match c.info e, lenOfS d, lenOfS s with
    | some inf, some dl, some sl => (match srcTake s inf.size (Nat.min sl dl) h with
      | some (b, row) => .need b (match d with
        | .lit (.slice none _ _) => .val (.lit (.int .i64 ((Nat.min sl dl : Nat) : Int))) h
        | .slc i off _ _ => (match h.m.get i with
          | some (true, r) => (match putRow r off row with
            | some (b', r') => .need b' (.val (.lit (.int .i64 ((Nat.min sl dl : Nat) : Int))) (h.turn i r'))
            | none => .bad)
          | _ => .bad)
        | .own i _ => (match h.m.get i with
          | some (true, r) => (match putRow r 0 row with
            | some (b', r') => .need b' (.val (.lit (.int .i64 ((Nat.min sl dl : Nat) : Int))) (h.turn i r'))
            | none => .bad)
          | _ => .bad)
        | _ => .bad)
      | none => .bad)
    | _, _, _ => .bad)
  | _ => .bad

/-- bytes as numbers, as text -/
def textOf (l : List Int) : ByteArray := ⟨(l.map fun n => UInt8.ofNat n.toNat).toArray⟩
def intsOf : List SV → Option (List Int)
  | [] => some []
  | x :: l => (match x.int?, intsOf l with
    | some (.u8, n), some ns => some (n :: ns)
    | _, _ => none)
def Row.bytes : Row → Option (List Int)
  | .ints .u8 l => some l
  | .svs l => intsOf l
  | _ => none

/-- a conversion that lays nothing -/
def convR (c : Ctx) (s d : TypeId) (x : SV) (h : Heap) : Option (Bool × SV) :=
  match c.und s, c.und d with
  | some .string, some (.slice _) => none
  | some (.slice e), some .string => (match c.und e, x.str?, lenOfS x with
    | some (.int .u8), none, some n => (match srcTake x 1 n h with
      | some (b, row) => (match row.bytes with
        | some l => some (b, .lit (.string (textOf l)))
        | none => none)
      | none => none)
    | _, _, _ => none)
  | _, _ => convS c s d x

def convOut (c : Ctx) (s d : TypeId) (x : SV) (h : Heap) (idx : Nat) : Out :=
  match c.und s, c.und d with
  | some .string, some (.slice e) => (match c.und e, x.str? with
    | some (.int .u8), some t => .need (h.free idx) (.val (.own idx t.size) (h.put idx (.mark .u8 (t.data.toList.map fun b => (b.toNat : Int)) e)))
    | _, _ => .bad)
  | _, _ => (match convR c s d x h with
    | some (b, v) => .need b (.val v h)
    | none => .bad)

section
variable {c : Ctx} {P : Program} {e : Env} {ρ : Val} {h : Heap} {w : World} {Q : SV → Heap → Prop}

theorem putRow_live {r : Res} {off : Nat} {row : Row} {x : Bool × Res} (h : putRow r off row = some x) : r.live = true := by
  cases r <;> first | rfl | (cases row <;> (simp [putRow, putRes] at h; done))

theorem putRow_store {b cp : Nat} {r r' : Res} (hr : Holds ρ b cp w r) {off : Nat} {row : Row} (h : putRow r off row = some (true, r')) {us : List Value} (hv : RowIs ρ row us) :
    ∃ w', (storeCells ⟨b, off, none⟩ us).run P w = .ok () w' ∧ Holds ρ b cp w' r' ∧ w'.os = w.os ∧ w'.tape = w.tape ∧ w'.output = w.output ∧ w'.heap.size = w.heap.size ∧ ∀ k, k ≠ b → w'.heap[k]? = w.heap[k]? := by
  have gen : putRes r off row.svs? = some (true, r') → _ := fun h => putRes_store (P := P) hr h hv.svs
  have key : ∀ (cs : Array Value) (E : TypeId) (k : IntKind) (l a : List Int), w.heap[b]? = some (.cells cs E (0, 0)) → off + a.length ≤ l.length → l.length ≤ cs.size → us = a.map (Value.int k) → cs.toList.take l.length = l.map (Value.int k) →
      ∃ w' cs', (storeCells ⟨b, off, none⟩ us).run P w = .ok () w' ∧ w'.heap[b]? = some (.cells cs' E (0, 0)) ∧ cs'.size = cs.size ∧ cs'.toList.take l.length = (l.take off ++ (a ++ l.drop (off + a.length))).map (Value.int k) ∧ w'.os = w.os ∧ w'.tape = w.tape ∧ w'.output = w.output ∧ w'.heap.size = w.heap.size ∧ ∀ k, k ≠ b → w'.heap[k]? = w.heap[k]? := by
    intro cs E k l a h1 h2 h3 hu ht
    have hul : us.length = a.length := by rw [hu, List.length_map]
    have hrun := run_storeCells_at P b off E us 0 cs w h1 (by omega) (by intro v hv; rw [hu] at hv; obtain ⟨x, _, rfl⟩ := List.mem_map.1 hv; rfl)
    simp only [Nat.add_zero] at hrun
    refine ⟨_, _, hrun, setRow_heap w b cs _ E _ h1, ?_, ?_, rfl, rfl, rfl, by simp, fun k hk => setRow_other w b k _ hk⟩
    · simp only [List.size_toArray, List.length_append, List.length_take, List.length_drop, Array.length_toList]; omega
    · simp only [List.map_append, List.map_take, List.map_drop]
      rw [← ht, ← hu, ← hul]
      rw [List.take_append, List.take_append, List.take_take, List.append_assoc]
      simp only [List.length_append, List.length_take, Array.length_toList, List.drop_take, List.take_take]
      rw [show min off l.length = off from by omega, show min l.length off = off from by omega, show min off cs.size = off from by omega]
      rw [List.take_of_length_le (l := us) (by omega)]
  cases r with
  | ints k l E =>
    cases row with
    | svs a => exact gen h
    | ints k' a =>
      simp only [putRow] at h
      cases hk : decide (k' = k) with
      | false => rw [hk] at h; cases h
      | true =>
        rw [hk] at h
        simp only [decide_eq_true_eq] at hk
        subst hk
        simp only [cond_true, Option.some.injEq, Prod.mk.injEq, Nat.ble_eq] at h
        obtain ⟨hle, rfl⟩ := h
        obtain ⟨cs, h1, h2⟩ := hr
        have hsz : cs.size = l.length := by rw [← Array.length_toList, h2, List.length_map]
        obtain ⟨w', cs', g1, g2, g3, g4, g5⟩ := key cs E k' l a h1 hle (by omega) hv (by rw [List.take_of_length_le (by simp; omega)]; exact h2)
        refine ⟨w', g1, ⟨cs', g2, ?_⟩, g5⟩
        rw [List.take_of_length_le (by simp; omega)] at g4
        exact g4
  | owni k l E =>
    cases row with
    | svs a => exact gen h
    | ints k' a =>
      simp only [putRow] at h
      cases hk : decide (k' = k) with
      | false => rw [hk] at h; cases h
      | true =>
        rw [hk] at h
        simp only [decide_eq_true_eq] at hk
        subst hk
        simp only [cond_true, Option.some.injEq, Prod.mk.injEq, Nat.ble_eq] at h
        obtain ⟨hle, rfl⟩ := h
        obtain ⟨cs, h1, h3, h4, h5, h2⟩ := hr
        obtain ⟨w', cs', g1, g2, g3, g4, g5⟩ := key cs E k' l a h1 hle h4 hv h2
        have hll : (l.take off ++ (a ++ l.drop (off + a.length))).length = l.length := by simp only [List.length_append, List.length_take, List.length_drop]; omega
        exact ⟨w', g1, ⟨cs', g2, by omega, by omega, h5, by rw [hll]; exact g4⟩, g5⟩
  | cells l E => exact gen (by simpa [putRow] using h)
  | own l E sz => exact gen (by simpa [putRow] using h)
  | mark k l E => exact gen (by simpa [putRow] using h)
  | map es cl => exact gen (by simpa [putRow] using h)
  | gone => exact gen (by simpa [putRow] using h)
  | was _ _ => exact gen (by simpa [putRow] using h)
  | iter _ _ _ _ => exact gen (by simpa [putRow] using h)
  | obj o => exact gen (by simpa [putRow] using h)

theorem run_lenOfS {x : SV} {n : Nat} (h : lenOfS x = some n) {vx : Value} (hx : V ρ x vx) : (Builtin.lenOf vx).run P w = .ok n w := by
  unfold lenOfS at h
  split at h <;> try (cases h; done)
  · injection h with h; subst h; cases hx; rfl
  · injection h with h; subst h; obtain ⟨_, _, _, rfl⟩ := hx; rfl
  · injection h with h; subst h; obtain ⟨_, _, _, rfl, _⟩ := hx; rfl
  · injection h with h; subst h; obtain ⟨_, _, _, rfl, _⟩ := hx; rfl
  · injection h with h; subst h; cases hx; rfl

theorem run_srcTake (H : Rel e ρ h w) {x : SV} {sz n : Nat} {l : Row} (hs : srcTake x sz n h = some (true, l)) {vx : Value} (hx : V ρ x vx) :
    ∃ us : List Value, RowIs ρ l us ∧ (Builtin.firstCells sz n vx).run P w = .ok us.toArray w ∧ (∀ i off m cp, x = .slc i off m cp ∨ x = .own i m → us.length = n * sz) := by
  have blk : ∀ (i off m cap : Nat) (x : Bool) (r : Res) (b cp : Nat) (l : Row), ρ i = some (b, cp) → h.m.get i = some (x, r) → rowOf r off (n * sz) = some (true, l) →
      ∃ us : List Value, RowIs ρ l us ∧ (Builtin.firstCells sz n (.slice (some ⟨b, off, none⟩) m cap)).run P w = .ok us.toArray w ∧ us.length = n * sz := by
    intro i off m cap x r b cp l hρ hi hr
    obtain ⟨b', cp', hρ', hh, _⟩ := H.holds i x r hi (rowOf_live hr)
    rw [hρ] at hρ'; injection hρ' with hρ'; injection hρ' with e1 e2; subst e1; subst e2
    obtain ⟨us, h1, h2, h3⟩ := rowOf_cells hh hr
    exact ⟨us, h2, firstCells_at h1 (fun j v hj => by rw [Addr_add]; exact h3 j v hj), h1⟩
  unfold srcTake at hs
  split at hs <;> try (cases hs; done)
  · simp only [Option.some.injEq, Prod.mk.injEq] at hs
    obtain ⟨_, rfl⟩ := hs
    cases hx
    exact ⟨[], trivial, by simp [Builtin.firstCells], fun i off m cp h => by rcases h with h | h <;> cases h⟩
  · rename_i i off m cap
    obtain ⟨b, cp, hρ, rfl⟩ := hx
    split at hs <;> try (cases hs; done)
    rename_i x r hi
    obtain ⟨us, h1, h2, h3⟩ := blk i off m cap x r b cp _ hρ hi hs
    exact ⟨us, h1, h2, fun _ _ _ _ _ => h3⟩
  · rename_i i m
    obtain ⟨b, cp, hρ, rfl, _⟩ := hx
    split at hs <;> try (cases hs; done)
    rename_i x r hi
    obtain ⟨us, h1, h2, h3⟩ := blk i 0 m cp x r b cp _ hρ hi hs
    exact ⟨us, h1, h2, fun _ _ _ _ _ => h3⟩
  · rename_i i off at_ len o0
    obtain ⟨b, cp, hρ, rfl, hle⟩ := hx
    cases hn : Nat.beq n 0 with
    | true =>
      rw [hn] at hs
      simp only [cond_true, Option.some.injEq, Prod.mk.injEq, true_and] at hs
      subst hs
      rw [Nat.beq_eq] at hn
      subst hn
      exact ⟨[], trivial, firstCells_at (us := []) (by simp) (fun j v hj => by simp at hj), fun i off m cp h => by rcases h with h | h <;> cases h⟩
    | false =>
      rw [hn] at hs
      simp only [cond_false] at hs
      have hn0 : n ≠ 0 := by rintro rfl; simp at hn
      split at hs <;> try (cases hs; done)
      rename_i x r hi
      split at hs <;> try (cases hs; done)
      rename_i bb l' hrow
      simp only [Option.some.injEq, Prod.mk.injEq, Bool.and_eq_true, Nat.ble_eq] at hs
      obtain ⟨⟨rfl, hnl⟩, rfl⟩ := hs
      obtain ⟨us, h1, h2, h3⟩ := blk i off len (cp - at_) x r b cp _ hρ hi hrow
      refine ⟨us, h1, ?_, fun _ _ _ _ _ => h3⟩
      rw [if_neg (by omega : ¬ cp = at_)]
      exact h2
  · rename_i s
    simp only [Option.some.injEq, Prod.mk.injEq, Nat.beq_eq] at hs
    obtain ⟨_, rfl⟩ := hs
    cases hx
    refine ⟨((s.extract 0 n).data.toList.map fun (b : UInt8) => (b.toNat : Int)).map (Value.int .u8), rfl, ?_, fun i off m cp h => by rcases h with h | h <;> cases h⟩
    simp [Builtin.firstCells, List.map_map, Function.comp_def]
    apply Array.ext'
    simp

theorem run_copyS (K : c.Ok P) (H : Rel e ρ h w) {t u ty : TypeId} {x y : SV} (hq : (copyS c t u x y h).holds Q) {vx vy : Value} (hx : V ρ x vx) (hy : V ρ y vy) : Came P e ρ w (Builtin.copy_ #[t, u] ty #[vx, vy]) Q := by
  unfold copyS at hq
  split at hq <;> try (exact hq.elim)
  rename_i el hu
  split at hq <;> try (exact hq.elim)
  rename_i inf dl sl hi hd hs
  split at hq <;> try (exact hq.elim)
  rename_i b row hsrc
  obtain ⟨rfl, hq⟩ := hq
  have hlen := run_lenOfS (P := P) (w := w) hs hy
  obtain ⟨us, hrow, hfc, _⟩ := run_srcTake (P := P) H hsrc hy
  have blk : ∀ (i off m cap b cp : Nat) (r r' : Res), ρ i = some (b, cp) → h.m.get i = some (true, r) → putRow r off row = some (true, r') → dl = m → Q (.lit (.int .i64 ((Nat.min sl dl : Nat) : Int))) (h.turn i r') →
      Came P e ρ w (Builtin.copy_ #[t, u] ty #[.slice (some ⟨b, off, none⟩) m cap, vy]) Q := by
    intro i off m cap b cp r r' hρ hi' hp hm hq
    obtain ⟨b', cp', hρ', hr, _⟩ := H.holds i true r hi' (putRow_live hp)
    rw [hρ] at hρ'; injection hρ' with hρ'; injection hρ' with e1 e2; subst e1; subst e2
    obtain ⟨w', g1, g2, g3, g4, g5, g6, g7⟩ := putRow_store (P := P) hr hp hrow
    refine ⟨_, w', .lit (.int .i64 ((Nat.min sl dl : Nat) : Int)), _, ρ, ?_, Val.le.refl ρ, H.turn i r r' b cp hi' (putRow_live hp) hρ g3 g4 g5 g6 g7 (Or.inl g2), rfl, hq⟩
    subst hm
    simp [Builtin.copy_, run_underlying (K.und hu), hlen, run_sizeOf w (K.info hi), cellsOf_info (K.info hi), hfc, g1, goInt]
  split at hq <;> try (exact hq.elim)
  · cases hx
    rename_i m cap
    have hd' : m = dl := by simpa [lenOfS] using hd
    refine Came.of_pure H hq ⟨_, ?_, rfl⟩
    subst hd'
    simp [Builtin.copy_, run_underlying (K.und hu), hlen, run_sizeOf w (K.info hi), cellsOf_info (K.info hi), hfc, goInt]
  · rename_i i off m cap
    obtain ⟨b, cp, hρ, rfl⟩ := hx
    have hd' : m = dl := by simpa [lenOfS] using hd
    split at hq <;> try (exact hq.elim)
    rename_i r hi'
    split at hq <;> try (exact hq.elim)
    rename_i b' r' hp
    obtain ⟨rfl, hq⟩ := hq
    exact blk i off m cap b cp r r' hρ hi' hp hd'.symm hq
  · rename_i i m
    obtain ⟨b, cp, hρ, rfl, _⟩ := hx
    have hd' : m = dl := by simpa [lenOfS] using hd
    split at hq <;> try (exact hq.elim)
    rename_i r hi'
    split at hq <;> try (exact hq.elim)
    rename_i b' r' hp
    obtain ⟨rfl, hq⟩ := hq
    exact blk i 0 m cp b cp r r' hρ hi' hp hd'.symm hq

theorem intsOf_eq : ∀ {l : List SV} {ns : List Int}, intsOf l = some ns → l = ns.map fun n => .lit (.int .u8 n)
  | [], ns, h => by rw [intsOf] at h; injection h with h; subst h; rfl
  | x :: l, ns, h => by
    rw [intsOf] at h
    split at h <;> try (cases h; done)
    rename_i n ms hx hl
    injection h with h
    subst h
    rw [SV.int?_eq hx, intsOf_eq hl]; rfl
theorem VL_map_ints {k : IntKind} : ∀ {ns : List Int} {us : List Value}, VL ρ (ns.map fun n => .lit (.int k n)) us → us = ns.map (Value.int k)
  | [], [], _ => rfl
  | n :: ns, u :: us, ⟨h1, h2⟩ => by
    have h1' : u = .int k n := h1
    rw [h1', VL_map_ints h2]; rfl
  | [], _ :: _, h => h.elim
  | _ :: _, [], h => h.elim
theorem Row.bytes_eq {row : Row} {l : List Int} (h : row.bytes = some l) {us : List Value} (hr : RowIs ρ row us) : us = l.map (Value.int .u8) := by
  unfold Row.bytes at h
  split at h <;> try (cases h; done)
  · injection h with h; subst h; exact hr
  · rename_i l'
    have hr' : VL ρ l' us := hr
    rw [intsOf_eq h] at hr'
    exact VL_map_ints hr'
theorem foldl_push : ∀ (l : List Int) (r : ByteArray), l.foldl (fun r n => r.push (UInt8.ofNat n.toNat)) r = ⟨r.data ++ (l.map fun n => UInt8.ofNat n.toNat).toArray⟩
  | [], r => by simp
  | n :: l, r => by
    rw [List.foldl_cons, foldl_push l]
    congr 1
    apply Array.ext'
    simp [ByteArray.push]

theorem run_convR (K : c.Ok P) (H : Rel e ρ h w) {s d : TypeId} {x r : SV} (hq : convR c s d x h = some (true, r)) {vx : Value} (hx : V ρ x vx) : ∃ v, (convert s d vx).run P w = .ok v w ∧ V ρ r v := by
  unfold convR at hq
  split at hq
  · cases hq
  · rename_i el h1 h2
    split at hq
    · rename_i n h3 hns hlen
      split at hq <;> try (cases hq; done)
      rename_i b row hsrc
      split at hq <;> try (cases hq; done)
      rename_i l hl
      simp only [Option.some.injEq, Prod.mk.injEq] at hq
      obtain ⟨rfl, rfl⟩ := hq
      obtain ⟨us, hrow, hfc, _⟩ := run_srcTake (P := P) H hsrc hx
      have hus := Row.bytes_eq hl hrow
      refine ⟨.string (textOf l), ?_, rfl⟩
      have conv : ∀ (a : Addr) (m cap : Nat), vx = .slice (some a) m cap → n = m → (convert s d vx).run P w = .ok (.string (textOf l)) w := by
        intro a m cap hv hnm
        subst hv; subst hnm
        rw [run_convert_bytes_string w s d el _ _ _ (K.und h1) (K.und h3) (K.und h2)]
        have hld : (loadCells a n).run P w = .ok (l.map (Value.int .u8)).toArray w := by
          have := hfc; simp only [Builtin.firstCells, Nat.mul_one] at this; rw [this, hus]
        rw [run_bytesToString w a n cap l hld, foldl_push]
        simp [textOf]
      unfold lenOfS at hlen
      split at hlen <;> try (cases hlen; done)
      · rename_i a cap m
        injection hlen with hlen
        obtain ⟨a, m, cap, hx2, hlen⟩ : ∃ (a : Option Addr) (m cap : Nat), vx = .slice a m cap ∧ m = n := ⟨_, _, _, hx, hlen⟩
        cases a with
        | none =>
          subst hx2
          have hrun := hfc
          simp only [Builtin.firstCells, Sem.run_pure, Result.ok.injEq] at hrun
          have hu0 : us = [] := by have := hrun.1; simpa using this.symm
          rw [hu0] at hus
          have hl0 : l = [] := by cases l with | nil => rfl | cons _ _ => cases hus
          subst hl0
          rw [run_convert_bytes_string w s d el _ _ _ (K.und h1) (K.und h3) (K.und h2)]
          rfl
        | some a => exact conv a m cap hx2 hlen.symm
      · injection hlen with hlen
        obtain ⟨b, cp, _, hv⟩ := hx
        exact conv _ _ _ hv hlen.symm
      · injection hlen with hlen
        obtain ⟨b, cp, _, hv, _⟩ := hx
        exact conv _ _ _ hv hlen.symm
      · injection hlen with hlen
        obtain ⟨b, cp, _, hv, _⟩ := hx
        exact conv _ _ _ hv hlen.symm
      · simp [SV.str?] at hns
    · cases hq
  · obtain ⟨v', rfl, hr⟩ := run_convS (w := w) K hq hx
    exact ⟨v', hr, rfl⟩

theorem run_convOut (K : c.Ok P) (H : Rel e ρ h w) {s d : TypeId} {x : SV} {idx : Nat} (hq : (convOut c s d x h idx).holds Q) {vx : Value} (hx : V ρ x vx) : Came P e ρ w (convert s d vx) Q := by
  unfold convOut at hq
  split at hq
  · rename_i el h1 h2
    split at hq <;> try (exact hq.elim)
    rename_i t h3 h4
    obtain ⟨hf, hq⟩ := hq
    rw [SV.str?_eq h4] at hx; cases hx
    have hr := run_bytes_of_string (P := P) w s d el t (K.und h1) (K.und h2) (K.und h3)
    have hge := grownCap_ge w t.size 0 el
    obtain ⟨f1, f2⟩ := H.none_of_free hf
    have hrel := (H.drew).alloc (w := w.drew) (.cells (bytesRow t (grownCap w t.size 0 el)) el ((bytesRow t (grownCap w t.size 0 el)).size, (bytesRow t (grownCap w t.size 0 el)).size + 1)) (.mark .u8 (t.data.toList.map fun (b : UInt8) => (b.toNat : Int)) el) (grownCap w t.size 0 el) idx f1 f2 (fun ρ' w' hle hw => by
      refine ⟨_, _, hw, ?_, ?_⟩
      · simp only [bytesRow, Array.size_append, Array.size_map, List.length_map, Array.length_toList]; omega
      · simp only [bytesRow, Array.toList_append, Array.toList_map, List.map_map, List.length_map]
        rw [List.take_left' (by simp)]
        rfl)
    exact ⟨_, _, .own idx t.size, _, _, hr, Val.le_put _ _ f1, hrel, ⟨_, _, Val.put_self _ _ _ _, rfl, hge⟩, hq⟩
  · split at hq <;> try (exact hq.elim)
    rename_i b v hs
    obtain ⟨rfl, hq⟩ := hq
    exact Came.of_pure H hq (run_convR K H hs hx)
end
end Go.SE

namespace Go.SE
open Go.RowKit

def lenOut (c : Ctx) (t : TypeId) (x : SV) (h : Heap) : Out :=
  match x with
  | .ref i => (match c.und t, h.m.get i with
    | some (.map _ _), some (_, .map es _) => .val (.lit (.int .i64 (es.length : Int))) h
    | _, _ => .bad)
  | x => (match lenS c t x with
    | some (b, s) => .need b (.val s h)
    | none => .bad)

/-- keys of one type: the same? -/
def keyEq (c : Ctx) (t : TypeId) (x y : SV) : Option Bool :=
  match c.und t with
  | some (.int _) => (match x.int?, y.int? with
    | some (k, a), some (k', b) => bif decide (k = k') then some (eqF a b) else none
    | _, _ => none)
  | some .string => (match x.str?, y.str? with
    | some a, some b => some (strEq a b)
    | _, _ => none)
  | some (.array n e) => (match eqAny c t x y with
    | some r => some r
    | none => none)
  | some (.struct fs) => eqAny c t x y
  | _ => none

/-- it may be a key -/
def keyOk (c : Ctx) : Nat → TypeId → SV → Bool
  | 0, _, _ => false
  | n + 1, t, x =>
    match c.und t with
    | some (.array len e) => (match c.info e, x.agg? with
      | some i, some xs => (List.range len).all fun j => match partS c e xs (j * i.size) with
        | some a => keyOk c n e a
        | none => false
      | _, _ => false)
    | some .bool => true
    | some (.int _) => true
    | some .string => true
    | _ => false

/-- looking for a key -/
def findOut (c : Ctx) (t : TypeId) (k : SV) (found : Nat → SV → SV → Out) (absent : Out) : List (SV × SV × Nat) → Nat → Out
  | [], _ => absent
  | (k', v, _) :: es, i => (match keyEq c t k k' with
    | some b => .br b (found i k' v) (findOut c t k found absent es (i + 1))
    | none => .bad)

def lookupS (c : Ctx) (t : TypeId) (m k : SV) (ok : Bool) (h : Heap) : Out :=
  match c.und t with
  | some (.map kt et) => (match zeroS c et with
    | some z =>
      let fin : SV → Bool → Out := fun v b => .val (bif ok then .tup [v, .lit (.bool b)] else v) h
      (match m with
      | .lit (.map none) => .need (keyOk c 8 kt k) (fin z false)
      | .ref i => (match h.m.get i with
        | some (_, .map es _) => .need (keyOk c 8 kt k) (findOut c kt k (fun _ _ v => fin v true) (fin z false) es 0)
        | _ => .bad)
      | _ => .bad)
    | none => .bad)
  | _ => .bad

/-- the same bits -/
def sameKey (x y : SV) : Bool :=
  match x.int?, y.int? with
  | some (k, a), some (k', b) => decide (k = k') && eqF a b
  | _, _ => (match x.str?, y.str? with
    | some a, some b => strEq a b
    | _, _ => (match x.agg?, y.agg? with
      | some l, some l' => Nat.beq l.length l'.length && (l.zip l').all fun p => match p.1.int?, p.2.int? with
        | some (k, a), some (k', b) => decide (k = k') && eqF a b
        | _, _ => false
      | _, _ => false))

def updateS (c : Ctx) (t : TypeId) (m k x : SV) (h : Heap) : Out :=
  match c.und t, m with
  | some (.map kt _), .ref i => (match h.m.get i with
    | some (true, .map es clock) => .need (keyOk c 8 kt k) (findOut c kt k
        (fun j k' _ => .need (sameKey k' k) (.val (.lit undef) (h.turn i (.map (es.modify j fun e => (k, x, e.2.2)) clock))))
        (.val (.lit undef) (h.turn i (.map (es ++ [(k, x, clock)]) (clock + 1)))) es 0)
    | _ => .bad)
  | _, _ => .bad

def deleteS (c : Ctx) (t : TypeId) (m k : SV) (h : Heap) : Out :=
  match c.und t with
  | some (.map kt _) => (match m with
    | .lit (.map none) => .need (keyOk c 8 kt k) (.val (.tup []) h)
    | .ref i => (match h.m.get i with
      | some (true, .map es clock) => .need (keyOk c 8 kt k) (findOut c kt k
          (fun j _ _ => .val (.tup []) (h.turn i (.map (es.eraseIdx j) clock)))
          (.val (.tup []) (h.turn i (.map es clock))) es 0)
      | _ => .bad)
    | _ => .bad)
  | _ => .bad

def clearS (c : Ctx) (t : TypeId) (x : SV) (h : Heap) : Out :=
  match c.und t with
  | some (.slice e) => (match x, c.info e, zeroS c e with
    | .slc i off n _, some inf, some z => bif Nat.beq n 0 then .val (.tup []) h else (match h.m.get i with
      | some (true, r) => bif Nat.beq z.cells.length inf.size && Nat.blt 0 z.cells.length then (match putRes r off (cyc z.cells (n * z.cells.length)) with
        | some (b, r') => .need b (.val (.tup []) (h.turn i r'))
        | none => .bad) else .bad
      | _ => .bad)
    | _, _, _ => .bad)
  | _ => .bad

section
variable {c : Ctx} {P : Program} {e : Env} {ρ : Val} {h : Heap} {w : World} {Q : SV → Heap → Prop}

theorem MapRel.length : ∀ {es : List (SV × SV × Nat)} {cs : List MapEntry}, MapRel ρ es cs → es.length = cs.length
  | [], [], _ => rfl
  | (_, _, _) :: _, _ :: _, ⟨_, _, _, h⟩ => congrArg (· + 1) (MapRel.length h)
  | [], _ :: _, h => h.elim
  | (_, _, _) :: _, [], h => h.elim

theorem run_lenOut (K : c.Ok P) (H : Rel e ρ h w) {t ty : TypeId} {x : SV} (hq : (lenOut c t x h).holds Q) {vx : Value} (hx : V ρ x vx) : Came P e ρ w (Builtin.len_ #[t] ty #[vx]) Q := by
  unfold lenOut at hq
  split at hq
  · rename_i i
    obtain ⟨b, cp, hρ, rfl⟩ := hx
    split at hq <;> try (exact hq.elim)
    rename_i k el x es cl hu hi
    obtain ⟨b', cp', hρ', ⟨cs, hw, hm⟩, _⟩ := H.holds i x _ hi rfl
    rw [hρ] at hρ'; injection hρ' with hρ'; injection hρ' with e1 e2; subst e1
    refine Came.of_pure H hq ⟨.int .i64 (cs.size : Int), ?_, ?_⟩
    · simp [Builtin.len_, run_underlying (K.und hu), getObj, Sem.run, hw, goInt]
    · show Value.int .i64 (cs.size : Int) = .int .i64 (es.length : Int)
      rw [hm.length]; simp
  · split at hq <;> try (exact hq.elim)
    rename_i b s hs
    obtain ⟨rfl, hq⟩ := hq
    exact Came.of_pure H hq (run_lenS K hs hx)

theorem run_keyOk (K : c.Ok P) (em : Bool) : ∀ (n d : Nat) (t : TypeId) (x : SV), keyOk c n t x = true → n ≤ d → ∀ {v : Value}, V ρ x v → (Instr.checkKey em d t v).run P w = .ok () w := by
  intro n
  induction n with
  | zero => intro d t x h; cases h
  | succ n ih =>
    intro d t x h hd v hv
    obtain ⟨d, rfl⟩ : ∃ k, d = k + 1 := ⟨d - 1, by omega⟩
    rw [keyOk] at h
    cases hu : c.und t with
    | none => rw [hu] at h; cases h
    | some desc =>
      have hU := K.und hu
      rw [hu] at h
      cases desc with
      | array len el =>
        simp only at h
        split at h <;> try (cases h; done)
        rename_i i xs hi hx
        rw [SV.agg?_eq hx] at hv
        obtain ⟨cs, rfl, hl⟩ := hv
        simp only [Instr.checkKey, Sem.run_bind, run_underlying hU, Result.andThen_ok]
        simp only [Std.Legacy.Range.forIn_eq_forIn_range', Std.Legacy.Range.size, Nat.sub_zero, Nat.add_one_sub_one, Nat.div_one]
        rw [List.range_eq_range'] at h
        revert h
        generalize List.range' 0 len = is
        intro h
        induction is with
        | nil => simp
        | cons j is ihl =>
          rw [List.all_cons, Bool.and_eq_true] at h
          obtain ⟨h1, h2⟩ := h
          split at h1 <;> try (cases h1; done)
          rename_i a ha
          obtain ⟨va, hva, hVa⟩ := run_part (w := w) K.toOk0 ha hl
          simp only [List.forIn_cons, Sem.run_bind, run_sizeOf w (K.info hi), cellsOf_eq K.toOk0 hi, Result.andThen_ok, hva, ih d el a h1 (by omega) hVa, Sem.run_pure]
          exact ihl h2
      | bool => cases v <;> simp [Instr.checkKey, run_underlying hU]
      | int k => cases v <;> simp [Instr.checkKey, run_underlying hU]
      | string => cases v <;> simp [Instr.checkKey, run_underlying hU]
      | _ => cases h

/-- keys, in the model: the quick way and the slow one say the same -/
theorem run_keyEq (K : c.Ok P) {t : TypeId} {x y : SV} {r : Bool} (h : keyEq c t x y = some r) {vx vy : Value} (hx : V ρ x vx) (hy : V ρ y vy) :
    (Op.equal t vx vy).run P w = .ok r w ∧ ∃ d, P.underlying t = some d ∧ (∀ r', Instr.sameNow d vx vy = some r' → r' = r) := by
  unfold keyEq at h
  cases hu : c.und t with
  | none => rw [hu] at h; cases h
  | some d =>
    rw [hu] at h
    have hU := K.und hu
    cases d with
    | int kk =>
      simp only at h
      split at h <;> try (cases h; done)
      rename_i k a k' b ha hb
      rw [SV.int?_eq ha] at hx; rw [SV.int?_eq hb] at hy
      cases hx; cases hy
      cases hk : decide (k = k') with
      | false => rw [hk] at h; cases h
      | true =>
        rw [hk] at h
        simp only [decide_eq_true_eq] at hk
        subst hk
        simp only [cond_true, Option.some.injEq] at h
        rw [eqF_eq] at h
        refine ⟨?_, _, hU, fun r' hr => ?_⟩
        · show (Op.equalIn (9999 + 1) t _ _).run P w = _
          rw [run_equalIn_int w 9999 t k kk a b hU, h]
        · simp [Instr.sameNow] at hr; rw [← hr, ← h]
    | string =>
      simp only at h
      split at h <;> try (cases h; done)
      rename_i a b ha hb
      rw [SV.str?_eq ha] at hx; rw [SV.str?_eq hb] at hy
      cases hx; cases hy
      injection h with h
      rw [strEq_eq] at h
      refine ⟨?_, _, hU, fun r' hr => ?_⟩
      · show (Op.equalIn (9999 + 1) t _ _).run P w = _
        rw [run_equalIn_string w 9999 t a b hU, h]
      · simp [Instr.sameNow] at hr; rw [← hr, ← h, beq_toListBytes]
    | array n el =>
      simp only at h
      split at h <;> try (cases h; done)
      rename_i r0 hr0
      injection h with h; subst h
      exact ⟨(run_eqAny K hr0 hx hy).1, _, hU, fun r' hr => by cases hr⟩
    | struct fs => exact ⟨(run_eqAny K h hx hy).1, _, hU, fun r' hr => by cases hr⟩
    | _ => cases h

/-- looking for a key, in the model -/
theorem run_findOut (K : c.Ok P) {t : TypeId} {k : SV} {vk : Value} (hk : V ρ k vk) {found : Nat → SV → SV → Out} {absent : Out} :
    ∀ (es : List (SV × SV × Nat)) (cs : List MapEntry) (i : Nat), MapRel ρ es cs → (findOut c t k found absent es i).holds Q →
      ∃ d, (P.underlying t = some d ∨ es = []) ∧
      (((∀ r, Instr.findNow d vk cs i = some r → r = none) ∧ (Instr.findAsking t vk cs i).run P w = .ok none w ∧ absent.holds Q) ∨
       (∃ j e s, es[j]? = some s ∧ cs[j]? = some e ∧ V ρ s.1 e.key ∧ V ρ s.2.1 e.val ∧ (found (i + j) s.1 s.2.1).holds Q ∧ (∀ r, Instr.findNow d vk cs i = some r → r = some (i + j, e.val)) ∧ (Instr.findAsking t vk cs i).run P w = .ok (some (i + j, e.val)) w))
  | [], [], i, _, h => ⟨.invalid, Or.inr rfl, Or.inl ⟨fun r hr => by simp [Instr.findNow] at hr; exact hr.symm, by simp [Instr.findAsking], h⟩⟩
  | (k', v, b) :: es, c1 :: cs, i, ⟨h1, h2, h3, h4⟩, h => by
    rw [findOut] at h
    split at h <;> try (exact h.elim)
    rename_i r hr
    obtain ⟨g1, d, g2, g3⟩ := run_keyEq (w := w) K hr hk h1
    refine ⟨d, Or.inl g2, ?_⟩
    obtain ⟨ht, hf⟩ := h
    cases r with
    | true =>
      refine Or.inr ⟨0, c1, (k', v, b), rfl, rfl, h1, h2, ht rfl, fun r hr => ?_, ?_⟩
      · rw [Instr.findNow] at hr
        cases hs : Instr.sameNow d vk c1.key with
        | none => rw [hs] at hr; cases hr
        | some q => rw [hs, g3 q hs] at hr; simp at hr; exact hr.symm
      · simp [Instr.findAsking, g1]
    | false =>
      obtain ⟨d', hd', hres⟩ := run_findOut K hk es cs (i + 1) h4 (hf rfl)
      have hdd : es = [] ∨ d' = d := by
        rcases hd' with hd' | hd'
        · rw [g2] at hd'; injection hd' with hd'; exact Or.inr hd'.symm
        · exact Or.inl hd'
      have hnow : ∀ r, Instr.findNow d vk (c1 :: cs) i = some r → Instr.findNow d vk cs (i + 1) = some r := by
        intro r hr
        rw [Instr.findNow] at hr
        cases hs : Instr.sameNow d vk c1.key with
        | none => rw [hs] at hr; cases hr
        | some q => rw [hs, g3 q hs] at hr; exact hr
      have hask : (Instr.findAsking t vk (c1 :: cs) i).run P w = (Instr.findAsking t vk cs (i + 1)).run P w := by
        simp [Instr.findAsking, g1]
      rcases hres with ⟨r1, r2, r3⟩ | ⟨j, e1, s, r1, r2, r3, r4, r5, r6, r7⟩
      · refine Or.inl ⟨fun r hr => ?_, by rw [hask]; exact r2, r3⟩
        rcases hdd with rfl | rfl
        · cases cs with
          | nil => have := hnow r hr; simp [Instr.findNow] at this; exact this.symm
          | cons _ _ => exact h4.elim
        · exact r1 r (hnow r hr)
      · refine Or.inr ⟨j + 1, e1, s, by simpa using r1, by simpa using r2, r3, r4, by rw [show i + (j + 1) = i + 1 + j from by omega]; exact r5, fun r hr => ?_, ?_⟩
        · rcases hdd with rfl | rfl
          · simp at r1
          · rw [show i + (j + 1) = i + 1 + j from by omega]; exact r6 r (hnow r hr)
        · rw [hask, show i + (j + 1) = i + 1 + j from by omega]; exact r7
  | [], _ :: _, _, h, _ => h.elim
  | (_, _, _) :: _, [], _, h, _ => h.elim

theorem run_findKey (K : c.Ok P) {t : TypeId} {k : SV} {vk : Value} (hk : V ρ k vk) (hkt : ∃ d, P.underlying t = some d) {found : Nat → SV → SV → Out} {absent : Out} {es : List (SV × SV × Nat)} {cs : List MapEntry} (hm : MapRel ρ es cs) (h : (findOut c t k found absent es 0).holds Q) :
    ((Instr.findKey t vk cs).run P w = .ok none w ∧ absent.holds Q) ∨
    (∃ j e s, es[j]? = some s ∧ cs[j]? = some e ∧ V ρ s.1 e.key ∧ V ρ s.2.1 e.val ∧ (found j s.1 s.2.1).holds Q ∧ (Instr.findKey t vk cs).run P w = .ok (some (j, e.val)) w) := by
  obtain ⟨d, hd, hres⟩ := run_findOut (w := w) K hk es cs 0 hm h
  obtain ⟨d0, hd0⟩ := hkt
  have hfk : ∀ r, (Instr.findAsking t vk cs).run P w = .ok r w → (∀ q, Instr.findNow d0 vk cs 0 = some q → q = r) → (Instr.findKey t vk cs).run P w = .ok r w := by
    intro r h1 h2
    simp only [Instr.findKey, Sem.run_bind, run_underlying hd0, Result.andThen_ok]
    cases hn : Instr.findNow d0 vk cs 0 with
    | none => exact h1
    | some q => rw [h2 q hn]; rfl
  have hnow : ∀ r, (∀ q, Instr.findNow d vk cs 0 = some q → q = r) → cs ≠ [] → ∀ q, Instr.findNow d0 vk cs 0 = some q → q = r := by
    intro r h1 hne q hq
    rcases hd with hd | hd
    · rw [hd0] at hd; injection hd with hd; subst hd; exact h1 q hq
    · subst hd
      cases cs with
      | nil => exact absurd rfl hne
      | cons _ _ => exact hm.elim
  rcases hres with ⟨r1, r2, r3⟩ | ⟨j, e1, s, r1, r2, r3, r4, r5, r6, r7⟩
  · refine Or.inl ⟨hfk none r2 ?_, r3⟩
    cases cs with
    | nil => intro q hq; simp [Instr.findNow] at hq; exact hq.symm
    | cons c1 cs => exact hnow none r1 (by simp)
  · rw [Nat.zero_add] at r5 r6 r7
    refine Or.inr ⟨j, e1, s, r1, r2, r3, r4, r5, hfk _ r7 (hnow _ r6 ?_)⟩
    intro he; subst he; simp at r2

theorem run_lookupS (K : c.Ok P) (H : Rel e ρ h w) {t : TypeId} {x y : SV} {ok : Bool} (hq : (lookupS c t x y ok h).holds Q) {vx vy : Value} (hx : V ρ x vx) (hy : V ρ y vy) : Came P e ρ w (Instr.lookup t vx vy ok) Q := by
  unfold lookupS at hq
  split at hq <;> try (exact hq.elim)
  rename_i kt et hu
  split at hq <;> try (exact hq.elim)
  rename_i z hz
  obtain ⟨zv, hzv, hzV, _⟩ := run_zero (ρ := ρ) K hz
  replace hzv := hzv w
  have hfin : ∀ (s : SV) (v : Value) (b : Bool), V ρ s v → V ρ (bif ok then .tup [s, .lit (.bool b)] else s) (if ok then .tuple #[v, .bool b] else v) := by
    intro s v b hv
    cases ok with
    | true => exact ⟨_, rfl, hv, rfl, trivial⟩
    | false => exact hv
  simp only at hq
  split at hq <;> try (exact hq.elim)
  · obtain ⟨hk, hq⟩ := hq
    cases hx
    refine Came.of_pure H hq ⟨_, ?_, hfin z zv false hzV⟩
    have hck := run_keyOk (w := w) K true 8 10000 kt y hk (by omega) hy
    have hfk : (Instr.findKey kt vy []).run P w = .ok none w := by
      unfold keyOk at hk
      cases hku : c.und kt with
      | none => rw [hku] at hk; cases hk
      | some d => simp [Instr.findKey, run_underlying (K.und hku), Instr.findNow]
    simp [Instr.lookup, run_underlying (K.und hu), hck, hfk, hzv]
  · rename_i i
    obtain ⟨b, cp, hρ, rfl⟩ := hx
    split at hq <;> try (exact hq.elim)
    rename_i xx es cl hi
    obtain ⟨hk, hq⟩ := hq
    obtain ⟨b', cp', hρ', ⟨cs, hw, hm⟩, _⟩ := H.holds i xx _ hi rfl
    rw [hρ] at hρ'; injection hρ' with hρ'; injection hρ' with e1 e2; subst e1
    have hkt : ∃ d, P.underlying kt = some d := by
      unfold keyOk at hk
      cases hku : c.und kt with
      | none => rw [hku] at hk; cases hk
      | some d => exact ⟨d, K.und hku⟩
    have hck := run_keyOk (w := w) K cs.isEmpty 8 10000 kt y hk (by omega) hy
    have hgo : (getObj b).run P w = .ok (.map cs cl) w := by simp [getObj, Sem.run, hw]
    rcases run_findKey (w := w) K hy hkt hm hq with ⟨h1, h2⟩ | ⟨j, e1, s, r1, r2, r3, r4, r5, r6⟩
    · refine Came.of_pure H h2 ⟨_, ?_, hfin z zv false hzV⟩
      simp [Instr.lookup, run_underlying (K.und hu), hgo, hck, h1, hzv]
    · refine Came.of_pure H r5 ⟨_, ?_, hfin s.2.1 e1.val true r4⟩
      simp [Instr.lookup, run_underlying (K.und hu), hgo, hck, r6]

theorem ints_same : ∀ {l l' : List SV} {us vs : List Value}, VL ρ l us → VL ρ l' vs → l.length = l'.length →
    ((l.zip l').all fun p => match p.1.int?, p.2.int? with | some (k, a), some (k', b) => decide (k = k') && eqF a b | _, _ => false) = true →
    ((us.zip vs).all fun p => Instr.sameBits 9999 p.1 p.2) = true
  | [], _, [], _, _, _, _, _ => by simp
  | x :: l, y :: l', u :: us, v :: vs, ⟨h1, h2⟩, ⟨h3, h4⟩, hl, ha => by
    rw [List.zip_cons_cons, List.all_cons, Bool.and_eq_true] at ha ⊢
    obtain ⟨h5, h6⟩ := ha
    refine ⟨?_, ints_same h2 h4 (by simpa using hl) h6⟩
    simp only at h5
    split at h5 <;> try (cases h5; done)
    rename_i k a k' b hx hy
    rw [SV.int?_eq hx] at h1; rw [SV.int?_eq hy] at h3
    cases h1; cases h3
    rw [eqF_eq, Bool.and_eq_true] at h5
    simp only [Instr.sameBits, Bool.and_eq_true, beq_iff_eq]
    simpa using h5
  | _ :: _, [], _, _, _, _, hl, _ => by simp at hl
  | [], _, _ :: _, _, h, _, _, _ => h.elim
  | _ :: _, _, [], _, h, _, _, _ => h.elim
  | _ :: _, _ :: _, _ :: _, [], _, h, _, _ => h.elim

theorem run_sameKey {x y : SV} (h : sameKey x y = true) {vx vy : Value} (hx : V ρ x vx) (hy : V ρ y vy) : (Instr.keyThatStays vx vy).run P w = .ok vy w := by
  have : Instr.sameBits (9999 + 1) vx vy = true := by
    unfold sameKey at h
    split at h
    · rename_i k a k' b h1 h2
      rw [SV.int?_eq h1] at hx; rw [SV.int?_eq h2] at hy
      cases hx; cases hy
      rw [eqF_eq, Bool.and_eq_true] at h
      simp only [Instr.sameBits, Bool.and_eq_true, beq_iff_eq]
      simpa using h
    · split at h
      · rename_i a b h1 h2
        rw [SV.str?_eq h1] at hx; rw [SV.str?_eq h2] at hy
        cases hx; cases hy
        rw [strEq_eq] at h
        simp only [Instr.sameBits]
        rw [beq_toListBytes]; exact h
      · split at h <;> try (cases h; done)
        rename_i l l' h1 h2
        rw [SV.agg?_eq h1] at hx; rw [SV.agg?_eq h2] at hy
        obtain ⟨us, rfl, hu⟩ := hx
        obtain ⟨vs, rfl, hv⟩ := hy
        rw [Bool.and_eq_true, Nat.beq_eq] at h
        simp only [Instr.sameBits, Bool.and_eq_true, beq_iff_eq]
        refine ⟨?_, ints_same hu hv h.1 h.2⟩
        have h3 := hu.length; have h4 := hv.length
        simp only [Array.length_toList] at h3 h4
        omega
  show (do if Instr.sameBits 10000 vx vy then pure vy else pure (if (← choose (.extern "map.whichKeyStays" 2)) = 0 then vy else vx) : Sem Value).run P w = _
  rw [if_pos this]; rfl

theorem MapRel.modify {k x : SV} {vk vx : Value} (hk : V ρ k vk) (hx : V ρ x vx) : ∀ {es : List (SV × SV × Nat)} {cs : List MapEntry} (j : Nat), MapRel ρ es cs → MapRel ρ (es.modify j fun e => (k, x, e.2.2)) (cs.modify j fun e => { e with key := vk, val := vx })
  | [], [], j, _ => by cases j <;> exact trivial
  | (_, _, _) :: _, _ :: _, 0, ⟨_, _, h3, h4⟩ => ⟨hk, hx, h3, h4⟩
  | (_, _, _) :: _, _ :: _, j + 1, ⟨h1, h2, h3, h4⟩ => ⟨h1, h2, h3, MapRel.modify hk hx j h4⟩
  | [], _ :: _, _, h => h.elim
  | (_, _, _) :: _, [], _, h => h.elim
theorem MapRel.push {k x : SV} {vk vx : Value} (hk : V ρ k vk) (hx : V ρ x vx) (b : Nat) : ∀ {es : List (SV × SV × Nat)} {cs : List MapEntry}, MapRel ρ es cs → MapRel ρ (es ++ [(k, x, b)]) (cs ++ [{ key := vk, val := vx, born := b }])
  | [], [], _ => ⟨hk, hx, rfl, trivial⟩
  | (_, _, _) :: _, _ :: _, ⟨h1, h2, h3, h4⟩ => ⟨h1, h2, h3, MapRel.push hk hx b h4⟩
  | [], _ :: _, h => h.elim
  | (_, _, _) :: _, [], h => h.elim

theorem run_setObj_at {b : Nat} {cs cs' : Array MapEntry} {cl cl' : Nat} (hw : w.heap[b]? = some (.map cs cl)) :
    ∃ w', (setObj b (.map cs' cl')).run P w = .ok () w' ∧ w'.heap[b]? = some (.map cs' cl') ∧ w'.os = w.os ∧ w'.tape = w.tape ∧ w'.output = w.output ∧ w'.heap.size = w.heap.size ∧ ∀ k, k ≠ b → w'.heap[k]? = w.heap[k]? := by
  have hlt : b < w.heap.size := (Array.getElem?_eq_some_iff.1 hw).1
  refine ⟨{ w with heap := w.heap.setIfInBounds b (.map cs' cl') }, by simp [setObj, Sem.run, hw], ?_, rfl, rfl, rfl, by simp, fun k hk => ?_⟩
  · simp [hlt]
  · simp [Array.getElem?_setIfInBounds, Ne.symm hk]

theorem run_updateS (K : c.Ok P) (H : Rel e ρ h w) {t : TypeId} {m k x : SV} (hq : (updateS c t m k x h).holds Q) {vm vk vx : Value} (hm : V ρ m vm) (hk : V ρ k vk) (hx : V ρ x vx) :
    ∃ w' h', (Instr.mapUpdate t vm vk vx).run P w = .ok () w' ∧ Rel e ρ h' w' ∧ Q (.lit undef) h' := by
  unfold updateS at hq
  split at hq <;> try (exact hq.elim)
  rename_i kt et i hu
  obtain ⟨b, cp, hρ, rfl⟩ := hm
  split at hq <;> try (exact hq.elim)
  rename_i es cl hi
  obtain ⟨hko, hq⟩ := hq
  obtain ⟨b', cp', hρ', ⟨cs, hw, hmr⟩, _⟩ := H.holds i true _ hi rfl
  rw [hρ] at hρ'; injection hρ' with hρ'; injection hρ' with e1 e2; subst e1
  have hkt : ∃ d, P.underlying kt = some d := by
    unfold keyOk at hko
    cases hku : c.und kt with
    | none => rw [hku] at hko; cases hko
    | some d => exact ⟨d, K.und hku⟩
  have hck := run_keyOk (w := w) K false 8 10000 kt k hko (by omega) hk
  have hgo : (getObj b).run P w = .ok (.map cs cl) w := by simp [getObj, Sem.run, hw]
  rcases run_findKey (w := w) K hk hkt hmr hq with ⟨h1, h2⟩ | ⟨j, e1, s, r1, r2, r3, r4, r5, r6⟩
  · obtain ⟨w', g1, g2, g3, g4, g5, g6, g7⟩ := run_setObj_at (P := P) (cs' := cs.push { key := vk, val := vx, born := cl }) (cl' := cl + 1) hw
    refine ⟨w', _, ?_, H.turn i _ (.map (es ++ [(k, x, cl)]) (cl + 1)) b cp hi rfl hρ g3 g4 g5 g6 g7 (Or.inl ⟨_, g2, ?_⟩), h2⟩
    · simp [Instr.mapUpdate, run_underlying (K.und hu), hgo, hck, h1, g1]
    · rw [Array.toList_push]; exact hmr.push hk hx cl
  · obtain ⟨hsk, r5⟩ := r5
    have hst := run_sameKey (P := P) (w := w) hsk r3 hk
    obtain ⟨w', g1, g2, g3, g4, g5, g6, g7⟩ := run_setObj_at (P := P) (cs' := cs.modify j fun e => { e with key := vk, val := vx }) (cl' := cl) hw
    have he : cs[j]? = some e1 := by simpa using r2
    refine ⟨w', _, ?_, H.turn i _ (.map (es.modify j fun e => (k, x, e.2.2)) cl) b cp hi rfl hρ g3 g4 g5 g6 g7 (Or.inl ⟨_, g2, ?_⟩), r5⟩
    · simp [Instr.mapUpdate, run_underlying (K.und hu), hgo, hck, r6, he, hst, g1]
    · rw [Array.toList_modify]; exact hmr.modify hk hx j

theorem MapRel.erase : ∀ {es : List (SV × SV × Nat)} {cs : List MapEntry} (j : Nat), MapRel ρ es cs → MapRel ρ (es.eraseIdx j) (cs.eraseIdx j)
  | [], [], j, _ => by cases j <;> exact trivial
  | (_, _, _) :: _, _ :: _, 0, ⟨_, _, _, h4⟩ => h4
  | (_, _, _) :: _, _ :: _, j + 1, ⟨h1, h2, h3, h4⟩ => ⟨h1, h2, h3, MapRel.erase j h4⟩
  | [], _ :: _, _, h => h.elim
  | (_, _, _) :: _, [], _, h => h.elim

theorem run_deleteS (K : c.Ok P) (H : Rel e ρ h w) {t u ty : TypeId} {x y : SV} (hq : (deleteS c t x y h).holds Q) {vx vy : Value} (hx : V ρ x vx) (hy : V ρ y vy) : Came P e ρ w (Builtin.delete_ #[t, u] ty #[vx, vy]) Q := by
  unfold deleteS at hq
  split at hq <;> try (exact hq.elim)
  rename_i kt et hu
  have keyt : keyOk c 8 kt y = true → ∃ d, P.underlying kt = some d := by
    intro hko
    unfold keyOk at hko
    cases hku : c.und kt with
    | none => rw [hku] at hko; cases hko
    | some d => exact ⟨d, K.und hku⟩
  split at hq <;> try (exact hq.elim)
  · obtain ⟨hk, hq⟩ := hq
    cases hx
    have hck := run_keyOk (w := w) K true 8 10000 kt y hk (by omega) hy
    exact Came.of_pure H hq ⟨.tuple #[], by simp [Builtin.delete_, run_underlying (K.und hu), hck], ⟨#[], rfl, trivial⟩⟩
  · rename_i i
    obtain ⟨b, cp, hρ, rfl⟩ := hx
    split at hq <;> try (exact hq.elim)
    rename_i es cl hi
    obtain ⟨hko, hq⟩ := hq
    obtain ⟨b', cp', hρ', ⟨cs, hw, hmr⟩, _⟩ := H.holds i true _ hi rfl
    rw [hρ] at hρ'; injection hρ' with hρ'; injection hρ' with e1 e2; subst e1
    have hck := run_keyOk (w := w) K cs.isEmpty 8 10000 kt y hko (by omega) hy
    have hgo : (getObj b).run P w = .ok (.map cs cl) w := by simp [getObj, Sem.run, hw]
    rcases run_findKey (w := w) K hy (keyt hko) hmr hq with ⟨h1, h2⟩ | ⟨j, e1, s, r1, r2, r3, r4, r5, r6⟩
    · obtain ⟨w', g1, g2, g3, g4, g5, g6, g7⟩ := run_setObj_at (P := P) (cs' := cs) (cl' := cl) hw
      refine ⟨.tuple #[], w', .tup [], _, ρ, ?_, Val.le.refl ρ, H.turn i _ (.map es cl) b cp hi rfl hρ g3 g4 g5 g6 g7 (Or.inl ⟨_, g2, hmr⟩), ⟨#[], rfl, trivial⟩, h2⟩
      simp [Builtin.delete_, run_underlying (K.und hu), hgo, hck, h1, g1]
    · obtain ⟨w', g1, g2, g3, g4, g5, g6, g7⟩ := run_setObj_at (P := P) (cs' := cs.eraseIdxIfInBounds j) (cl' := cl) hw
      refine ⟨.tuple #[], w', .tup [], _, ρ, ?_, Val.le.refl ρ, H.turn i _ (.map (es.eraseIdx j) cl) b cp hi rfl hρ g3 g4 g5 g6 g7 (Or.inl ⟨_, g2, ?_⟩), ⟨#[], rfl, trivial⟩, r5⟩
      · simp [Builtin.delete_, run_underlying (K.und hu), hgo, hck, r6, g1]
      · rw [Array.toList_eraseIdxIfInBounds]; exact hmr.erase j

theorem zeroCells_made (z : Array Value) (n : Nat) : Builtin.zeroCells z n = madeCells z (n * z.size) := rfl

theorem run_clearS (K : c.Ok P) (H : Rel e ρ h w) {t ty : TypeId} {x : SV} (hq : (clearS c t x h).holds Q) {vx : Value} (hx : V ρ x vx) : Came P e ρ w (Builtin.clear_ #[t] ty #[vx]) Q := by
  unfold clearS at hq
  split at hq <;> try (exact hq.elim)
  rename_i el hu
  split at hq <;> try (exact hq.elim)
  rename_i i off n cap inf z hi hz
  obtain ⟨b, cp, hρ, rfl⟩ := hx
  cases hn : Nat.beq n 0 with
  | true =>
    rw [hn] at hq
    rw [Nat.beq_eq] at hn
    subst hn
    exact Came.of_pure H hq ⟨.tuple #[], by simp [Builtin.clear_, run_underlying (K.und hu)], ⟨#[], rfl, trivial⟩⟩
  | false =>
    rw [hn] at hq
    simp only [cond_false] at hq
    split at hq <;> try (exact hq.elim)
    rename_i r hi'
    cases hc : (Nat.beq z.cells.length inf.size && Nat.blt 0 z.cells.length) with
    | false => rw [hc] at hq; exact hq.elim
    | true =>
      rw [hc] at hq
      simp only [cond_true] at hq
      simp only [Bool.and_eq_true, Nat.beq_eq, Nat.blt_eq] at hc
      split at hq <;> try (exact hq.elim)
      rename_i bb r' hpr
      obtain ⟨rfl, hq⟩ := hq
      obtain ⟨zv, hzv, hV, rfl⟩ := run_zero (ρ := ρ) K hz
      replace hzv := hzv w
      have hzV := hV.cells (raw_ne (ofV_raw zv))
      have hlv : r.live = true := by cases r <;> first | rfl | (cases hpr; done)
      obtain ⟨b', cp', hρ', hr, _⟩ := H.holds i true r hi' hlv
      rw [hρ] at hρ'; injection hρ' with hρ'; injection hρ' with e1 e2; subst e1; subst e2
      have hzl : (ofV zv).cells.length = zv.cells.size := by rw [hzV.length]; simp
      obtain ⟨w', g1, g2, g3, g4, g5, g6, g7⟩ := putRes_store (P := P) hr hpr (VL_cyc hzV hc.2 _)
      rw [hzl, ← zeroCells_made] at g1
      refine ⟨.tuple #[], w', .tup [], _, ρ, ?_, Val.le.refl ρ, H.turn i r r' b cp hi' hlv hρ g3 g4 g5 g6 g7 (Or.inl g2), ⟨#[], rfl, trivial⟩, hq⟩
      have hn0 : n ≠ 0 := by intro he; subst he; cases hn
      obtain ⟨m, rfl⟩ : ∃ m, n = m + 1 := ⟨n - 1, by omega⟩
      simp [Builtin.clear_, run_underlying (K.und hu), hzv, g1]
end

def notIfaceT (c : Ctx) (t : TypeId) : Bool := match c.und t with | some (.interface _) => false | some _ => true | none => false
def failS (c : Ctx) (t : TypeId) (ok : Bool) : Option (Bool × SV) :=
  bif ok then (match zeroS c t with | some z => some (true, .tup [z, .lit (.bool false)]) | none => none) else none
def assertS (c : Ctx) (x : SV) (t : TypeId) (ok : Bool) : Option (Bool × SV) :=
  bif notIfaceT c t then (match x with
    | .iface t' v => bif Nat.beq t' t then some (true, bif ok then .tup [v, .lit (.bool true)] else v) else failS c t ok
    | .lit .nilIface => failS c t ok
    | _ => none) else none
theorem run_assertS {c : Ctx} {P : Program} {w : World} {ρ : Val} (K : c.Ok P) {x s : SV} {xt t : TypeId} {ok : Bool} (h : assertS c x t ok = some (true, s)) {vx : Value} (hx : V ρ x vx) : ∃ v, (Instr.typeAssert vx xt t ok).run P w = .ok v w ∧ V ρ s v := by
  unfold assertS at h
  cases hn : notIfaceT c t with
  | false => rw [hn] at h; cases h
  | true =>
    rw [hn] at h
    simp only [cond_true] at h
    unfold notIfaceT at hn
    cases hu : c.und t with
    | none => rw [hu] at hn; cases hn
    | some d =>
      rw [hu] at hn
      have hU := K.und hu
      have fail : failS c t ok = some (true, s) → ok = true ∧ ∃ v, (zeroValue t).run P w = .ok v w ∧ V ρ s (.tuple #[v, .bool false]) := by
        intro hf
        unfold failS at hf
        cases ok with
        | false => cases hf
        | true =>
          simp only [cond_true] at hf
          split at hf <;> try (cases hf; done)
          rename_i z hz
          simp only [Option.some.injEq, Prod.mk.injEq, true_and] at hf
          subst hf
          obtain ⟨v, h1, h2, _⟩ := run_zero (ρ := ρ) K hz
          exact ⟨rfl, v, h1 w, _, rfl, h2, rfl, trivial⟩
      split at h <;> try (cases h; done)
      · rename_i t' v
        obtain ⟨y, rfl, hy⟩ := hx
        cases hb : Nat.beq t' t with
        | true =>
          rw [hb] at h
          simp only [cond_true, Option.some.injEq, Prod.mk.injEq, true_and] at h
          subst h
          have ht : t' = t := Nat.eq_of_beq_eq_true hb
          refine ⟨if ok then .tuple #[y, .bool true] else y, ?_, ?_⟩
          · cases d <;> first | (cases hn; done) | simp [Instr.typeAssert, run_underlying hU, ht]
          · cases ok with
            | true => exact ⟨_, rfl, hy, rfl, trivial⟩
            | false => exact hy
        | false =>
          rw [hb] at h
          simp only [cond_false] at h
          obtain ⟨rfl, z, hz, hV⟩ := fail h
          have ht : ¬ t' = t := by rintro rfl; rw [Nat.beq_refl] at hb; cases hb
          refine ⟨_, ?_, hV⟩
          cases d <;> first | (cases hn; done) | simp [Instr.typeAssert, run_underlying hU, ht, hz]
      · cases hx
        obtain ⟨rfl, z, hz, hV⟩ := fail h
        refine ⟨_, ?_, hV⟩
        cases d <;> first | (cases hn; done) | simp [Instr.typeAssert, run_underlying hU, hz]
end Go.SE

namespace Go.SE
open Go.RowKit

def rangeS (c : Ctx) (t : TypeId) (x : SV) (h : Heap) (idx : Nat) : Out :=
  match c.und t with
  | some .string => (match x.str? with
    | some s => .need (h.free idx) (.val (.ptr idx 0) (h.put idx (.obj (.stringIter s 0))))
    | none => .bad)
  | some (.map _ _) => (match x with
    | .lit (.map none) => .need (h.free idx) (.val (.ptr idx 0) (h.put idx (.obj (.mapIter none 0 #[] 0))))
    | .ref j => (match h.m.get j with
      | some (_, .map _ clock) => .need (h.free idx) (.val (.ptr idx 0) (h.put idx (.iter j clock [] clock)))
      | _ => .bad)
    | _ => .bad)
  | _ => .bad

def leftS (es : List (SV × SV × Nat)) (seen : List Nat) : List (SV × SV × Nat) := es.filter fun e => !seen.contains e.2.2

def nextS (x : SV) (isStr : Bool) (h : Heap) : Out :=
  match x with
  | .ptr i off => (match h.m.get i with
    | some (true, .obj (.stringIter s pos)) => .need (Nat.beq off 0 && isStr) (.br (Nat.blt pos s.size)
        (.val (.tup [.lit (.bool true), .lit (.int .i64 (pos : Int)), .lit (.int .i32 ((Utf8.decode s pos).1 : Int))]) (h.turn i (.obj (.stringIter s (pos + (Utf8.decode s pos).2)))))
        (.val (.tup [.lit (.bool false)]) h))
    | some (true, .obj (.mapIter none _ _ _)) => .need (Nat.beq off 0 && !isStr) (.val (.tup [.lit (.bool false)]) h)
    | some (true, .iter j since seen last) => (match h.m.get j with
      | some (_, .map es clock) => .need (Nat.beq off 0 && !isStr && Nat.ble since last && es.all (fun e => Nat.blt e.2.2 since)) (match leftS es seen with
        | [] => .val (.tup [.lit (.bool false)]) h
        | [e] => .val (.tup [.lit (.bool true), e.1, e.2.1]) (h.turn i (.iter j since (seen ++ [e.2.2]) clock))
        | _ => .bad)
      | _ => .bad)
    | _ => .bad)
  | _ => .bad

/-- the entry of a range's last step -/
def entryS (x : SV) (h : Heap) : Option (Bool × SV) :=
  match x with
  | .ptr i off => (match h.m.get i with
    | some (true, .iter j _ seen last) => (match h.m.get j, seen.getLast? with
      | some (_, .map es clock), some st => (match es.find? (fun e => Nat.beq e.2.2 st) with
        | some e => some (Nat.beq off 0 && Nat.beq clock last, .tup [e.1, e.2.1])
        | none => none)
      | _, _ => none)
    | _ => none)
  | _ => none

section
variable {c : Ctx} {P : Program} {e : Env} {ρ : Val} {h : Heap} {w : World} {Q : SV → Heap → Prop}

theorem run_rangeS (K : c.Ok P) (H : Rel e ρ h w) {t : TypeId} {x : SV} {idx : Nat} (hq : (rangeS c t x h idx).holds Q) {vx : Value} (hx : V ρ x vx) : Came P e ρ w (Instr.range t vx) Q := by
  unfold rangeS at hq
  split at hq <;> try (exact hq.elim)
  · rename_i hu
    split at hq <;> try (exact hq.elim)
    rename_i s hs
    obtain ⟨hf, hq⟩ := hq
    rw [SV.str?_eq hs] at hx
    cases hx
    obtain ⟨f1, f2⟩ := H.none_of_free hf
    have hrel := H.alloc (.stringIter s 0) (.obj (.stringIter s 0)) 0 idx f1 f2 (fun ρ' w' hle hw => hw)
    exact ⟨_, _, .ptr idx 0, _, _, run_range_string w t s (K.und hu), Val.le_put _ _ f1, hrel, ⟨_, _, Val.put_self _ _ _ _, rfl⟩, hq⟩
  · rename_i kt et hu
    split at hq <;> try (exact hq.elim)
    · obtain ⟨hf, hq⟩ := hq
      cases hx
      obtain ⟨f1, f2⟩ := H.none_of_free hf
      have hrel := H.alloc (.mapIter none 0 #[] 0) (.obj (.mapIter none 0 #[] 0)) 0 idx f1 f2 (fun ρ' w' hle hw => hw)
      exact ⟨_, _, .ptr idx 0, _, _, by simp [Instr.range, run_underlying (K.und hu), newObj, Sem.run], Val.le_put _ _ f1, hrel, ⟨_, _, Val.put_self _ _ _ _, rfl⟩, hq⟩
    · rename_i j
      obtain ⟨b, cp, hρ, rfl⟩ := hx
      split at hq <;> try (exact hq.elim)
      rename_i xx es cl hi
      obtain ⟨hf, hq⟩ := hq
      obtain ⟨b', cp', hρ', ⟨cs, hw, hm⟩, _⟩ := H.holds j xx _ hi rfl
      rw [hρ] at hρ'; injection hρ' with hρ'; injection hρ' with e1 e2; subst e1
      obtain ⟨f1, f2⟩ := H.none_of_free hf
      have hrel := H.alloc (.mapIter (some b) cl #[] cl) (.iter j cl [] cl) 0 idx f1 f2 (fun ρ' w' hle hw => ⟨b, cp, hle _ _ hρ, hw⟩)
      exact ⟨_, _, .ptr idx 0, _, _, by simp [Instr.range, run_underlying (K.und hu), getObj, newObj, Sem.run, hw], Val.le_put _ _ f1, hrel, ⟨_, _, Val.put_self _ _ _ _, rfl⟩, hq⟩

theorem MapRel.left (seen : List Nat) : ∀ {es : List (SV × SV × Nat)} {cs : List MapEntry}, MapRel ρ es cs → MapRel ρ (leftS es seen) (cs.filter fun e => !seen.contains e.born)
  | [], [], _ => trivial
  | (k, v, b) :: es, e :: cs, ⟨h1, h2, h3, h4⟩ => by
    subst h3
    have ih := MapRel.left seen h4
    unfold leftS at ih ⊢
    rw [List.filter_cons, List.filter_cons]
    simp only
    split
    · exact ⟨h1, h2, rfl, ih⟩
    · exact ih
  | [], _ :: _, h => h.elim
  | (_, _, _) :: _, [], h => h.elim

theorem MapRel.born (since : Nat) : ∀ {es : List (SV × SV × Nat)} {cs : List MapEntry}, MapRel ρ es cs → es.all (fun e => Nat.blt e.2.2 since) = true → ∀ x ∈ cs, x.born < since
  | [], [], _, _, x, hx => by cases hx
  | (k, v, b) :: es, e :: cs, ⟨_, _, h3, h4⟩, h, x, hx => by
    rw [List.all_cons, Bool.and_eq_true, Nat.blt_eq] at h
    subst h3
    rcases List.mem_cons.1 hx with rfl | hx
    · exact h.1
    · exact MapRel.born since h4 h.2 x hx
  | [], _ :: _, h, _, _, _ => h.elim
  | (_, _, _) :: _, [], h, _, _, _ => h.elim

theorem run_nextS (H : Rel e ρ h w) {x : SV} {isStr : Bool} {ty : TypeId} (hq : (nextS x isStr h).holds Q) {vx : Value} (hx : V ρ x vx) : Came P e ρ w (Instr.next vx isStr ty) Q := by
  unfold nextS at hq
  split at hq <;> try (exact hq.elim)
  rename_i i off
  split at hq <;> try (exact hq.elim)
  · rename_i s pos hi
    obtain ⟨hc, ht, hf⟩ := hq
    rw [Bool.and_eq_true, Nat.beq_eq] at hc
    obtain ⟨rfl, rfl⟩ := hc
    obtain ⟨b, cp, hρ, rfl⟩ := hx
    obtain ⟨b', cp', hρ', hw, _⟩ := H.holds i true _ hi rfl
    rw [hρ] at hρ'; injection hρ' with hρ'; injection hρ' with e1 e2; subst e1
    have hw : w.heap[b]? = some (.stringIter s pos) := hw
    have hb : b < w.heap.size := (Array.getElem?_eq_some_iff.1 hw).1
    cases hl : Nat.blt pos s.size with
    | true =>
      have hl' : pos < s.size := by simpa using hl
      refine ⟨.tuple #[.bool true, .int .i64 (pos : Int), .int .i32 ((Utf8.decode s pos).1 : Int)], { w with heap := w.heap.setIfInBounds b (.stringIter s (pos + (Utf8.decode s pos).2)) }, .tup [.lit (.bool true), .lit (.int .i64 (pos : Int)), .lit (.int .i32 ((Utf8.decode s pos).1 : Int))], _, ρ, ?_, Val.le.refl ρ, ?_, ?_, ht hl⟩
      · simp only [Instr.next, getObj, setObj, Sem.run_bind, Sem.run, hw, Result.andThen, hl', if_true]
        simp [goInt]
      · exact H.turn i _ _ b cp hi rfl hρ rfl rfl rfl (by simp) (fun k hk => by simp [Array.getElem?_setIfInBounds_ne (Ne.symm hk)]) (Or.inl (by show _ = some _; simp [Array.getElem?_setIfInBounds_self_of_lt hb]))
      · exact ⟨_, rfl, rfl, rfl, rfl, trivial⟩
    | false =>
      have hl' : ¬ pos < s.size := by
        intro h; rw [← Nat.blt_eq, hl] at h; cases h
      refine ⟨.tuple #[.bool false], w, .tup [.lit (.bool false)], _, ρ, ?_, Val.le.refl ρ, H, ⟨_, rfl, rfl, trivial⟩, hf hl⟩
      simp [Instr.next, getObj, Sem.run, hw, hl']
  · rename_i since seen last hi
    obtain ⟨hc, hq⟩ := hq
    rw [Bool.and_eq_true, Nat.beq_eq] at hc
    obtain ⟨rfl, hs⟩ := hc
    have hs : isStr = false := by simpa using hs
    subst hs
    obtain ⟨b, cp, hρ, rfl⟩ := hx
    obtain ⟨b', cp', hρ', hw, _⟩ := H.holds i true _ hi rfl
    rw [hρ] at hρ'; injection hρ' with hρ'; injection hρ' with e1 e2; subst e1
    have hw : w.heap[b]? = some (.mapIter none since seen last) := hw
    exact Came.of_pure H hq ⟨.tuple #[.bool false], by simp [Instr.next, getObj, Sem.run, hw], ⟨_, rfl, rfl, trivial⟩⟩
  · rename_i j since seen last hi
    split at hq <;> try (exact hq.elim)
    rename_i xx es cl hj
    obtain ⟨hc, hq⟩ := hq
    rw [Bool.and_eq_true, Bool.and_eq_true, Bool.and_eq_true, Nat.beq_eq, Nat.ble_eq] at hc
    obtain ⟨⟨⟨rfl, hs⟩, hsl⟩, hall⟩ := hc
    have hs : isStr = false := by simpa using hs
    subst hs
    obtain ⟨b, cp, hρ, rfl⟩ := hx
    obtain ⟨b', cp', hρ', ⟨bm, cm, hρm, hw⟩, _⟩ := H.holds i true _ hi rfl
    rw [hρ] at hρ'; injection hρ' with hρ'; injection hρ' with e1 e2; subst e1
    obtain ⟨bm', cm', hρm', ⟨cs, hwm, hmr⟩, _⟩ := H.holds j xx _ hj rfl
    rw [hρm] at hρm'; injection hρm' with hρm'; injection hρm' with e3 e4; subst e3
    have hold := MapRel.born since hmr hall
    have hleft := MapRel.left seen hmr
    have hlo : (leftOf cs seen.toArray).toList = cs.toList.filter fun e => !seen.contains e.born := by
      unfold leftOf
      simp
    rw [← hlo] at hleft
    have hb : b < w.heap.size := (Array.getElem?_eq_some_iff.1 hw).1
    have hn := Go.run_next_at (P := P) w ty b bm since last seen.toArray cs cl hw hwm hold hsl
    generalize leftOf cs seen.toArray = L at hleft hn
    split at hq <;> try (exact hq.elim)
    · rename_i hl
      rw [hl] at hleft
      rcases hn with ⟨_, hrun⟩ | ⟨e1, he1, _⟩
      · exact Came.of_pure H hq ⟨.tuple #[.bool false], hrun, ⟨_, rfl, rfl, trivial⟩⟩
      · cases hL : L.toList with
        | nil => rw [hL] at he1; cases he1
        | cons _ _ => rw [hL] at hleft; exact hleft.elim
    · rename_i e1 hl
      rw [hl] at hleft
      obtain ⟨k1, v1, b1⟩ := e1
      match hL : L.toList, hleft with
      | [m1], ⟨g1, g2, g3, _⟩ =>
        rcases hn with ⟨h0, _⟩ | ⟨m2, hm2, w1, hw1, hrun⟩
        · have : L.toList.length = 0 := by simpa using h0
          rw [hL] at this; cases this
        · rw [hL] at hm2
          have : m2 = m1 := by simpa using hm2
          subst this
          have H1 : Rel e ρ h w1 := by rcases hw1 with rfl | rfl; exact H; exact H.drew
          have hb1 : b < w1.heap.size := by rcases hw1 with rfl | rfl <;> exact hb
          refine ⟨_, _, .tup [.lit (.bool true), k1, v1], _, ρ, hrun, Val.le.refl ρ, H1.turn i _ (.iter j since (seen ++ [b1]) cl) b cp hi rfl hρ rfl rfl rfl (by simp [ChangeMaps.setBlock]) (fun k hk => by simp [ChangeMaps.setBlock, Array.getElem?_setIfInBounds_ne (Ne.symm hk)]) (Or.inl ⟨bm, cm, hρm, ?_⟩), ⟨_, rfl, rfl, g1, g2, trivial⟩, hq⟩
          simp [ChangeMaps.setBlock, Array.getElem?_setIfInBounds_self_of_lt hb1, g3]

theorem MapRel.find (st : Nat) : ∀ {es : List (SV × SV × Nat)} {cs : List MapEntry}, MapRel ρ es cs → ∀ {x : SV × SV × Nat}, es.find? (fun e => Nat.beq e.2.2 st) = some x → ∃ y, cs.find? (fun e => e.born == st) = some y ∧ V ρ x.1 y.key ∧ V ρ x.2.1 y.val
  | [], [], _, x, h => by cases h
  | (k, v, b) :: es, e :: cs, ⟨h1, h2, h3, h4⟩, x, h => by
    subst h3
    rw [List.find?_cons] at h ⊢
    cases hb : Nat.beq e.born st with
    | true =>
      simp only [hb] at h
      injection h with h; subst h
      have : (e.born == st) = true := by rw [beq_iff_eq]; exact Nat.eq_of_beq_eq_true hb
      rw [this]
      exact ⟨e, rfl, h1, h2⟩
    | false =>
      simp only [hb] at h
      have : (e.born == st) = false := by
        rw [beq_eq_false_iff_ne]
        rintro rfl
        rw [Nat.beq_refl] at hb; cases hb
      rw [this]
      exact MapRel.find st h4 h
  | [], _ :: _, h, _, _ => h.elim
  | (_, _, _) :: _, [], h, _, _ => h.elim

theorem run_entryS (H : Rel e ρ h w) {x s : SV} (hq : entryS x h = some (true, s)) {vx : Value} (hx : V ρ x vx) : ∃ v, (Instr.entry vx).run P w = .ok v w ∧ V ρ s v := by
  unfold entryS at hq
  split at hq <;> try (cases hq; done)
  rename_i i off
  split at hq <;> try (cases hq; done)
  rename_i j since seen last hi
  split at hq <;> try (cases hq; done)
  rename_i xx es cl st hj hst
  split at hq <;> try (cases hq; done)
  rename_i e1 hf
  simp only [Option.some.injEq, Prod.mk.injEq, Bool.and_eq_true, Nat.beq_eq] at hq
  obtain ⟨⟨rfl, rfl⟩, rfl⟩ := hq
  obtain ⟨b, cp, hρ, rfl⟩ := hx
  obtain ⟨b', cp', hρ', ⟨bm, cm, hρm, hw⟩, _⟩ := H.holds i true _ hi rfl
  rw [hρ] at hρ'; injection hρ' with hρ'; injection hρ' with e2 e3; subst e2
  obtain ⟨bm', cm', hρm', ⟨cs, hwm, hmr⟩, _⟩ := H.holds j xx _ hj rfl
  rw [hρm] at hρm'; injection hρm' with hρm'; injection hρm' with e4 e5; subst e4
  obtain ⟨y, hy, h1, h2⟩ := MapRel.find st hmr hf
  have hy' : cs.find? (fun e => e.born == st) = some y := by rw [← Array.find?_toList]; exact hy
  have hb : seen.toArray.back? = some st := by simpa using hst
  refine ⟨.tuple #[y.key, y.val], ?_, ⟨_, rfl, h1, h2, trivial⟩⟩
  simp only [Instr.entry, getObj, Sem.run_bind, Sem.run, hw, hwm, Result.andThen, hb, bne_self_eq_false, Bool.false_eq_true, if_false, hy']
  rfl
end
end Go.SE

