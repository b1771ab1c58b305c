/- The program as the executor takes it; two contracts of its callees. No condition. -/
import Derived.Test.YtfcgnheaggpccaaGreatDoorPF
import Derived.Test.YtfcgnheaggpccaaGreatDoorProg
import Derived.KernelRfl
import Derived.Shelf.Strings.OnBuilder
namespace Go.Proofs.YtfcgnheaggpccaaGreatDoor
open Go Go.SE Go.RowKit

def eqTypes : List TypeId := [22, 23, 24, 25, 78, 79, 193, 194, 195, 196, 321, 322]
def extern : List (FuncId × Ext) := [(312, .countS), (330, .indexByteS), (308, .same)]
noncomputable def ctx : Ctx := ctxOf Tryz.prog eqTypes extern
def ask0 : FuncId → List SV → Heap → Option (SV × Heap) := baseAsk 114 197

theorem follows : Tryz.prog.follows .mixedOrders = true := by kernel_rfl
theorem names : Tryz.prog.funcs.toList.all (fun fn => !(fn.name == "runtime.NumGoroutine")) = true := by kernel_rfl
theorem eqsOk : eqTypes.all (fun t => !(Tryz.prog.eqGuardType Tryz.prog.depth t) && plainEq (ctxOf Tryz.prog eqTypes extern) Tryz.prog 8 t) = true := by kernel_rfl
theorem ext312 : Tryz.prog.funcs[312]? = some Tryz.f312 := by kernel_rfl
theorem ext330 : Tryz.prog.funcs[330]? = some Tryz.f330 := by kernel_rfl
theorem ext308 : Tryz.prog.funcs[308]? = some Tryz.f308 := by kernel_rfl

theorem extOk (f : FuncId) (x : Ext) (hx : findExt extern f = some x) : ∃ fn, Tryz.prog.funcs[f]? = some fn ∧ (fn.name == "runtime.NumGoroutine") = false ∧ fn.body.isNone = true ∧ Extern.findNext fn = none ∧ Extern.find fn = some x.entry := by
  simp only [extern, findExt] at hx
  cases h1 : Nat.beq 312 f with
  | true =>
    rw [h1] at hx
    have := Nat.eq_of_beq_eq_true h1
    subst this
    injection hx with hx; subst hx
    exact ⟨Tryz.f312, ext312, by kernel_rfl, by kernel_rfl, by kernel_rfl, by kernel_rfl⟩
  | false =>
    rw [h1] at hx
    simp only [cond_false] at hx
    cases h2 : Nat.beq 330 f with
    | true =>
      rw [h2] at hx
      have := Nat.eq_of_beq_eq_true h2
      subst this
      injection hx with hx; subst hx
      exact ⟨Tryz.f330, ext330, by kernel_rfl, by kernel_rfl, by kernel_rfl, by kernel_rfl⟩
    | false =>
      rw [h2] at hx
      simp only [cond_false] at hx
      cases h3 : Nat.beq 308 f with
      | true =>
        rw [h3] at hx
        have := Nat.eq_of_beq_eq_true h3
        subst this
        injection hx with hx; subst hx
        exact ⟨Tryz.f308, ext308, by kernel_rfl, by kernel_rfl, by kernel_rfl, by kernel_rfl⟩
      | false => rw [h3] at hx; cases hx

theorem ctx_ok : ctx.Ok Tryz.prog := ctxOf_ok follows names eqsOk extOk
end Go.Proofs.YtfcgnheaggpccaaGreatDoor

namespace Go.Proofs.YtfcgnheaggpccaaGreatDoor
open Go Go.SE Go.RowKit

/-- no function is known otherwise -/
def noAsk : FuncId → List SV → Heap → Option (SV × Heap) := fun _ _ _ => none
def noOracle : Oracle Tryz.prog := ⟨noAsk, fun _ _ _ _ _ h => by cases h⟩

def rotI (x : Int) (n : Nat) : Int := kOr .u32 (kShl .u32 x ((32 - n : Nat) : Int)) (kShr .u32 x (n : Int))
theorem rotI_nat {x n : Nat} (hx : x < 4294967296) (hn : n < 32) : rotI (x : Int) n = (Sha.rot x n : Nat) := by
  have h1 : Nat.shiftLeft x (32 - n) % 4294967296 < 2 ^ 32 := Nat.mod_lt _ (by decide)
  unfold rotI
  rw [kShl_u32 x (32 - n) (by omega), kShr_u32 x n (by omega)]
  have h2 : Nat.shiftRight x n < 4294967296 := Nat.lt_of_le_of_lt (by rw [show Nat.shiftRight x n = x / 2 ^ n from Nat.shiftRight_eq_div_pow x n]; exact Nat.div_le_self _ _) hx
  rw [kOr_u32 h1 h2]; rfl

noncomputable def rightT (x n : Int) (h : Heap) : Tree := runO ctx noOracle.ask 100 (callT ctx 244 [.lit (.int .u32 x), .lit (.int .i64 n)] h retT pncT)
def rotS (n : Int) : Int := kAnd .u64 (wrapF .u64 (wrapF .i64 (0 - n))) 31
theorem right_needs (x n : Int) (h : Heap) : (rightT x n h).needs = [true, true, true, leF 0 (rotS n), true, leF 0 (kSub .u64 32 (rotS n)), true, true, true] := by kernel_rfl
theorem right_past (x n : Int) (h : Heap) : (rightT x n h).past = retT (.lit (.int .u32 (kOr .u32 (kShl .u32 x (rotS n)) (kShr .u32 x (kSub .u64 32 (rotS n)))))) h := by kernel_rfl
theorem rotS_eq : ∀ n : Fin 32, 0 < n.val → rotS (n.val : Int) = ((32 - n.val : Nat) : Int) ∧ kSub .u64 32 (rotS (n.val : Int)) = (n.val : Int) := by decide

def rightAsk (right f : FuncId) (args : List SV) (h : Heap) : Option (SV × Heap) :=
  bif Nat.beq f right then (match args with
    | [.lit (.int .u32 x), .lit (.int .i64 (.ofNat n))] => bif Nat.blt 0 n && Nat.blt n 32 then some (.lit (.int .u32 (rotI x n)), h) else none
    | _ => none) else none

set_option maxRecDepth 100000 in
theorem right_call (x : Int) (n : Nat) (h0 : 0 < n) (h1 : n < 32) (h : Heap) {K Kp : SV → Heap → Prop} (hk : K (.lit (.int .u32 (rotI x n))) h) : CallH Tryz.prog 244 [.lit (.int .u32 x), .lit (.int .i64 (n : Int))] h K Kp := by
  obtain ⟨e1, e2⟩ := rotS_eq ⟨n, h1⟩ h0
  simp only at e1 e2
  have key : (rightT x n h).holds Tryz.prog (endQ K) := by
   refine Tree.past_holds ?_ ?_
   · rw [right_needs, e2, e1]
     refine ⟨rfl, rfl, rfl, ?_, rfl, ?_, rfl, rfl, rfl, trivial⟩
     · rw [leF_eq]; simp
     · rw [leF_eq]; simp
   · rw [right_past, e2, e1]
     exact hk
  exact callH_of ctx_ok (runO_sound ctx_ok noOracle 100 _ key)

theorem rightAsk_right (f : FuncId) (args : List SV) (h : Heap) (r : SV) (h' : Heap) (ha : rightAsk 244 f args h = some (r, h')) {K Kp : SV → Heap → Prop} (hk : K r h') : CallH Tryz.prog f args h K Kp := by
  unfold rightAsk at ha
  cases hf : Nat.beq f 244 with
  | false => rw [hf] at ha; cases ha
  | true =>
    rw [hf] at ha
    have hf := Nat.eq_of_beq_eq_true hf
    subst hf
    simp only [cond_true] at ha
    split at ha <;> try (cases ha; done)
    rename_i x n
    cases hc : (Nat.blt 0 n && Nat.blt n 32) with
    | false => rw [hc] at ha; cases ha
    | true =>
      rw [hc] at ha
      simp only [Bool.and_eq_true, Nat.blt_eq] at hc
      simp only [cond_true, Option.some.injEq, Prod.mk.injEq] at ha
      obtain ⟨rfl, rfl⟩ := ha
      exact right_call x n hc.1 hc.2 h hk

def rightOracle : Oracle Tryz.prog := ⟨rightAsk 244, fun f args h r h' ha K Kp hk => rightAsk_right f args h r h' ha hk⟩
end Go.Proofs.YtfcgnheaggpccaaGreatDoor

namespace Go.Proofs
open Go.Shelf
def Tryz.lays156_ren : Go.Shelf.Ren := ⟨fun | 156 => 197 | 165 => 239 | 166 => 240 | 169 => 241 | 240 => 278 | 241 => 279 | 276 => 308 | 277 => 309 | n => n, fun | 31 => 26 | 9 => 9 | 3 => 3 | 4 => 4 | 0 => 0 | 20 => 20 | 72 => 347 | 76 => 350 | 70 => 345 | 37 => 29 | 75 => 349 | 127 => 384 | 164 => 413 | 5 => 5 | 80 => 178 | n => n, fun | n => n⟩
theorem Tryz.lays156 : Go.Proofs.Lays.n156 Tryz.prog Tryz.lays156_ren := {
  mixed := by kernel_rfl
  f156 := Tryz.func197.trans (congrArg some (by kernel_rfl))
  f165 := Tryz.func239.trans (congrArg some (by kernel_rfl))
  f166 := Tryz.func240.trans (congrArg some (by kernel_rfl))
  f169 := Tryz.func241.trans (congrArg some (by kernel_rfl))
  f240 := Tryz.func278.trans (congrArg some (by kernel_rfl))
  f241 := Tryz.func279.trans (congrArg some (by kernel_rfl))
  f276 := Tryz.func308.trans (congrArg some (by kernel_rfl))
  f277 := Tryz.func309.trans (congrArg some (by kernel_rfl))
  t0 := Tryz.underlying0
  a0 := Tryz.isAgg0
  z0 := Tryz.sizeOf0
  v0 := Tryz.zeroValue0
  t3 := Tryz.underlying3
  a3 := Tryz.isAgg3
  z3 := Tryz.sizeOf3
  v3 := Tryz.zeroValue3
  t4 := Tryz.underlying4
  a4 := Tryz.isAgg4
  z4 := Tryz.sizeOf4
  v4 := Tryz.zeroValue4
  t9 := Tryz.underlying9
  a9 := Tryz.isAgg9
  z9 := Tryz.sizeOf9
  v9 := Tryz.zeroValue9
  t20 := Tryz.underlying20
  a20 := Tryz.isAgg20
  z20 := Tryz.sizeOf20
  v20 := Tryz.zeroValue20
  t31 := Tryz.underlying26
  a31 := Tryz.isAgg26
  z31 := Tryz.sizeOf26
  v31 := Tryz.zeroValue26
  t37 := Tryz.underlying29
  a37 := Tryz.isAgg29
  z37 := Tryz.sizeOf29
  v37 := Tryz.zeroValue29
  t70 := Tryz.underlying345
  a70 := Tryz.isAgg345
  z70 := Tryz.sizeOf345
  v70 := Tryz.zeroValue345
  t72 := Tryz.underlying347
  a72 := Tryz.isAgg347
  z72 := Tryz.sizeOf347
  v72 := Tryz.zeroValue347
  t75 := Tryz.underlying349
  a75 := Tryz.isAgg349
  z75 := Tryz.sizeOf349
  v75 := Tryz.zeroValue349
  t76 := Tryz.underlying350
  a76 := Tryz.isAgg350
  z76 := Tryz.sizeOf350
  v76 := Tryz.zeroValue350
  t127 := Tryz.underlying384
  a127 := Tryz.isAgg384
  z127 := Tryz.sizeOf384
  v127 := Tryz.zeroValue384
  t164 := Tryz.underlying413
  a164 := Tryz.isAgg413
  z164 := Tryz.sizeOf413
  v164 := Tryz.zeroValue413 }
theorem Tryz.Builder_Extra_156 : Builder.Extra Tryz.prog Tryz.lays156_ren := {
  sizeBuilder := by kernel_rfl
  liesBuilder := by kernel_rfl
  t5 := Tryz.underlying5
  a5 := Tryz.isAgg5
  z5 := Tryz.sizeOf5
  v5 := Tryz.zeroValue5
  infoByte := by kernel_rfl
  cellsByte := by kernel_rfl
  sizeByte := by kernel_rfl
  neB5 := by decide }
open Go.RowKit in
/-- No element: the empty string; the world is as it was. (Whatever the slice's address and capacity: a nil slice too.) (LAID: no walk: one application.) -/
theorem Tryz.strings_Join_none (a : Option Addr) (c : Nat) (sep : ByteArray) (w : World) :
    Calls Tryz.prog 197 #[.slice a 0 c, .string sep] w fun e w' => e = .returned (.string ⟨#[]⟩) ∧ w' = w := Any.strings_Join_none Tryz.lays156 Tryz.Builder_Extra_156 a c sep w
open Go.RowKit in
/-- strings.Join: "Join concatenates the elements of its first argument to create a single string. The separator string sep is placed between elements in the resulting string.": HOWEVER MANY ELEMENTS. Below the heap's end the world is as it was. (LAID: no walk: one application.) -/
theorem Tryz.strings_Join (bk o c : Nat) (xs : List ByteArray) (sep : ByteArray) (w : World) (hcells : ∀ (j : Nat) x, xs[j]? = some x → w.cell? ⟨bk, o + j, none⟩ = some (.string x)) (hbk : bk < w.heap.size) (hN : xs.length ≤ 140737488355328) (hcap : xs.length ≤ c) (hlen : (Lib.join (xs.map (·.data.toList)) sep.data.toList).length ≤ 140737488355328) :
    Calls Tryz.prog 197 #[.slice (some ⟨bk, o, none⟩) xs.length c, .string sep] w fun e w' => e = .returned (.string ⟨(Lib.join (xs.map (·.data.toList)) sep.data.toList).toArray⟩) ∧ Below w.heap.size w w' := Any.strings_Join Tryz.lays156 Tryz.Builder_Extra_156 bk o c xs sep w hcells hbk hN hcap hlen
end Go.Proofs

namespace Go.SE
open Go Go.RowKit

theorem strsOf_get {ρ : Val} : ∀ {l : List SV} {ss : List ByteArray}, strsOf l = some ss → ∀ {vs : List Value}, VL ρ l vs → ss.length = l.length ∧ ∀ (j : Nat) x, ss[j]? = some x → vs[j]? = some (.string x)
  | [], ss, h, [], _ => by rw [strsOf] at h; injection h with h; subst h; exact ⟨rfl, fun j x hx => by simp at hx⟩
  | s :: l, ss, h, v :: vs, ⟨h1, h2⟩ => by
    rw [strsOf] at h
    split at h <;> try (cases h; done)
    rename_i a as1 ha hl
    injection h with h
    subst h
    rw [SV.str?_eq ha] at h1
    cases h1
    obtain ⟨g1, g2⟩ := strsOf_get hl h2
    refine ⟨by simp [g1], fun j x hx => ?_⟩
    cases j with
    | zero => simp at hx; subst hx; rfl
    | succ j => simp at hx ⊢; exact g2 j x hx
  | [], _, _, _ :: _, h => h.elim
  | _ :: _, _, _, [], h => h.elim

theorem strs_cells {ρ : Val} {b c : Nat} {w : World} {r : Res} {l : List ByteArray} (hs : r.strs = some l) (hr : Holds ρ b c w r) : ∀ (j : Nat) x, l[j]? = some x → w.cell? ⟨b, j, none⟩ = some (.string x) := by
  unfold Res.strs at hs
  split at hs <;> try (cases hs; done)
  · obtain ⟨cs, h1, h2⟩ := hr
    intro j x hx
    have := (strsOf_get hs h2).2 j x hx
    rw [cell_at h1]; simpa using this
  · obtain ⟨cs, h1, _, _, _, h2⟩ := hr
    intro j x hx
    have := (strsOf_get hs h2).2 j x hx
    rw [List.getElem?_take] at this
    split at this
    · rw [cell_at h1]; simpa using this
    · cases this

theorem joinB_two (sep : List UInt8) (x y : ByteArray) (l : List ByteArray) : joinB sep (x :: y :: l) = x.data.toList ++ (sep ++ joinB sep (y :: l)) := rfl
theorem joinB_eq (sep : List UInt8) : ∀ (l : List ByteArray), joinB sep l = Lib.join (l.map (·.data.toList)) sep
  | [] => rfl
  | [x] => by rw [joinB, List.map_cons, List.map_nil, Lib.join_one]
  | x :: y :: l => by
    rw [joinB_two, joinB_eq sep (y :: l), List.map_cons, List.map_cons, Lib.join_cons, List.map_cons, Lib.join_cons, Lib.joinTail]
    simp [Lib.joinTail]

/-- the slice that a symbolic value is, and its texts -/
theorem texts_V {e : Env} {ρ : Val} {h : Heap} {w : World} (R : Rel e ρ h w) {x : SV} {l : List ByteArray} (hx : textsS h x = some l) {v : Value} (hv : V ρ x v) :
    ∃ b off c, v = .slice (some ⟨b, off, none⟩) l.length c ∧ b < w.heap.size ∧ l.length ≤ c ∧ ∀ (j : Nat) y, l[j]? = some y → w.cell? ⟨b, off + j, none⟩ = some (.string y) := by
  unfold textsS at hx
  split at hx <;> try (cases hx; done)
  · rename_i i len
    split at hx <;> try (cases hx; done)
    rename_i xx r hi
    split at hx <;> try (cases hx; done)
    rename_i l' hl
    cases hb : Nat.ble len l'.length with
    | false => rw [hb] at hx; cases hx
    | true =>
      rw [hb] at hx
      rw [Nat.ble_eq] at hb
      simp only [cond_true, Option.some.injEq] at hx
      subst hx
      obtain ⟨b, c, hρ, rfl, hle⟩ := hv
      have hlv : r.live = true := by cases r <;> first | rfl | (cases hl; done)
      obtain ⟨b', c', hρ', hr, _⟩ := R.holds i xx r hi hlv
      rw [hρ] at hρ'; injection hρ' with hρ'; injection hρ' with e1 e2; subst e1; subst e2
      have hlen : (l'.take len).length = len := by rw [List.length_take]; omega
      refine ⟨b, 0, c, by rw [hlen], hr.lt, by omega, fun j y hy => ?_⟩
      rw [List.getElem?_take] at hy
      split at hy
      · rw [Nat.zero_add]; exact strs_cells hl hr j y hy
      · cases hy
  · rename_i i off len cap
    split at hx <;> try (cases hx; done)
    rename_i xx r hi
    split at hx <;> try (cases hx; done)
    rename_i l' hl
    cases hb : (Nat.ble (off + len) l'.length && Nat.ble len cap) with
    | false => rw [hb] at hx; cases hx
    | true =>
      rw [hb] at hx
      rw [Bool.and_eq_true, Nat.ble_eq, Nat.ble_eq] at hb
      simp only [cond_true, Option.some.injEq] at hx
      subst hx
      obtain ⟨b, c, hρ, rfl⟩ := hv
      have hlv : r.live = true := by cases r <;> first | rfl | (cases hl; done)
      obtain ⟨b', c', hρ', hr, _⟩ := R.holds i xx r hi hlv
      rw [hρ] at hρ'; injection hρ' with hρ'; injection hρ' with e1 e2; subst e1; subst e2
      have hlen : ((l'.drop off).take len).length = len := by rw [List.length_take, List.length_drop]; omega
      refine ⟨b, off, cap, by rw [hlen], hr.lt, by omega, fun j y hy => ?_⟩
      rw [List.getElem?_take] at hy
      split at hy
      · rw [List.getElem?_drop] at hy; exact strs_cells hl hr _ y hy
      · cases hy

theorem joinAsk_right (f : FuncId) (args : List SV) (h : Heap) (r : SV) (h' : Heap) (ha : joinAsk 197 f args h = some (r, h')) {K Kp : SV → Heap → Prop} (hk : K r h') : CallH Go.Proofs.Tryz.prog f args h K Kp := by
  unfold joinAsk at ha
  cases hf : Nat.beq f 197 with
  | false => rw [hf] at ha; cases ha
  | true =>
    rw [hf] at ha
    have hf := Nat.eq_of_beq_eq_true hf
    subst hf
    simp only [cond_true] at ha
    split at ha <;> try (cases ha; done)
    rename_i x sep
    split at ha <;> try (cases ha; done)
    rename_i l hl
    cases hb : (Nat.ble l.length 140737488355328 && Nat.ble (joinB sep.data.toList l).length 140737488355328) with
    | false => rw [hb] at ha; cases ha
    | true =>
      rw [hb] at ha
      rw [Bool.and_eq_true, Nat.ble_eq, Nat.ble_eq] at hb
      simp only [cond_true, Option.some.injEq, Prod.mk.injEq] at ha
      obtain ⟨rfl, rfl⟩ := ha
      refine CallH.pure (fun e ρ w vs R hv => ?_) hk
      match vs, hv with
      | [v1, v2], ⟨h1, h2, _⟩ =>
        cases h2
        obtain ⟨b, off, c, rfl, g1, g2, g3⟩ := texts_V R hl h1
        have hj := hb.2
        rw [joinB_eq] at hj ⊢
        refine Calls.mono (Go.Proofs.Tryz.strings_Join b off c l sep w g3 g1 hb.1 g2 hj) (fun en w' he => ?_)
        exact ⟨_, he.1, rfl, he.2⟩
end Go.SE

