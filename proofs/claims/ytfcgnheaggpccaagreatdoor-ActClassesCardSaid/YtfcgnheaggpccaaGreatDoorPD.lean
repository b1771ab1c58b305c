/- The symbolic executor: each operation; regions; drawn regions. No condition. -/
import Derived.Test.YtfcgnheaggpccaaGreatDoorPC
import Derived.Scope
import Derived.Recover
import Derived.Orders
namespace Go.SE
open Go.RowKit

def pureOut (h : Heap) : Option (Bool × SV) → Out
  | some (b, s) => .need b (.val s h)
  | none => .bad

/-- What an operation comes to: a value, a call, a deferred call, a panic. -/
inductive OpOut where
  | out (o : Out)
  | call (f : FuncId) (args : List SV)
  | dfr (f : Fn) (cap args : List SV)
  | pnc (v : SV)

def nilCheckS (x : SV) : Option (Bool × SV) :=
  match x with
  | .ptr i off => some (true, .ptr i off)
  | .lit (.pointer (some a)) => some (true, .lit (.pointer (some a)))
  | .fn (.func f) fs cs => some (true, .fn (.func f) fs cs)
  | .iface t v => some (true, .iface t v)
  | _ => none

def pickS (g x y : SV) (h : Heap) : Out :=
  match g.bool? with
  | some g => (match x.bool?, y.bool? with
    | some a, some b => .val (.lit (.bool (bif g then a else b))) h
    | _, _ => .br g (.val x h) (.val y h))
  | none => .bad

def builtinS (c : Ctx) (b : Builtin) (ts : List TypeId) (xs : List SV) (h : Heap) (idx : Nat) : Out :=
  match b, ts, xs with
  | .len, [t], [x] => lenOut c t x h
  | .cap, [t], [x] => pureOut h (capS c t x)
  | .min, _, xs => pureOut h (minmaxS false xs)
  | .max, _, xs => pureOut h (minmaxS true xs)
  | .append, [t, u], [s, x] => appendS c t u s x h idx
  | .copy, [t, u], [s, x] => copyS c t u s x h
  | .clear, [t], [x] => clearS c t x h
  | .delete, [t, _], [m, k] => deleteS c t m k h
  | _, _, _ => .bad

/-- a function without a body -/
def extS : Ext → List SV → Option (Bool × SV)
  | .countS, [x, b] => (match x.str?, b with
    | some s, .lit (.int .u8 n) => some (true, .lit (.int .i64 (Lib.countByte s.data.toList n.toNat.toUInt8)))
    | _, _ => none)
  | .indexByteS, [x, b] => (match x.str?, b with
    | some s, .lit (.int .u8 n) => some (true, .lit (.int .i64 (firstIdx s n.toNat.toUInt8)))
    | _, _ => none)
  | .same, [x] => some (true, x)
  | _, _ => none

def opS (c : Ctx) (o : Oper) (ev : Operand → SV) (h : Heap) (idx : Nat) : OpOut :=
  match o.op with
  | .move x => .out (.val (ev x) h)
  | .assign x => .out (.val (ev x) h)
  | .pick g a b => .out (pickS (ev g) (ev a) (ev b) h)
  | .alloc t => .out (allocS c t h idx)
  | .box t x => .out (boxS t (ev x) h idx)
  | .build t parts => .out (let ps := parts.toList.map fun (i, x) => (i, ev x); bif ps.all (fun p => !p.2.raw) then pureOut h (buildS c t ps) else .bad)
  | .buildSlice t n parts => .out (buildSliceS c t n (parts.toList.map fun (i, x) => (i, ev x)) h idx)
  | .load t a => .out (pureOut h (loadS c t (ev a) h))
  | .store t a x => .out (bif (ev x).raw then .bad else match storeS c t (ev a) (ev x) h with
    | some (b, h') => .need b (.val (.lit undef) h')
    | none => .bad)
  | .nilCheck x => .out (pureOut h (nilCheckS (ev x)))
  | .binOp op t x y _ => .out (pureOut h (binS c op t x y (ev x) (ev y)))
  | .unOp op _ x => .out (pureOut h (unS op (ev x)))
  | .convert s d x => .out (convOut c s d (ev x) h idx)
  | .sliceToArrayPointer t x => .out (pureOut h (arrayPtrS c t (ev x)))
  | .makeInterface t x => .out (pureOut h (ifaceS c t (ev x)))
  | .makeFunc fn first cap => .out (.val (.fn fn (first.toList.map ev) (cap.toList.map ev)) h)
  | .makeMap t none => .out (makeMapS h idx)
  | .makeSlice t l cp => .out (makeSliceS c t (ev l) (ev cp) h idx)
  | .slice t x lo hi mx => .out (pureOut h (sliceS c t (ev x) (lo.map ev) (hi.map ev) (mx.map ev)))
  | .fieldAddr t x f => .out (pureOut h (fieldAddrS c t (ev x) f))
  | .field t x f => .out (pureOut h (fieldS c t (ev x) f))
  | .indexAddr t x i => .out (pureOut h (indexAddrS c t (ev x) (ev i)))
  | .index t x i => .out (pureOut h (indexS c t (ev x) (ev i)))
  | .extract x i => .out (pureOut h (extractS (ev x) i))
  | .lookup t x i ok => .out (lookupS c t (ev x) (ev i) ok h)
  | .mapUpdate t m k x => .out (updateS c t (ev m) (ev k) (ev x) h)
  | .insert t m k x => .out (updateS c t (ev m) (ev k) (ev x) h)
  | .typeAssert x xt t ok => .out (pureOut h (assertS c (ev x) t ok))
  | .call cl => (match cl.callee with
    | .builtin b => .out (builtinS c b cl.argTypes.toList (cl.args.toList.map ev) h idx)
    | .value f => (match ev f with
      | .fn (.func f) first cap => (match c.funcs.get f with
        | some fn => bif fn.body.isSome then .call f (first ++ (cl.args.toList.map ev ++ cap)) else (match findExt c.exts f with
          | some x => .out (pureOut h (extS x (first ++ (cl.args.toList.map ev ++ cap))))
          | none => .out .bad)
        | none => .out .bad)
      | _ => .out .bad)
    | _ => .out .bad)
  | .defer cl => (match cl.callee with
    | .value f => (match ev f with
      | .fn f first cap => .dfr f cap (first ++ cl.args.toList.map ev)
      | _ => .out .bad)
    | _ => .out .bad)
  | .range t x => .out (rangeS c t (ev x) h idx)
  | .next x isStr => .out (nextS (ev x) isStr h)
  | .entry x => .out (pureOut h (entryS (ev x) h))
  | .panic x => (match ev x with
    | .iface t v => .pnc (.iface t v)
    | _ => .out .bad)
  | _ => .out .bad

section
variable {c : Ctx} {P : Program} {e : Env} {ρ : Val} {h : Heap} {w : World} {Q : SV → Heap → Prop}

/-- an operation in the model, as its symbolic self says -/
def Does (P : Program) (e : Env) (ρ : Val) (w : World) (act : Sem Next) (Q : SV → Heap → Prop) : Prop :=
  ∃ v w' s h' ρ', (act.run P w = .ok (.value v) w' ∨ (act.run P w = .ok .skip w' ∧ v = undef)) ∧ ρ.le ρ' ∧ Rel e ρ' h' w' ∧ V ρ' s v ∧ Q s h'

theorem Does.of_came {act : Sem Value} (h : Came P e ρ w act Q) : Does P e ρ w (do pure (.value (← act))) Q := by
  obtain ⟨v, w', s, h', ρ', h1, h2⟩ := h
  exact ⟨v, w', s, h', ρ', Or.inl (by simp [h1]), h2⟩

theorem Came.of_pureOut {act : Sem Value} (H : Rel e ρ h w) {r : Option (Bool × SV)} (hq : (pureOut h r).holds Q) (hr : ∀ s, r = some (true, s) → ∃ v, act.run P w = .ok v w ∧ V ρ s v) : Came P e ρ w act Q := by
  cases r with
  | none => exact hq.elim
  | some p =>
    obtain ⟨b, s⟩ := p
    obtain ⟨rfl, hq⟩ := hq
    exact Came.of_pure H hq (hr s rfl)

theorem of_lit {s : SV} {v : Value} (h : ∃ v', s = .lit v' ∧ v' = v) : V ρ s v := by obtain ⟨v', rfl, rfl⟩ := h; rfl

theorem PL_of {ev : Operand → SV} {er : Operand → Value} (hev : ∀ x, V ρ (ev x) (er x)) : ∀ (l : List (Nat × Operand)), PL ρ (l.map fun (i, x) => (i, ev x)) (l.map fun (i, x) => (i, er x))
  | [] => trivial
  | (_, x) :: l => ⟨rfl, hev x, PL_of hev l⟩
theorem VL_of {ev : Operand → SV} {er : Operand → Value} (hev : ∀ x, V ρ (ev x) (er x)) : ∀ (l : List Operand), VL ρ (l.map ev) (l.map er)
  | [] => trivial
  | x :: l => ⟨hev x, VL_of hev l⟩
theorem OV_of {ev : Operand → SV} {er : Operand → Value} (hev : ∀ x, V ρ (ev x) (er x)) : ∀ (o : Option Operand), OV ρ (o.map ev) (o.map er)
  | none => trivial
  | some x => hev x

theorem run_nilCheckS {o : Oper} {er : Operand → Value} {x : Operand} (ho : o.op = .nilCheck x) {s s' : SV} (h : nilCheckS s = some (true, s')) (hv : V ρ s (er x)) : ∃ v, (execOp er o).run P w = .ok (.value v) w ∧ V ρ s' v := by
  unfold nilCheckS at h
  split at h <;> try (cases h; done)
  all_goals (simp only [Option.some.injEq, Prod.mk.injEq, true_and] at h; subst h)
  · obtain ⟨b, cp, h1, h2⟩ := hv
    exact ⟨er x, by unfold execOp; rw [ho]; simp only [h2]; rfl, b, cp, h1, h2⟩
  · have h2 : er x = _ := hv
    exact ⟨er x, by unfold execOp; rw [ho]; simp only [h2]; rfl, h2⟩
  · obtain ⟨fs, cs, h2, h3⟩ := hv
    exact ⟨er x, by unfold execOp; rw [ho]; simp only [h2]; rfl, fs, cs, h2, h3⟩
  · obtain ⟨y, h2, h3⟩ := hv
    exact ⟨er x, by unfold execOp; rw [ho]; simp only [h2]; rfl, y, h2, h3⟩

theorem Does.of_exec {o : Oper} {er : Operand → Value} {act : Sem Value} (h : Came P e ρ w act Q) (he : execOp er o = (do pure (.value (← act)) : Sem Next)) : Does P e ρ w (execOp er o) Q := by
  rw [he]; exact Does.of_came h

theorem map_toList {α β : Type} (f : α → β) (a : Array α) : (a.map f).toList = a.toList.map f := by simp

theorem builtin_does {b : Builtin} {act : Sem Value} {ts : Array TypeId} {ty : TypeId} {cs : Array Bool} {args : Array Value} (h : Came P e ρ w act Q) (he : builtin b ts ty cs args = (do pure (.value (← act)) : Sem Next)) : Does P e ρ w (builtin b ts ty cs args) Q := by
  rw [he]; exact Does.of_came h

theorem run_extS {x : Ext} {l : List SV} {s : SV} (hs : extS x l = some (true, s)) {vs : List Value} (hv : VL ρ l vs) : ∃ v, (x.entry vs.toArray).run P w = .ok v w ∧ V ρ s v := by
  unfold extS at hs
  split at hs <;> try (cases hs; done)
  · rename_i x b
    split at hs <;> try (cases hs; done)
    rename_i t n ht
    simp only [Option.some.injEq, Prod.mk.injEq, true_and] at hs
    subst hs
    match vs, hv with
    | [v1, v2], ⟨h1, h2, _⟩ =>
      rw [SV.str?_eq ht] at h1
      cases h1; cases h2
      exact ⟨_, Lib.run_countString t n w, rfl⟩
  · rename_i x b
    split at hs <;> try (cases hs; done)
    rename_i t n ht
    simp only [Option.some.injEq, Prod.mk.injEq, true_and] at hs
    subst hs
    match vs, hv with
    | [v1, v2], ⟨h1, h2, _⟩ =>
      rw [SV.str?_eq ht] at h1
      cases h1; cases h2
      exact ⟨_, run_indexByte_string t n w, rfl⟩
  · simp only [Option.some.injEq, Prod.mk.injEq, true_and] at hs
    subst hs
    match vs, hv with
    | [v1], ⟨h1, _⟩ => exact ⟨v1, rfl, h1⟩

theorem run_out (K : c.Ok P) {o : Oper} {ev : Operand → SV} {er : Operand → Value} (hev : ∀ x, V ρ (ev x) (er x)) (H : Rel e ρ h w) {idx : Nat} {out : Out} (ho : opS c o ev h idx = .out out) (hq : out.holds Q) : Does P e ρ w (execOp er o) Q := by
  obtain ⟨dst, op, ty, pos, after, guard⟩ := o
  cases op <;> simp only [opS, reduceCtorEq, OpOut.out.injEq] at ho <;> try (subst ho; try (exact hq.elim))
  case move x => exact ⟨_, w, ev x, h, ρ, Or.inl rfl, Val.le.refl ρ, H, hev x, hq⟩
  case assign x => exact ⟨_, w, ev x, h, ρ, Or.inl rfl, Val.le.refl ρ, H, hev x, hq⟩
  case pick g a b =>
    unfold pickS at hq
    split at hq <;> try (exact hq.elim)
    rename_i gb hg
    have h1 := hev g
    rw [SV.bool?_eq hg] at h1
    have hg' : er g = .bool gb := h1
    split at hq
    · rename_i x y hx hy
      have h2 := hev a; have h3 := hev b
      rw [SV.bool?_eq hx] at h2; rw [SV.bool?_eq hy] at h3
      refine ⟨.bool (bif gb then x else y), w, .lit (.bool (bif gb then x else y)), h, ρ, Or.inl ?_, Val.le.refl ρ, H, rfl, hq⟩
      have h2' : er a = .bool x := h2
      have h3' : er b = .bool y := h3
      cases gb <;> simp [execOp, hg', asBool, h2', h3']
    · obtain ⟨ht, hf⟩ := hq
      cases gb with
      | true => exact ⟨er a, w, _, h, ρ, Or.inl (by simp [execOp, hg', asBool]), Val.le.refl ρ, H, hev a, ht rfl⟩
      | false => exact ⟨er b, w, _, h, ρ, Or.inl (by simp [execOp, hg', asBool]), Val.le.refl ρ, H, hev b, hf rfl⟩
  case alloc t => exact Does.of_exec (run_allocS K H hq (.tuple #[])) rfl
  case box t x => exact Does.of_exec (run_boxS H hq (hev x)) rfl
  case build t parts =>
    cases hr : (parts.toList.map fun (i, x) => (i, ev x)).all (fun p => !p.2.raw) with
    | false => rw [hr] at hq; exact hq.elim
    | true =>
      rw [hr] at hq
      have hp : PL ρ (parts.toList.map fun (i, x) => (i, ev x)) (parts.map fun (i, x) => (i, er x)).toList := by rw [map_toList]; exact PL_of hev _
      have hc : Came P e ρ w (Instr.build t (parts.map fun (i, x) => (i, er x))) Q := Came.of_pureOut H hq (fun s hs => run_buildS K hs hr hp)
      exact Does.of_exec hc rfl
  case buildSlice t n parts =>
    have hp : PL ρ (parts.toList.map fun (i, x) => (i, ev x)) (parts.map fun (i, x) => (i, er x)).toList := by rw [map_toList]; exact PL_of hev _
    have hc : Came P e ρ w (Instr.buildSlice t n (parts.map fun (i, x) => (i, er x))) Q := run_buildSliceS K H hq hp
    exact Does.of_exec hc rfl
  case load t a => exact Does.of_exec (Came.of_pureOut H hq (fun s hs => run_loadS K H hs (hev a))) rfl
  case store t a x =>
    cases hr : (ev x).raw with
    | true => rw [hr] at hq; exact hq.elim
    | false =>
      rw [hr] at hq
      simp only [cond_false] at hq
      split at hq <;> try (exact hq.elim)
      rename_i b h' hs
      obtain ⟨rfl, hq⟩ := hq
      obtain ⟨w', h1, h2⟩ := run_storeS K H hs (raw_ne hr) (hev a) (hev x)
      exact ⟨undef, w', .lit undef, h', ρ, Or.inr ⟨by simp [execOp, h1], rfl⟩, Val.le.refl ρ, h2, rfl, hq⟩
  case nilCheck x =>
    unfold pureOut at hq
    split at hq <;> try (exact hq.elim)
    rename_i b s hs
    obtain ⟨rfl, hq⟩ := hq
    obtain ⟨v, h1, h2⟩ := run_nilCheckS (P := P) (w := w) (o := ⟨dst, .nilCheck x, ty, pos, after, guard⟩) rfl hs (hev x)
    exact ⟨v, w, s, h, ρ, Or.inl h1, Val.le.refl ρ, H, h2, hq⟩
  case binOp op t x y yt =>
    refine Does.of_exec (act := do eqGuard op t x y (er x) (er y); binOp op t (er x) (er y)) (Came.of_pureOut H hq (fun s hs => ?_)) rfl
    obtain ⟨v, rfl, hr⟩ := run_binS (w := w) K hs (hev x) (hev y)
    exact ⟨v, hr, rfl⟩
  case unOp op t x =>
    refine Does.of_exec (act := Op.unary op (er x)) (Came.of_pureOut H hq (fun s hs => ?_)) rfl
    obtain ⟨v, rfl, hr⟩ := run_unS (P := P) (w := w) hs (hev x)
    exact ⟨v, hr, rfl⟩
  case convert s d x => exact Does.of_exec (run_convOut K H hq (hev x)) rfl
  case sliceToArrayPointer t x => exact Does.of_exec (Came.of_pureOut H hq (fun s hs => run_arrayPtrS K hs (hev x))) rfl
  case makeInterface t x => exact Does.of_exec (Came.of_pureOut H hq (fun s hs => run_ifaceS K hs (hev x))) rfl
  case makeFunc fn first cap =>
    refine ⟨.func fn (first.map er) (cap.map er), w, .fn fn (first.toList.map ev) (cap.toList.map ev), h, ρ, Or.inl (by simp [execOp, Instr.makeFunc]), Val.le.refl ρ, H, ⟨_, _, rfl, ?_, ?_⟩, hq⟩
    · rw [map_toList]; exact VL_of hev _
    · rw [map_toList]; exact VL_of hev _
  case makeMap t r =>
    cases r with
    | some x => simp only [OpOut.out.injEq] at ho; subst ho; exact hq.elim
    | none => simp only [OpOut.out.injEq] at ho; subst ho; exact Does.of_exec (run_makeMapS H hq) rfl
  case makeSlice t l cp => exact Does.of_exec (run_makeSliceS K H hq (hev l) (hev cp)) rfl
  case slice t x lo hi mx => exact Does.of_exec (Came.of_pureOut H hq (fun s hs => run_sliceS K hs (hev x) (OV_of hev lo) (OV_of hev hi) (OV_of hev mx))) rfl
  case fieldAddr t x f => exact Does.of_exec (Came.of_pureOut H hq (fun s hs => run_fieldAddrS K hs (hev x))) rfl
  case field t x f => exact Does.of_exec (Came.of_pureOut H hq (fun s hs => run_fieldS K hs (hev x))) rfl
  case indexAddr t x i => exact Does.of_exec (Came.of_pureOut H hq (fun s hs => run_indexAddrS K hs (hev x) (hev i))) rfl
  case index t x i => exact Does.of_exec (Came.of_pureOut H hq (fun s hs => run_indexS K hs (hev x) (hev i))) rfl
  case extract x i => exact Does.of_exec (Came.of_pureOut H hq (fun s hs => run_extractS hs (hev x))) rfl
  case lookup t x i ok => exact Does.of_exec (run_lookupS K H hq (hev x) (hev i)) rfl
  case mapUpdate t m k x =>
    obtain ⟨w', h1, h2, h3⟩ := run_updateS K H hq (hev m) (hev k) (hev x)
    exact ⟨undef, w', .lit undef, h1, ρ, Or.inr ⟨by simp [execOp, h2], rfl⟩, Val.le.refl ρ, h3.1, rfl, h3.2⟩
  case insert t m k x =>
    obtain ⟨w', h1, h2, h3⟩ := run_updateS K H hq (hev m) (hev k) (hev x)
    exact ⟨undef, w', .lit undef, h1, ρ, Or.inr ⟨by simp [execOp, h2], rfl⟩, Val.le.refl ρ, h3.1, rfl, h3.2⟩
  case typeAssert x xt t ok => exact Does.of_exec (Came.of_pureOut H hq (fun s hs => run_assertS K hs (hev x))) rfl
  case range t x => exact Does.of_exec (run_rangeS K H hq (hev x)) rfl
  case next x isStr => exact Does.of_exec (run_nextS H hq (hev x)) rfl
  case entry x => exact Does.of_exec (Came.of_pureOut H hq (fun s hs => run_entryS H hs (hev x))) rfl
  case defer cl =>
    split at ho <;> try (first | (cases ho; exact hq.elim) | (split at ho <;> cases ho; exact hq.elim))
  case panic x => split at ho <;> cases ho; exact hq.elim
  case call cl =>
    obtain ⟨callee, args, ats⟩ := cl
    cases callee with
    | invoke r m => simp only [OpOut.out.injEq] at ho; subst ho; exact hq.elim
    | value f =>
      simp only at ho
      split at ho
      · rename_i fi fs cs hfe
        split at ho
        · rename_i fn hfn
          cases hb : fn.body.isSome with
          | true => rw [hb] at ho; cases ho
          | false =>
            rw [hb] at ho
            simp only [cond_false] at ho
            split at ho
            · rename_i x hx
              simp only [OpOut.out.injEq] at ho
              subst ho
              obtain ⟨fn', g1, g2, g3, g4, g5⟩ := K.exts _ x hx
              have hfv := hev f
              rw [hfe] at hfv
              obtain ⟨vfs, vcs, hfv, hv1, hv2⟩ := hfv
              have hargs : VL ρ (fs ++ (args.toList.map ev ++ cs)) (vfs.toList ++ (args.toList.map er ++ vcs.toList)) := hv1.append ((VL_of hev _).append hv2)
              have hexec : (execOp er ⟨dst, .call ⟨.value f, args, ats⟩, ty, pos, after, guard⟩).run P w = (callFunc fi (vfs.toList ++ (args.toList.map er ++ vcs.toList)).toArray).run P w := by
                simp only [execOp, resolve, hfv, Deferred.ofValue, Sem.run_bind, Sem.run_pure, Result.andThen_ok, invoke]
                congr 2
                apply Array.ext'
                simp
              unfold pureOut at hq
              split at hq <;> try (exact hq.elim)
              rename_i b sv hs
              obtain ⟨rfl, hq⟩ := hq
              obtain ⟨v, h1, h2⟩ := run_extS (P := P) (w := w) hs hargs
              refine ⟨v, w, sv, h, ρ, Or.inl ?_, Val.le.refl ρ, H, h2, hq⟩
              rw [hexec, run_callFunc_extern g1 g2 g3 g4 g5, h1]
              rfl
            · cases ho; exact hq.elim
        · cases ho; exact hq.elim
      · cases ho; exact hq.elim
    | builtin b =>
      simp only [OpOut.out.injEq] at ho
      subst ho
      have hexec : execOp er ⟨dst, .call ⟨.builtin b, args, ats⟩, ty, pos, after, guard⟩ = builtin b ats ty (args.map fun | .const _ => true | _ => false) (args.map er) := by
        simp [execOp, resolve, invoke]
        rfl
      rw [hexec]
      have hargs : VL ρ (args.toList.map ev) (args.map er).toList := by rw [map_toList]; exact VL_of hev _
      generalize args.toList.map ev = xs at hq hargs
      generalize args.map er = vs at hargs
      generalize (args.map fun | .const _ => true | _ => false) = cs
      obtain ⟨ts, rfl⟩ : ∃ ts, ats = ts.toArray := ⟨ats.toList, by simp⟩
      obtain ⟨vs, rfl⟩ : ∃ l, vs = l.toArray := ⟨vs.toList, by simp⟩
      simp only at hq hargs
      unfold builtinS at hq
      split at hq <;> try (exact hq.elim)
      · match vs, hargs with
        | [v], ⟨h1, _⟩ => exact builtin_does (run_lenOut K H hq h1) rfl
      · match vs, hargs with
        | [v], ⟨h1, _⟩ => exact builtin_does (Came.of_pureOut H hq (fun s hs => run_capS K hs h1)) rfl
      · exact builtin_does (Came.of_pureOut H hq (fun s hs => by obtain ⟨v, rfl, hr⟩ := run_min (P := P) (w := w) (vs := vs.toArray) hargs hs ts.toArray ty; exact ⟨v, hr, rfl⟩)) rfl
      · exact builtin_does (Came.of_pureOut H hq (fun s hs => by obtain ⟨v, rfl, hr⟩ := run_max (P := P) (w := w) (vs := vs.toArray) hargs hs ts.toArray ty; exact ⟨v, hr, rfl⟩)) rfl
      · match vs, hargs with
        | [v1, v2], ⟨h1, h2, _⟩ => exact builtin_does (run_appendS K H hq h1 h2) rfl
      · match vs, hargs with
        | [v1, v2], ⟨h1, h2, _⟩ => exact builtin_does (run_copyS K H hq h1 h2) rfl
      · match vs, hargs with
        | [v1], ⟨h1, _⟩ => exact builtin_does (run_clearS K H hq h1) rfl
      · match vs, hargs with
        | [v1, v2], ⟨h1, h2, _⟩ => exact builtin_does (run_deleteS K H hq h1 h2) rfl

theorem opS_call {o : Oper} {ev : Operand → SV} {idx : Nat} {f : FuncId} {args : List SV} (ho : opS c o ev h idx = .call f args) :
    ∃ fo cargs cts fs cs, o.op = .call ⟨.value fo, cargs, cts⟩ ∧ ev fo = .fn (.func f) fs cs ∧ args = fs ++ (cargs.toList.map ev ++ cs) ∧ ∃ fn, c.funcs.get f = some fn ∧ fn.body.isSome = true := by
  unfold opS at ho
  split at ho <;> try (cases ho; done)
  · rename_i cl hop
    obtain ⟨callee, cargs, cts⟩ := cl
    split at ho <;> try (cases ho; done)
    rename_i fo hc
    split at ho <;> try (cases ho; done)
    rename_i f' fs cs hf
    split at ho <;> try (cases ho; done)
    rename_i fn hfn
    cases hb : fn.body.isSome with
    | false => rw [hb] at ho; simp only [cond_false] at ho; split at ho <;> cases ho
    | true =>
      rw [hb] at ho
      simp only at hc
      subst hc
      injection ho with h1 h2
      subst h1
      exact ⟨fo, cargs, cts, fs, cs, hop, hf, h2.symm, fn, hfn, hb⟩
  · split at ho <;> try (cases ho; done)
    split at ho <;> cases ho
  · split at ho <;> cases ho

theorem opS_dfr {o : Oper} {ev : Operand → SV} {idx : Nat} {f : Fn} {cap args : List SV} (ho : opS c o ev h idx = .dfr f cap args) :
    ∃ fo cargs cts fs, o.op = .defer ⟨.value fo, cargs, cts⟩ ∧ ev fo = .fn f fs cap ∧ args = fs ++ cargs.toList.map ev := by
  unfold opS at ho
  split at ho <;> try (cases ho; done)
  · split at ho <;> try (cases ho; done)
    split at ho <;> try (cases ho; done)
    split at ho <;> try (cases ho; done)
    rename_i fn _
    cases hb : fn.body.isSome with
    | true => rw [hb] at ho; cases ho
    | false => rw [hb] at ho; simp only [cond_false] at ho; split at ho <;> cases ho
  · rename_i cl hop
    obtain ⟨callee, cargs, cts⟩ := cl
    split at ho <;> try (cases ho; done)
    rename_i fo hc
    split at ho <;> try (cases ho; done)
    rename_i f' fs cs hf
    simp only at hc
    subst hc
    injection ho with h1 h2 h3
    subst h1; subst h2
    exact ⟨fo, cargs, cts, fs, hop, hf, h3.symm⟩
  · split at ho <;> cases ho

theorem opS_pnc {o : Oper} {ev : Operand → SV} {idx : Nat} {v : SV} (ho : opS c o ev h idx = .pnc v) :
    ∃ x t y, o.op = .panic x ∧ ev x = .iface t y ∧ v = .iface t y := by
  unfold opS at ho
  split at ho <;> try (cases ho; done)
  · split at ho <;> try (cases ho; done)
    split at ho <;> try (cases ho; done)
    split at ho <;> try (cases ho; done)
    rename_i fn _
    cases hb : fn.body.isSome with
    | true => rw [hb] at ho; cases ho
    | false => rw [hb] at ho; simp only [cond_false] at ho; split at ho <;> cases ho
  · split at ho <;> try (cases ho; done)
    split at ho <;> cases ho
  · rename_i x hop
    split at ho <;> try (cases ho; done)
    rename_i t y hx
    injection ho with h1
    exact ⟨x, t, y, hop, hx, h1.symm⟩
end
end Go.SE

namespace Go.SE
open Go.RowKit

/-- how code is left -/
inductive ExS where
  | normal
  | exit (id : Nat)
  | goto (l : Nat)
  | ret
  | pnc (v : SV)

/-- how a frame stands while its deferred calls run -/
inductive Md where
  | ret
  | pan (v : SV)
  | caught (v : SV)
def MdRel (ρ : Val) : Md → FrameMode → Prop
  | .ret, u => u = .returning
  | .pan s, u => ∃ v, u = .panicking [{ v, recovered := false }] ∧ V ρ s v
  | .caught s, u => ∃ v, u = .panicking [{ v, recovered := true }] ∧ V ρ s v

/-- what a run comes to -/
inductive Tree where
  | fin (e : ExS) (s : State)
  | stuck
  | need (b : Bool) (k : Tree)
  | needEq (a b : SV) (k : Tree)
  | br (b : Bool) (t f : Tree)
  | both (t f : Tree)
  | call (f : FuncId) (args : List SV) (h : Heap) (k kp : SV → Heap → Tree)
  | loop (m : Option Nat) (body : Code) (s : State) (k : ExS → State → Tree)
  | inscope (m : Option Nat) (body cur : Code) (s : State) (k : ExS → State → Tree)
  | dcall (f : FuncId) (args : List SV) (md : Md) (h : Heap) (k : Md → Heap → Tree) (kp : SV → Md → Heap → Tree)

def ExRel (ρ : Val) : ExS → Exit → Prop
  | .normal, e => e = .normal
  | .exit id, e => e = .exit id
  | .goto l, e => e = .goto l
  | .ret, e => e = .ret
  | .pnc s, e => ∃ v, e = .panic [{ v, recovered := false }] ∧ V ρ s v

/-- ρ' knows what ρ knows below m. -/
def Val.leO (m : Option Nat) (ρ ρ' : Val) : Prop := ∀ i x, (∀ k, m = some k → i < k) → ρ i = some x → ρ' i = some x
theorem Val.le.toO {ρ ρ' : Val} (h : ρ.le ρ') (m : Option Nat) : Val.leO m ρ ρ' := fun i x _ hx => h i x hx
theorem Val.leO.refl (m : Option Nat) (ρ : Val) : Val.leO m ρ ρ := fun _ _ _ h => h
theorem Val.leO.trans {m : Option Nat} {a b c : Val} (h : Val.leO m a b) (k : Val.leO m b c) : Val.leO m a c := fun i x hi hx => k i x hi (h i x hi hx)
theorem Val.leO.full {ρ ρ' : Val} (h : Val.leO none ρ ρ') : ρ.le ρ' := fun i x hx => h i x (fun _ hk => by cases hk) hx
theorem Val.leO.fresh {m : Nat} {ρ ρ' : Val} (h : Val.leO (some m) ρ ρ') (hf : ∀ i, m ≤ i → ρ i = none) : ρ.le ρ' := fun i x hx => h i x (fun k hk => by
  injection hk with hk; subst hk
  rcases Nat.lt_or_ge i m with hi | hi
  · exact hi
  · rw [hf i hi] at hx; cases hx) hx

def PostS (env : Env) (ρ : Val) (m : Option Nat) (K : ExS → State → Prop) : Exit → Act → World → Prop :=
  fun e a w => ∃ ρ' e' s', Val.leO m ρ ρ' ∧ ExRel ρ' e' e ∧ RelSt env ρ' s' a w ∧ K e' s'

/-- a call, from a symbolic heap -/
def CallH (P : Program) (f : FuncId) (args : List SV) (h : Heap) (K Kp : SV → Heap → Prop) : Prop :=
  ∀ (env : Env) (ρ : Val) (w : World) (vs : List Value), Rel env ρ h w → VL ρ args vs → Calls P f vs.toArray w fun
    | .returned v, w' => ∃ ρ' h' r, ρ.le ρ' ∧ Rel env ρ' h' w' ∧ V ρ' r v ∧ K r h'
    | .panicked chain, w' => ∃ ρ' h' r v, chain = [{ v, recovered := false }] ∧ ρ.le ρ' ∧ Rel env ρ' h' w' ∧ V ρ' r v ∧ Kp r h'
    | .outgrown, _ => False

/-- a deferred call -/
def DCallH (P : Program) (f : FuncId) (args : List SV) (md : Md) (h : Heap) (K : Md → Heap → Prop) (Kp : SV → Md → Heap → Prop) : Prop :=
  ∀ (env : Env) (ρ : Val) (w : World) (vs : List Value) (u : FrameMode), Rel env ρ h w → VL ρ args vs → MdRel ρ md u → CallsD P f vs.toArray u w fun
    | .returned _, u', w' => ∃ ρ' h' md', ρ.le ρ' ∧ Rel env ρ' h' w' ∧ MdRel ρ' md' u' ∧ K md' h'
    | .panicked chain, u', w' => ∃ ρ' h' md' r v, chain = [{ v, recovered := false }] ∧ ρ.le ρ' ∧ Rel env ρ' h' w' ∧ V ρ' r v ∧ MdRel ρ' md' u' ∧ Kp r md' h'
    | .outgrown, _, _ => False

/-- code, from a symbolic state -/
def SegH (P : Program) (m : Option Nat) (code : Code) (s : State) (K : ExS → State → Prop) : Prop :=
  ∀ (env : Env) (ρ : Val) (a : Act) (w : World), RelSt env ρ s a w → code.wp P (PostS env ρ m K) a w

def LoopWp (P : Program) (c : Code) (Q : Exit → Act → World → Prop) (a : Act) (w : World) : Prop :=
  ∀ (b : Frame) (k : List Item) (cs : List Frame), ∃ e a' w', Q e a' w' ∧ Arrives P (lone (b.at a (.code c :: .inLoop c :: k)) cs w) b k cs e a' w'

def LoopH (P : Program) (m : Option Nat) (body : Code) (s : State) (K : ExS → State → Prop) : Prop :=
  ∀ (env : Env) (ρ : Val) (a : Act) (w : World), RelSt env ρ s a w → LoopWp P body (PostS env ρ m K) a w

/-- a scope, gone on with from there -/
def ScopeWp (P : Program) (body cur : Code) (Q : Exit → Act → World → Prop) (a : Act) (w : World) : Prop :=
  ∀ (b : Frame) (k : List Item) (cs : List Frame), ∃ e a' w', Q e a' w' ∧ Arrives P (lone (b.at a (.code cur :: .inScope body :: k)) cs w) b k cs e a' w'
def ScopeH (P : Program) (m : Option Nat) (body cur : Code) (s : State) (K : ExS → State → Prop) : Prop :=
  ∀ (env : Env) (ρ : Val) (a : Act) (w : World), RelSt env ρ s a w → ScopeWp P body cur (PostS env ρ m K) a w

def Tree.holds (P : Program) (Q : ExS → State → Prop) : Tree → Prop
  | .fin e s => Q e s
  | .stuck => False
  | .need b k => b = true ∧ k.holds P Q
  | .needEq a b k => a = b ∧ k.holds P Q
  | .br b t f => (b = true → t.holds P Q) ∧ (b = false → f.holds P Q)
  | .both t f => t.holds P Q ∧ f.holds P Q
  | .call f args h k kp => CallH P f args h (fun r h' => (k r h').holds P Q) (fun r h' => (kp r h').holds P Q)
  | .loop m body s k => LoopH P m body s (fun e s' => (k e s').holds P Q)
  | .inscope m body cur s k => ScopeH P m body cur s (fun e s' => (k e s').holds P Q)
  | .dcall f args md h k kp => DCallH P f args md h (fun md' h' => (k md' h').holds P Q) (fun v md' h' => (kp v md' h').holds P Q)

def stOut (o : Out) (k : SV → Heap → Tree) : Tree :=
  match o with
  | .bad => .stuck
  | .val s h => k s h
  | .need b o => .need b (stOut o k)
  | .br b t f => .br b (stOut t k) (stOut f k)

def State.put (s : State) (d : Option Tmp) (v : SV) (h : Heap) : State := ⟨match d with | some d => s.t.set d v | none => s.t, s.n, h, s.ds⟩
/-- a slot may be written -/
def State.fits (s : State) : Option Tmp → Bool
  | some d => Nat.blt d s.n
  | none => true

def runOp (c : Ctx) (o : Oper) (s : State) (idx : Nat) (k : State → Tree) (kx : ExS → State → Tree) : Tree :=
  bif s.fits o.dst then
    match opS c o s.ev s.h idx with
    | .out out => stOut out fun v h => k (s.put o.dst v h)
    | .call f args => .call f args s.h (fun v h => k (s.put o.dst v h)) (fun v h => kx (.pnc v) ⟨s.t, s.n, h, s.ds⟩)
    | .dfr f cap args => k (State.put ⟨s.t, s.n, s.h, (f, cap, args) :: s.ds⟩ o.dst (.lit undef) s.h)
    | .pnc v => kx (.pnc v) s
  else .stuck

/-- an operation of a region, by its guard -/
def runGuarded (c : Ctx) (ops : Array Oper) (o : Oper) (s : State) (idx : Nat) (k : State → Tree) (kx : ExS → State → Tree) : Tree :=
  match o.guard with
  | none => runOp c o s idx k kx
  | some (j, want) => (match (ops[j]?).bind (·.dst) with
    | some d => (match (s.slot d).bool? with
      | some b => bif Nat.blt d s.n && s.fits o.dst then .br (eqB b want) (runOp c o (s.put (some d) (.lit (.bool want)) s.h) idx k kx) (k ((s.put (some d) (.lit (.bool (!want))) s.h).put o.dst (.lit undef) s.h)) else .stuck
      | none => bif (s.slot d).void && s.fits o.dst then k (s.put o.dst (.lit undef) s.h) else .stuck)
    | none => .stuck)

def runOps (c : Ctx) (ops : Array Oper) : List Nat → State → (State → Tree) → (ExS → State → Tree) → Tree
  | [], s, k, _ => k s
  | i :: rest, s, k, kx => (match ops[i]? with
    | some o => runGuarded c ops o s s.h.n (fun s' => runOps c ops rest s' k kx) kx
    | none => .stuck)

section
variable {c : Ctx} {P : Program} {env : Env} {ρ : Val} {Q : ExS → State → Prop}

theorem stOut_holds {o : Out} {k : SV → Heap → Tree} (h : (stOut o k).holds P Q) : o.holds (fun v h => (k v h).holds P Q) := by
  induction o with
  | bad => exact h
  | val s h' => exact h
  | need b o ih => exact ⟨h.1, ih h.2⟩
  | br b t f iht ihf => exact ⟨fun hb => iht (h.1 hb), fun hb => ihf (h.2 hb)⟩

theorem slot_put {s : State} {d : Option Tmp} {v : SV} {h : Heap} (i : Nat) : (s.put d v h).slot i = if d = some i then v else s.slot i := by
  cases d with
  | none => simp [State.put, State.slot]
  | some d =>
    simp only [State.put, State.slot, T.get_set, Option.some.injEq]
    by_cases hid : i = d
    · subst hid; simp
    · rw [if_neg hid, if_neg (fun e => hid e.symm)]

theorem RelSt.put {s : State} {a : Act} {w w' : World} {ρ' : Val} (H : RelSt env ρ s a w) (hle : ρ.le ρ') {d : Option Tmp} (hd : s.fits d = true) {sv : SV} {v : Value} (hv : V ρ' sv v) {h : Heap} (hr : Rel env ρ' h w') :
    RelSt env ρ' (s.put d sv h) (a.put d v) w' := by
  refine ⟨?_, ?_, ?_, hr⟩
  · cases d with
    | none => exact H.size
    | some d => simp only [Act.put, State.put, Array.size_setIfInBounds]; exact H.size
  · intro i
    rw [slot_put]
    cases d with
    | none => simp only [reduceCtorEq, if_false, Act.put]; exact (H.slots i).mono hle
    | some d =>
      simp only [State.fits, Nat.blt_eq] at hd
      simp only [Act.put, Option.some.injEq]
      by_cases hid : d = i
      · subst hid
        rw [if_pos rfl]
        have : (a.tmps.setIfInBounds d v).getD d undef = v := by
          rw [Array.getD_eq_getD_getElem?, Array.getElem?_setIfInBounds_self_of_lt (by rw [H.size]; exact hd)]; rfl
        rw [this]; exact hv
      · rw [if_neg hid]
        have : (a.tmps.setIfInBounds d v).getD i undef = a.tmps.getD i undef := by
          rw [Array.getD_eq_getD_getElem?, Array.getD_eq_getD_getElem?, Array.getElem?_setIfInBounds_ne hid]
        rw [this]; exact (H.slots i).mono hle
  · cases d with
    | none => exact H.defers.mono hle
    | some d => exact H.defers.mono hle

theorem RelSt.mono_heap {s : State} {a : Act} {w w' : World} {ρ' : Val} {h : Heap} (H : RelSt env ρ s a w) (hle : ρ.le ρ') (hr : Rel env ρ' h w') : RelSt env ρ' ⟨s.t, s.n, h, s.ds⟩ a w' :=
  ⟨H.size, fun i => (H.slots i).mono hle, H.defers.mono hle, hr⟩

theorem PostS.le {m : Option Nat} {K : ExS → State → Prop} {ρ' : Val} (h : Val.leO m ρ ρ') {e : Exit} {a : Act} {w : World} (hp : PostS env ρ' m K e a w) : PostS env ρ m K e a w := by
  obtain ⟨ρ2, e', s', h1, h2⟩ := hp
  exact ⟨ρ2, e', s', h.trans h1, h2⟩

theorem wp_le {m : Option Nat} {K : ExS → State → Prop} {ρ' : Val} (h : Val.leO m ρ ρ') {code : Code} {a : Act} {w : World} (hp : code.wp P (PostS env ρ' m K) a w) : code.wp P (PostS env ρ m K) a w :=
  wp_mono hp fun _ _ _ => PostS.le h

/-- one operation in the model -/
theorem runOp_sound (K : c.Ok P) {o : Oper} {s : State} {idx : Nat} {k : State → Tree} {kx : ExS → State → Tree} (h : (runOp c o s idx k kx).holds P Q) {a : Act} {w : World} (H : RelSt env ρ s a w)
    {next : Act → World → Prop} {Qx : Exit → Act → World → Prop}
    (hk : ∀ ρ' s' a' w', ρ.le ρ' → RelSt env ρ' s' a' w' → (k s').holds P Q → next a' w')
    (hkx : ∀ ρ' e e' s' a' w', ρ.le ρ' → ExRel ρ' e' e → RelSt env ρ' s' a' w' → (kx e' s').holds P Q → Qx e a' w') : o.wp P a w next Qx := by
  unfold runOp at h
  cases hf : s.fits o.dst with
  | false => rw [hf] at h; exact h.elim
  | true =>
    rw [hf] at h
    simp only [cond_true] at h
    have hev : ∀ x, V ρ (s.ev x) (a.eval x) := H.ev
    unfold Oper.wp
    cases ho : opS c o s.ev s.h idx with
    | out out =>
      rw [ho] at h
      obtain ⟨v, w', sv, h', ρ', hr, hle, hrel, hv, hq⟩ := run_out K hev H.rel ho (stOut_holds h)
      have Hn := H.put hle hf hv hrel
      rcases hr with hr | ⟨hr, rfl⟩
      · rw [hr]; exact hk ρ' _ _ _ hle Hn hq
      · rw [hr]; exact hk ρ' _ _ _ hle Hn hq
    | call f args =>
      rw [ho] at h
      obtain ⟨fo, cargs, cts, fs, cs, hop, hfe, rfl, fn, hfn, hbody⟩ := opS_call ho
      have hfv := hev fo
      rw [hfe] at hfv
      obtain ⟨vfs, vcs, hfv, hv1, hv2⟩ := hfv
      have hargs : VL ρ (fs ++ (cargs.toList.map s.ev ++ cs)) (vfs.toList ++ (cargs.toList.map a.eval ++ vcs.toList)) := hv1.append ((VL_of hev _).append hv2)
      have hcall := h env ρ w _ H.rel hargs
      have hexec : (execOp a.eval o).run P w = (callFunc f (vfs.toList ++ (cargs.toList.map a.eval ++ vcs.toList)).toArray).run P w := by
        unfold execOp
        rw [hop]
        simp only [resolve, hfv, Deferred.ofValue, Sem.run_bind, Sem.run_pure, Result.andThen_ok, invoke]
        congr 2
        apply Array.ext'
        simp
      have henter : (callFunc f (vfs.toList ++ (cargs.toList.map a.eval ++ vcs.toList)).toArray).run P w = .ok (.enter f (vfs.toList ++ (cargs.toList.map a.eval ++ vcs.toList)).toArray) w := by
        have h1 := K.funcs f fn hfn
        have h2 := K.named f fn hfn
        have h3 : fn.body.isNone = false := by cases hb : fn.body <;> simp [hb] at hbody ⊢
        simp only [callFunc, Sem.run_bind, run_program, Result.andThen_ok, h1, h2, h3, Bool.false_eq_true, if_false, Sem.run_pure]
      rw [hexec, henter]
      refine Calls.mono hcall (fun e' w' he => ?_)
      cases e' with
      | returned v =>
        obtain ⟨ρ', h', r, hle, hrel, hv, hq⟩ := he
        exact hk ρ' _ _ _ hle (H.put hle hf hv hrel) hq
      | panicked chain =>
        obtain ⟨ρ', h', r, v, rfl, hle, hrel, hv, hq⟩ := he
        exact hkx ρ' _ (.pnc r) _ _ _ hle ⟨v, rfl, hv⟩ (H.mono_heap hle hrel) hq
      | outgrown => exact he.elim
    | dfr f cap args =>
      rw [ho] at h
      obtain ⟨fo, cargs, cts, fs, hop, hfe, rfl⟩ := opS_dfr ho
      have hfv := hev fo
      rw [hfe] at hfv
      obtain ⟨vfs, vcs, hfv, hv1, hv2⟩ := hfv
      have hexec : (execOp a.eval o).run P w = .ok (.defer { target := .fn f vcs, args := vfs ++ cargs.map a.eval }) w := by
        unfold execOp
        rw [hop]
        simp [resolve, hfv, Deferred.ofValue]
      rw [hexec]
      show next (Act.put { a with defers := _ :: a.defers } o.dst undef) w
      have H2 : RelSt env ρ ⟨s.t, s.n, s.h, (f, cap, fs ++ cargs.toList.map s.ev) :: s.ds⟩ { a with defers := { target := .fn f vcs, args := vfs ++ cargs.map a.eval } :: a.defers } w :=
        ⟨H.size, H.slots, ⟨⟨_, rfl, hv2⟩, by simp only [Array.toList_append, Array.toList_map]; exact hv1.append (VL_of hev _), H.defers⟩, H.rel⟩
      exact hk ρ _ _ _ (Val.le.refl ρ) (H2.put (sv := .lit undef) (Val.le.refl ρ) (by cases hd : o.dst with | none => rfl | some d => rw [hd] at hf; exact hf) rfl H.rel) h
    | pnc v =>
      rw [ho] at h
      obtain ⟨x, t, y, hop, hx, rfl⟩ := opS_pnc ho
      have hxv := hev x
      rw [hx] at hxv
      obtain ⟨u, hu, hV⟩ := hxv
      have hexec : (execOp a.eval o).run P w = .halt (.panic (.iface t u)) w := by
        unfold execOp
        rw [hop]
        simp [hu, Instr.panic]
      rw [hexec]
      exact hkx ρ _ (.pnc (.iface t y)) _ _ _ (Val.le.refl ρ) ⟨.iface t u, rfl, u, rfl, hV⟩ H h

theorem put_slot_ok {s : State} {a : Act} {w : World} (H : RelSt env ρ s a w) {d : Nat} {sv : SV} (hv : V ρ sv (a.tmps.getD d undef)) : RelSt env ρ (s.put (some d) sv s.h) a w := by
  refine ⟨H.size, fun i => ?_, H.defers, H.rel⟩
  rw [slot_put]
  by_cases hid : some d = some i
  · rw [if_pos hid]; injection hid with hid; subst hid; exact hv
  · rw [if_neg hid]; exact H.slots i

theorem wanted_void {s : State} {a : Act} {w : World} (H : RelSt env ρ s a w) {ops : Array Oper} {o : Oper} {j : Nat} {want : Bool} (hg : o.guard = some (j, want)) {d : Tmp} (hd : (ops[j]?).bind (·.dst) = some d) (hv : (s.slot d).void = true) : Region.wanted o (yielded ops a.tmps) = false := by
  have hs := H.slots d
  rw [SV.void_eq hv] at hs
  have hs' : a.tmps.getD d undef = undef := hs
  have hy : yielded ops a.tmps j = none := by
    unfold yielded
    rw [hd]
    cases hq : a.tmps[d]? with
    | none => simp [hq]
    | some u =>
      rw [Array.getD_eq_getD_getElem?, hq] at hs'
      have hu : u = undef := hs'
      subst hu
      simp [hq]; rfl
  unfold Region.wanted
  rw [hg]
  simp only [hy]
  rfl

theorem runGuarded_sound (K : c.Ok P) {ops : Array Oper} {o : Oper} {s : State} {idx : Nat} {k : State → Tree} {kx : ExS → State → Tree} (h : (runGuarded c ops o s idx k kx).holds P Q) {a : Act} {w : World} (H : RelSt env ρ s a w)
    {next : Act → World → Prop} {Qx : Exit → Act → World → Prop}
    (hk : ∀ ρ' s' a' w', ρ.le ρ' → RelSt env ρ' s' a' w' → (k s').holds P Q → next a' w')
    (hkx : ∀ ρ' e e' s' a' w', ρ.le ρ' → ExRel ρ' e' e → RelSt env ρ' s' a' w' → (kx e' s').holds P Q → Qx e a' w') :
    if Region.wanted o (yielded ops a.tmps) then o.wp P a w next Qx else next (a.put o.dst undef) w := by
  unfold runGuarded at h
  split at h
  · rename_i hg
    have : Region.wanted o (yielded ops a.tmps) = true := by unfold Region.wanted; rw [hg]
    rw [if_pos this]
    exact runOp_sound K h H hk hkx
  · rename_i j want hg
    split at h <;> try (exact h.elim)
    rename_i d hd
    split at h
    rotate_left
    · cases hf : ((s.slot d).void && s.fits o.dst) with
      | false => rw [hf] at h; exact h.elim
      | true =>
        rw [hf] at h
        simp only [cond_true] at h
        rw [Bool.and_eq_true] at hf
        rw [wanted_void H hg hd hf.1, if_neg (by simp)]
        exact hk ρ _ _ _ (Val.le.refl ρ) (H.put (sv := .lit undef) (Val.le.refl ρ) hf.2 rfl H.rel) h
    rename_i b hb
    cases hf : (Nat.blt d s.n && s.fits o.dst) with
    | false => rw [hf] at h; exact h.elim
    | true =>
      rw [hf] at h
      simp only [cond_true] at h
      rw [Bool.and_eq_true, Nat.blt_eq] at hf
      obtain ⟨hdn, hfit⟩ := hf
      have hs := H.slots d
      rw [SV.bool?_eq hb] at hs
      have hs' : a.tmps.getD d undef = .bool b := hs
      have hq : a.tmps[d]? = some (.bool b) := by
        have hlt : d < a.tmps.size := by rw [H.size]; exact hdn
        rw [Array.getD_eq_getD_getElem?, Array.getElem?_eq_getElem hlt] at hs'
        rw [Array.getElem?_eq_getElem hlt]; exact congrArg some hs'
      have hy : yielded ops a.tmps j = some b := by
        unfold yielded
        rw [hd]
        simp [hq]
      have hw : Region.wanted o (yielded ops a.tmps) = eqB b want := by
        unfold Region.wanted
        rw [hg]
        simp only [hy]
        cases b <;> cases want <;> rfl
      rw [hw]
      obtain ⟨ht, hf⟩ := h
      cases he : eqB b want with
      | true =>
        rw [if_pos rfl]
        have hbw : b = want := by rw [eqB_eq] at he; simpa using he
        subst hbw
        exact runOp_sound K (ht he) (put_slot_ok H hs) hk hkx
      | false =>
        rw [if_neg (by simp)]
        have hbw : b = !want := by rw [eqB_eq] at he; cases b <;> cases want <;> simp at he ⊢
        subst hbw
        exact hk ρ _ _ _ (Val.le.refl ρ) ((put_slot_ok (sv := .lit (.bool (!want))) H hs).put (sv := .lit undef) (Val.le.refl ρ) hfit rfl H.rel) (hf he)

theorem runOps_sound (K : c.Ok P) {ops : Array Oper} : ∀ {is : List Nat} {ρ : Val} {s : State} {k : State → Tree} {kx : ExS → State → Tree}, (runOps c ops is s k kx).holds P Q → ∀ {a : Act} {w : World}, RelSt env ρ s a w →
    ∀ {Qx : Exit → Act → World → Prop},
    (∀ ρ' s' a' w', ρ.le ρ' → RelSt env ρ' s' a' w' → (k s').holds P Q → Qx .normal a' w') →
    (∀ ρ' e e' s' a' w', ρ.le ρ' → ExRel ρ' e' e → RelSt env ρ' s' a' w' → (kx e' s').holds P Q → Qx e a' w') → wpOps P ops Qx is a w := by
  intro is
  induction is with
  | nil => intro ρ s k kx h a w H Qx hk hkx; exact hk ρ s a w (Val.le.refl ρ) H h
  | cons i is ih =>
    intro ρ s k kx h a w H Qx hk hkx
    rw [runOps] at h
    split at h <;> try (exact h.elim)
    rename_i o ho
    have := runGuarded_sound K h H (next := wpOps P ops Qx is) (Qx := Qx) (fun ρ' s' a' w' hle H' h' => ih h' H' (fun ρ2 s2 a2 w2 hle2 H2 h2 => hk ρ2 s2 a2 w2 (hle.trans hle2) H2 h2) (fun ρ2 e e' s2 a2 w2 hle2 he H2 h2 => hkx ρ2 e e' s2 a2 w2 (hle.trans hle2) he H2 h2)) hkx
    simp only [wpOps, ho]
    split
    · rename_i hw; rw [if_pos hw] at this; exact Or.inl this
    · rename_i hw; rw [if_neg hw] at this; exact this
end

end Go.SE

namespace Go.SE
open Go.RowKit

/-! masks -/
def maskOf : List Nat → Nat
  | [] => 0
  | i :: l => Nat.lor (Nat.shiftLeft 1 i) (maskOf l)
def subm (a b : Nat) : Bool := Nat.beq (Nat.land a b) a
def addm (m i : Nat) : Nat := Nat.lor m (Nat.shiftLeft 1 i)
theorem has_lor (a b i : Nat) : (Nat.lor a b).testBit i = (a.testBit i || b.testBit i) := Nat.testBit_or a b i
theorem has_bit (n i : Nat) : (Nat.shiftLeft 1 n).testBit i = decide (n = i) := by
  have h : Nat.shiftLeft 1 n = 2 ^ n := Nat.one_shiftLeft n
  rw [h, Nat.testBit_two_pow]
theorem has_maskOf {l : List Nat} {i : Nat} : (maskOf l).testBit i = true ↔ i ∈ l := by
  induction l with
  | nil => simp [maskOf]
  | cons j l ih => rw [maskOf, has_lor, has_bit, Bool.or_eq_true, ih, decide_eq_true_iff, List.mem_cons]; constructor <;> (rintro (h | h)); exact Or.inl h.symm; exact Or.inr h; exact Or.inl h.symm; exact Or.inr h
theorem has_addm {m i j : Nat} : (addm m i).testBit j = true ↔ m.testBit j = true ∨ j = i := by
  rw [addm, has_lor, has_bit, Bool.or_eq_true, decide_eq_true_iff]; constructor <;> (rintro (h | h)); exact Or.inl h; exact Or.inr h.symm; exact Or.inl h; exact Or.inr h.symm
theorem subm_spec {a b : Nat} (h : subm a b = true) {i : Nat} (hi : a.testBit i = true) : b.testBit i = true := by
  have h1 : Nat.land a b = a := Nat.eq_of_beq_eq_true h
  rw [← h1] at hi
  have h2 : (a &&& b).testBit i = true := hi
  rw [Nat.testBit_and, Bool.and_eq_true] at h2
  exact h2.2
theorem subm_not {a b : Nat} (h : subm a b = false) : ∃ i, a.testBit i = true ∧ b.testBit i = false := by
  by_cases hx : ∃ i, a.testBit i = true ∧ b.testBit i = false
  · exact hx
  · exfalso
    have : Nat.land a b = a := by
      apply Nat.eq_of_testBit_eq
      intro i
      have h3 : (Nat.land a b).testBit i = (a.testBit i && b.testBit i) := Nat.testBit_and a b i
      rw [h3]
      cases ha : a.testBit i with
      | false => rfl
      | true =>
        cases hb : b.testBit i with
        | true => rfl
        | false => exact absurd ⟨i, ha, hb⟩ hx
    unfold subm at h
    rw [this] at h
    simp at h

/-! what is known for sure -/
mutual
def SV.known : SV → Bool
  | .any => false
  | .fn _ a b => SV.knownL a && SV.knownL b
  | .iface _ x => SV.known x
  | .agg l => SV.knownL l
  | .tup l => SV.knownL l
  | _ => true
def SV.knownL : List SV → Bool
  | [] => true
  | x :: xs => SV.known x && SV.knownL xs
end

mutual
theorem V_det {ρ : Val} : ∀ {s : SV} {v v' : Value}, s.known = true → V ρ s v → V ρ s v' → v = v'
  | .any, _, _, hk, _, _ => by cases hk
  | .lit x, v, v', _, h, h' => Eq.trans (show v = x from h) (Eq.symm (show v' = x from h'))
  | .ptr _ _, _, _, _, ⟨b, c, h1, h2⟩, ⟨b', c', h1', h2'⟩ => by rw [h1] at h1'; injection h1' with h1'; injection h1' with e1 e2; rw [h2, h2', e1]
  | .slc _ _ _ _, _, _, _, ⟨b, c, h1, h2⟩, ⟨b', c', h1', h2'⟩ => by rw [h1] at h1'; injection h1' with h1'; injection h1' with e1 e2; rw [h2, h2', e1]
  | .own _ _, _, _, _, ⟨b, c, h1, h2, _⟩, ⟨b', c', h1', h2', _⟩ => by rw [h1] at h1'; injection h1' with h1'; injection h1' with e1 e2; rw [h2, h2', e1, e2]
  | .tail _ _ _ _ _, _, _, _, ⟨b, c, h1, h2, _⟩, ⟨b', c', h1', h2', _⟩ => by rw [h1] at h1'; injection h1' with h1'; injection h1' with e1 e2; rw [h2, h2', e1, e2]
  | .ref _, _, _, _, ⟨b, c, h1, h2⟩, ⟨b', c', h1', h2'⟩ => by rw [h1] at h1'; injection h1' with h1'; injection h1' with e1 e2; rw [h2, h2', e1]
  | .fn _ x y, _, _, hk, ⟨fs, cs, h, h1, h2⟩, ⟨fs', cs', h', h1', h2'⟩ => by
    simp only [SV.known, Bool.and_eq_true] at hk
    have e1 := VL_det hk.1 h1 h1'
    have e2 := VL_det hk.2 h2 h2'
    have e3 : fs = fs' := Array.toList_inj.1 e1
    have e4 : cs = cs' := Array.toList_inj.1 e2
    rw [h, h', e3, e4]
  | .iface _ x, _, _, hk, ⟨y, h, h1⟩, ⟨y', h', h1'⟩ => by
    have e1 := V_det (s := x) hk h1 h1'
    rw [h, h', e1]
  | .agg _, _, _, hk, ⟨cs, h, h1⟩, ⟨cs', h', h1'⟩ => by
    have e1 := VL_det hk h1 h1'
    have e3 : cs = cs' := Array.toList_inj.1 e1
    rw [h, h', e3]
  | .tup _, _, _, hk, ⟨cs, h, h1⟩, ⟨cs', h', h1'⟩ => by
    have e1 := VL_det hk h1 h1'
    have e3 : cs = cs' := Array.toList_inj.1 e1
    rw [h, h', e3]
theorem VL_det {ρ : Val} : ∀ {l : List SV} {vs vs' : List Value}, SV.knownL l = true → VL ρ l vs → VL ρ l vs' → vs = vs'
  | [], [], [], _, _, _ => rfl
  | x :: xs, v :: vs, v' :: vs', hk, ⟨h1, h2⟩, ⟨h1', h2'⟩ => by
    simp only [SV.knownL, Bool.and_eq_true] at hk
    rw [V_det hk.1 h1 h1', VL_det hk.2 h2 h2']
  | [], _ :: _, _, _, h, _ => h.elim
  | [], [], _ :: _, _, _, h => h.elim
  | _ :: _, [], _, _, h, _ => h.elim
  | _ :: _, _ :: _, [], _, _, h => h.elim
end

/-! kinds -/
inductive Kind where
  | quiet | read | lazy | loud

def isMapT (c : Ctx) (t : TypeId) : Bool := match c.und t with | some (.map _ _) => true | _ => false
def isSliceT (c : Ctx) (t : TypeId) : Bool := match c.und t with | some (.slice _) => true | _ => false

def kindOf (c : Ctx) (o : Oper) : Kind :=
  match o.op with
  | .move _ => .quiet
  | .assign _ => .quiet
  | .pick _ _ _ => .quiet
  | .nilCheck _ => .quiet
  | .binOp _ _ _ _ _ => .quiet
  | .unOp _ _ _ => .quiet
  | .build _ _ => .quiet
  | .makeInterface _ _ => .quiet
  | .makeFunc _ _ _ => .quiet
  | .slice _ _ _ _ _ => .quiet
  | .fieldAddr _ _ _ => .quiet
  | .field _ _ _ => .quiet
  | .indexAddr _ _ _ => .quiet
  | .index _ _ _ => .quiet
  | .extract _ _ => .quiet
  | .sliceToArrayPointer _ _ => .quiet
  | .load _ _ => .read
  | .convert _ d _ => bif isSliceT c d then .loud else .read
  | .call cl => (match cl.callee with
    | .builtin .len => (match cl.argTypes.toList with
      | [t] => bif isMapT c t then .loud else .quiet
      | _ => .loud)
    | .builtin .cap => .quiet
    | .builtin .min => .quiet
    | .builtin .max => .quiet
    | _ => .loud)
  | .alloc _ => (match o.guard with | none => .lazy | some _ => .loud)
  | .makeSlice _ _ _ => (match o.guard with | none => .lazy | some _ => .loud)
  | .buildSlice _ _ _ => (match o.guard with | none => .lazy | some _ => .loud)
  | _ => .loud

/-- what an operation yields that leaves the world as it is -/
def quietS (c : Ctx) (o : Oper) (ev : Operand → SV) (h : Heap) : Option (Bool × SV) :=
  match o.op with
  | .move x => some (true, ev x)
  | .assign x => some (true, ev x)
  | .pick g a b => (match (ev g).bool? with
    | some g => some (true, bif g then ev a else ev b)
    | none => none)
  | .nilCheck x => nilCheckS (ev x)
  | .binOp op t x y _ => binS c op t x y (ev x) (ev y)
  | .unOp op _ x => unS op (ev x)
  | .build t parts => (let ps := parts.toList.map fun (i, x) => (i, ev x); bif ps.all (fun p => !p.2.raw) then buildS c t ps else none)
  | .makeInterface t x => ifaceS c t (ev x)
  | .makeFunc fn first cap => some (true, .fn fn (first.toList.map ev) (cap.toList.map ev))
  | .slice t x lo hi mx => sliceS c t (ev x) (lo.map ev) (hi.map ev) (mx.map ev)
  | .fieldAddr t x f => fieldAddrS c t (ev x) f
  | .field t x f => fieldS c t (ev x) f
  | .indexAddr t x i => indexAddrS c t (ev x) (ev i)
  | .index t x i => indexS c t (ev x) (ev i)
  | .extract x i => extractS (ev x) i
  | .sliceToArrayPointer t x => arrayPtrS c t (ev x)
  | .load t a => loadS c t (ev a) h
  | .convert s d x => convR c s d (ev x) h
  | .call cl => (match cl.callee, cl.argTypes.toList, cl.args.toList.map ev with
    | .builtin .len, [t], [x] => lenS c t x
    | .builtin .cap, [t], [x] => capS c t x
    | .builtin .min, _, xs => minmaxS false xs
    | .builtin .max, _, xs => minmaxS true xs
    | _, _, _ => none)
  | _ => none

section
variable {c : Ctx} {P : Program} {e : Env} {ρ : Val} {h : Heap} {w : World}

/-- an operation that leaves the world as it is, in a world that is as the heap says (and, if it is no read, in any) -/
theorem run_quietS (K : c.Ok P) {o : Oper} {ev : Operand → SV} {er : Operand → Value} (hev : ∀ x, V ρ (ev x) (er x)) (H : (match kindOf c o with | .read => true | _ => false) = true → Rel e ρ h w) (hkind : (match kindOf c o with | .read => true | .quiet => true | _ => false) = true)
    {s : SV} (hs : quietS c o ev h = some (true, s)) : ∃ v, (execOp er o).run P w = .ok (.value v) w ∧ V ρ s v := by
  obtain ⟨dst, op, ty, pos, after, guard⟩ := o
  have lift : ∀ {act : Sem Value}, execOp er ⟨dst, op, ty, pos, after, guard⟩ = (do pure (.value (← act)) : Sem Next) → (∃ v, act.run P w = .ok v w ∧ V ρ s v) → ∃ v, (execOp er ⟨dst, op, ty, pos, after, guard⟩).run P w = .ok (.value v) w ∧ V ρ s v := by
    intro act he ⟨v, h1, h2⟩
    exact ⟨v, by rw [he]; simp [h1], h2⟩
  cases op <;> simp only [quietS, reduceCtorEq] at hs <;> try (cases hs; done)
  case move x => simp only [Option.some.injEq, Prod.mk.injEq, true_and] at hs; subst hs; exact ⟨_, rfl, hev x⟩
  case assign x => simp only [Option.some.injEq, Prod.mk.injEq, true_and] at hs; subst hs; exact ⟨_, rfl, hev x⟩
  case pick g a b =>
    split at hs <;> try (cases hs; done)
    rename_i gb hg
    simp only [Option.some.injEq, Prod.mk.injEq, true_and] at hs; subst hs
    have h1 := hev g
    rw [SV.bool?_eq hg] at h1
    have h1' : er g = .bool gb := h1
    cases gb with
    | true => exact ⟨er a, by simp [execOp, h1', asBool], hev a⟩
    | false => exact ⟨er b, by simp [execOp, h1', asBool], hev b⟩
  case nilCheck x => exact run_nilCheckS (o := ⟨dst, .nilCheck x, ty, pos, after, guard⟩) rfl hs (hev x)
  case binOp op t x y yt =>
    refine lift (act := do eqGuard op t x y (er x) (er y); binOp op t (er x) (er y)) rfl ?_
    obtain ⟨v, rfl, hr⟩ := run_binS (w := w) K hs (hev x) (hev y)
    exact ⟨v, hr, rfl⟩
  case unOp op t x =>
    refine lift (act := Op.unary op (er x)) rfl ?_
    obtain ⟨v, rfl, hr⟩ := run_unS (P := P) (w := w) hs (hev x)
    exact ⟨v, hr, rfl⟩
  case build t parts =>
    cases hr : (parts.toList.map fun (i, x) => (i, ev x)).all (fun p => !p.2.raw) with
    | false => rw [hr] at hs; cases hs
    | true =>
      rw [hr] at hs
      have hp : PL ρ (parts.toList.map fun (i, x) => (i, ev x)) (parts.map fun (i, x) => (i, er x)).toList := by rw [map_toList]; exact PL_of hev _
      exact lift (act := Instr.build t (parts.map fun (i, x) => (i, er x))) rfl (run_buildS K hs hr hp)
  case makeInterface t x => exact lift rfl (run_ifaceS K hs (hev x))
  case makeFunc fn first cap =>
    simp only [Option.some.injEq, Prod.mk.injEq, true_and] at hs; subst hs
    refine ⟨.func fn (first.map er) (cap.map er), by simp [execOp, Instr.makeFunc], _, _, rfl, ?_, ?_⟩
    · rw [map_toList]; exact VL_of hev _
    · rw [map_toList]; exact VL_of hev _
  case slice t x lo hi mx => exact lift rfl (run_sliceS K hs (hev x) (OV_of hev lo) (OV_of hev hi) (OV_of hev mx))
  case fieldAddr t x f => exact lift rfl (run_fieldAddrS K hs (hev x))
  case field t x f => exact lift rfl (run_fieldS K hs (hev x))
  case indexAddr t x i => exact lift rfl (run_indexAddrS K hs (hev x) (hev i))
  case index t x i => exact lift rfl (run_indexS K hs (hev x) (hev i))
  case extract x i => exact lift rfl (run_extractS hs (hev x))
  case sliceToArrayPointer t x => exact lift rfl (run_arrayPtrS K hs (hev x))
  case load t a => exact lift rfl (run_loadS K (H rfl) hs (hev a))
  case convert sr d x =>
    have hk : kindOf c ⟨dst, .convert sr d x, ty, pos, after, guard⟩ = .read := by
      simp only [kindOf] at hkind ⊢
      cases hc : isSliceT c d with
      | true => rw [hc] at hkind; cases hkind
      | false => rfl
    exact lift rfl (run_convR K (H (by rw [hk])) hs (hev x))
  case call cl =>
    obtain ⟨callee, args, ats⟩ := cl
    cases callee with
    | invoke r m => simp only at hs; cases hs
    | value f => simp only at hs; cases hs
    | builtin b =>
      have hexec : execOp er ⟨dst, .call ⟨.builtin b, args, ats⟩, ty, pos, after, guard⟩ = builtin b ats ty (args.map fun | .const _ => true | _ => false) (args.map er) := by
        simp [execOp, resolve, invoke]
        rfl
      rw [hexec] at lift ⊢
      have hargs : VL ρ (args.toList.map ev) (args.map er).toList := by rw [map_toList]; exact VL_of hev _
      generalize args.toList.map ev = xs at hs hargs
      generalize args.map er = vs at hargs lift ⊢
      generalize (args.map fun | .const _ => true | _ => false) = cs at lift ⊢
      obtain ⟨ts, rfl⟩ : ∃ ts, ats = ts.toArray := ⟨ats.toList, by simp⟩
      obtain ⟨vs, rfl⟩ : ∃ l, vs = l.toArray := ⟨vs.toList, by simp⟩
      simp only at hs hargs
      cases b <;> try simp only at hs
      all_goals try (cases hs; done)
      case len =>
        split at hs <;> first | (cases hs; done) | (rename_i heq; cases heq; done) | skip
        match vs, hargs with
        | [v], ⟨h1, _⟩ => exact lift rfl (run_lenS K hs h1)
      case cap =>
        split at hs <;> first | (cases hs; done) | (rename_i heq; cases heq; done) | skip
        match vs, hargs with
        | [v], ⟨h1, _⟩ => exact lift rfl (run_capS K hs h1)
      case min => obtain ⟨v, rfl, hr⟩ := run_min (P := P) (w := w) (vs := vs.toArray) hargs hs ts.toArray ty; exact lift rfl ⟨v, hr, rfl⟩
      case max => obtain ⟨v, rfl, hr⟩ := run_max (P := P) (w := w) (vs := vs.toArray) hargs hs ts.toArray ty; exact lift rfl ⟨v, hr, rfl⟩

/-- an operation that does nothing but lay a new block -/
theorem run_lazyS (K : c.Ok P) {o : Oper} {ev : Operand → SV} {er : Operand → Value} (hev : ∀ x, V ρ (ev x) (er x)) {idx : Nat} {Q : SV → Heap → Prop} {out : Out} (ho : opS c o ev h idx = .out out) (hk : (match kindOf c o with | .lazy => true | _ => false) = true) (hq : out.holds Q) :
    ∃ sv r act, execOp er o = (do pure (.value (← act)) : Sem Next) ∧ LazyOf P ρ idx act sv r ∧ h.free idx = true ∧ Q sv (h.put idx r) := by
  obtain ⟨dst, op, ty, pos, after, guard⟩ := o
  cases op <;> simp only [kindOf] at hk <;> try (cases hk; done)
  all_goals simp only [opS, OpOut.out.injEq] at ho
  all_goals try subst ho
  case alloc t => obtain ⟨sv, r, h1, h2, h3⟩ := lazy_allocS (P := P) K ρ hq (.tuple #[]); exact ⟨sv, r, _, rfl, h1, h2, h3⟩
  case makeSlice t l cp => obtain ⟨sv, r, h1, h2, h3⟩ := lazy_makeSliceS (P := P) K hq (hev l) (hev cp); exact ⟨sv, r, _, rfl, h1, h2, h3⟩
  case buildSlice t n parts =>
    have hp : PL ρ (parts.toList.map fun (i, x) => (i, ev x)) (parts.map fun (i, x) => (i, er x)).toList := by rw [map_toList]; exact PL_of hev _
    obtain ⟨sv, r, h1, h2, h3⟩ := lazy_buildSliceS (P := P) K hq hp; exact ⟨sv, r, _, rfl, h1, h2, h3⟩
  case convert s d x => cases hc : isSliceT c d <;> (rw [hc] at hk; cases hk)
  case call cl =>
    split at hk <;> try (cases hk; done)
    rename_i hx
    split at hx <;> try (cases hx; done)
    split at hx <;> try (cases hx; done)
    rename_i t _; cases hc : isMapT c t <;> (rw [hc] at hx; cases hx)

/-! frames -/
/-- b is none of the blocks that are spoken of -/
def Off (ρ : Val) (h : Heap) (b : Nat) : Prop := (∀ i x r b' c', h.m.get i = some (x, r) → r.live = true → ρ i = some (b', c') → b' ≠ b) ∧ (∀ i x j q b' c', h.m.get i = some (x, .was j q) → ρ i = some (b', c') → b' ≠ b)

/-- the walk, begun anew here: what is not spoken of stays as it is -/
theorem Rel.reframe (H : Rel e ρ h w) : ∃ e' : Env, e'.w0 = w ∧ Rel e' ρ h w ∧ (∀ b, b < w.heap.size → Off ρ h b → ∀ ρ' h' w', Rel e' ρ' h' w' → w'.heap[b]? = w.heap[b]? ∧ Off ρ' h' b) ∧ ∀ ρ' h' w', Rel e' ρ' h' w' → Rel e ρ' h' w' := by
  let mine : Nat → Prop := fun b => (∃ i r cp, h.m.get i = some (true, r) ∧ r.live = true ∧ ρ i = some (b, cp)) ∨ (∃ i x j q cp, h.m.get i = some (x, .was j q) ∧ ρ i = some (b, cp))
  let ro : Nat → Prop := fun b => ∃ i r cp, h.m.get i = some (false, r) ∧ r.live = true ∧ ρ i = some (b, cp)
  have own : ∀ b, mine b → b < w.heap.size ∧ (e.w0.heap.size ≤ b ∨ e.mine b) := by
    rintro b (⟨i, r, cp, h1, h2, h3⟩ | ⟨i, x, j, q, cp, h1, h3⟩)
    · obtain ⟨b', c', h4, h5, h6⟩ := H.holds i _ _ h1 h2
      rw [h3] at h4; injection h4 with h4; injection h4 with e1 e2; subst e1
      exact ⟨h5.lt, by simpa using h6⟩
    · obtain ⟨b', c', h4, h5, h6, _⟩ := H.was i x j q h1
      rw [h3] at h4; injection h4 with h4; injection h4 with e1 e2; subst e1
      exact ⟨h5, h6⟩
  have rd : ∀ b, ro b → b < w.heap.size ∧ e.ro b := by
    rintro b ⟨i, r, cp, h1, h2, h3⟩
    obtain ⟨b', c', h4, h5, h6⟩ := H.holds i _ _ h1 h2
    rw [h3] at h4; injection h4 with h4; injection h4 with e1 e2; subst e1
    exact ⟨h5.lt, by simpa using h6⟩
  have hro : ∀ b, ro b → b < w.heap.size ∧ ¬ mine b := fun b hb => ⟨(rd b hb).1, fun hm => by
    have h1 := e.ro_ok b (rd b hb).2
    rcases (own b hm).2 with h2 | h2
    · omega
    · exact h1.2 h2⟩
  refine ⟨⟨w, mine, ro, hro⟩, rfl, ⟨⟨rfl, rfl, rfl, Nat.le_refl _, fun _ _ _ => rfl⟩, H.fresh, ?_, H.apart, ?_⟩, ?_, ?_⟩
  · intro i x r hi hl
    obtain ⟨b, cp, h1, h2, _⟩ := H.holds i x r hi hl
    refine ⟨b, cp, h1, h2, ?_⟩
    cases x with
    | true => rw [if_pos rfl]; exact Or.inr (Or.inl ⟨i, r, cp, hi, hl, h1⟩)
    | false => rw [if_neg (by simp)]; exact ⟨i, r, cp, hi, hl, h1⟩
  · intro i x j q hi
    obtain ⟨b, cp, h1, h2, _, h4⟩ := H.was i x j q hi
    exact ⟨b, cp, h1, h2, Or.inr (Or.inr ⟨i, x, j, q, cp, hi, h1⟩), h4⟩
  · intro b hb hoff ρ' h' w' H'
    have nm : ¬ mine b := by
      rintro (⟨i, r, cp, h1, h2, h3⟩ | ⟨i, x, j, q, cp, h1, h3⟩)
      · exact hoff.1 i _ r b cp h1 h2 h3 rfl
      · exact hoff.2 i x j q b cp h1 h3 rfl
    have nr : ¬ ro b := by rintro ⟨i, r, cp, h1, h2, h3⟩; exact hoff.1 i _ r b cp h1 h2 h3 rfl
    refine ⟨H'.kept.block b hb nm, ?_, ?_⟩
    · intro i x r b' c' hi hl hρ he
      obtain ⟨b2, c2, h1, h2, h3⟩ := H'.holds i x r hi hl
      rw [hρ] at h1; injection h1 with h1; injection h1 with e1 e2; subst e1; subst he
      cases x with
      | true =>
        rw [if_pos rfl] at h3
        rcases h3 with h3 | h3
        · have h3 : w.heap.size ≤ b' := h3; omega
        · exact nm h3
      | false => rw [if_neg (by simp)] at h3; exact nr h3
    · intro i x j q b' c' hi hρ he
      obtain ⟨b2, c2, h1, h2, h3, _⟩ := H'.was i x j q hi
      rw [hρ] at h1; injection h1 with h1; injection h1 with e1 e2; subst e1; subst he
      rcases h3 with h3 | h3
      · have h3 : w.heap.size ≤ b' := h3; omega
      · exact nm h3
  · intro ρ' h' w' H'
    refine ⟨⟨H'.kept.os.trans H.kept.os, H'.kept.tape.trans H.kept.tape, H'.kept.output.trans H.kept.output, Nat.le_trans H.kept.size H'.kept.size, ?_⟩, H'.fresh, ?_, H'.apart, ?_⟩
    · intro b hb hm
      have hbw : b < w.heap.size := Nat.lt_of_lt_of_le hb H.kept.size
      have nm : ¬ mine b := fun h1 => by
        rcases (own b h1).2 with h2 | h2
        · omega
        · exact hm h2
      exact (H'.kept.block b hbw nm).trans (H.kept.block b hb hm)
    · intro i x r hi hl
      obtain ⟨b, cp, h1, h2, h3⟩ := H'.holds i x r hi hl
      refine ⟨b, cp, h1, h2, ?_⟩
      cases x with
      | true =>
        rw [if_pos rfl] at h3 ⊢
        rcases h3 with h3 | h3
        · exact Or.inl (Nat.le_trans H.kept.size h3)
        · exact (own b h3).2
      | false => rw [if_neg (by simp)] at h3 ⊢; exact (rd b h3).2
    · intro i x j q hi
      obtain ⟨b, cp, h1, h2, h3, h4⟩ := H'.was i x j q hi
      refine ⟨b, cp, h1, h2, ?_, h4⟩
      rcases h3 with h3 | h3
      · exact Or.inl (Nat.le_trans H.kept.size h3)
      · exact (own b h3).2

/-- another block more -/
theorem Rel.grow (H : Rel e ρ h w) (o : Obj) : Rel e ρ h (w.alloc o) := by
  refine ⟨⟨H.kept.os, H.kept.tape, H.kept.output, by have := H.kept.size; simp; omega, ?_⟩, H.fresh, ?_, H.apart, ?_⟩
  · intro b hb hm
    rw [Below.heap_alloc _ _ _ (Nat.lt_of_lt_of_le hb H.kept.size)]
    exact H.kept.block b hb hm
  · intro j x s hj hlv
    obtain ⟨b, c', h1, h2, h3⟩ := H.holds j x s hj hlv
    exact ⟨b, c', h1, Holds.mono (Val.le.refl ρ) (Below.heap_alloc _ _ _ h2.lt) h2, h3⟩
  · intro i x j q hi
    obtain ⟨b, cp, h1, h2, h3, h4⟩ := H.was i x j q hi
    exact ⟨b, cp, h1, by simp; omega, h3, h4.imp id (fun g => ⟨Holds.mono (Val.le.refl ρ) (Below.heap_alloc _ _ _ h2) g.1, g.2⟩)⟩
theorem Rel.off_new (H : Rel e ρ h w) : Off ρ h w.heap.size := by
  refine ⟨?_, ?_⟩
  · intro i x r b' c' hi hl hρ he
    obtain ⟨b, c', h1, h2, h3⟩ := H.holds i x r hi hl
    rw [hρ] at h1; injection h1 with h1; injection h1 with e1 e2; subst e1
    have := h2.lt
    omega
  · intro i x j q b' c' hi hρ he
    obtain ⟨b, c', h1, h2, _⟩ := H.was i x j q hi
    rw [hρ] at h1; injection h1 with h1; injection h1 with e1 e2; subst e1
    omega
end
end Go.SE

namespace Go.SE
open Go.RowKit

def preds (o : Oper) : List Nat := (o.after.toList.filter (fun e => Region.binds .any e)).map (·.on)
def pmAt (ops : Array Oper) (i : Nat) : Nat := match ops[i]? with | some o => maskOf (preds o) | none => 0
/-- one before it looks at what it writes anew -/
def early (ops : Array Oper) (i : Nat) : Bool :=
  match ops[i]? with
  | some o => (match o.dst with
    | some d => (preds o).any fun q => (match ops[q]? with | some oq => (oq.looksAt ops).elem d | none => false)
    | none => false)
  | none => false
def kindAt (c : Ctx) (ops : Array Oper) (i : Nat) : Kind := match ops[i]? with | some o => bif early ops i then .loud else kindOf c o | none => .loud
def Kind.isLazy : Kind → Bool | .lazy => true | _ => false
def Kind.isLoud : Kind → Bool | .loud => true | _ => false
def Kind.isRead : Kind → Bool | .read => true | _ => false
def Kind.isQuiet : Kind → Bool | .read => true | .quiet => true | _ => false
theorem kindAt_quiet {c : Ctx} {ops : Array Oper} {i : Nat} {o : Oper} (ho : ops[i]? = some o) (h : (kindAt c ops i).isQuiet = true) : kindAt c ops i = kindOf c o := by
  unfold kindAt at h ⊢
  rw [ho] at h ⊢
  cases he : early ops i with
  | true => simp only [he, cond_true] at h; cases h
  | false => simp only [cond_false]
theorem kindAt_lazy {c : Ctx} {ops : Array Oper} {i : Nat} {o : Oper} (ho : ops[i]? = some o) (h : (kindAt c ops i).isLazy = true) : kindAt c ops i = kindOf c o := by
  unfold kindAt at h ⊢
  rw [ho] at h ⊢
  cases he : early ops i with
  | true => simp only [he, cond_true] at h; cases h
  | false => simp only [cond_false]
theorem kindAt_read {c : Ctx} {ops : Array Oper} {i : Nat} {o : Oper} (ho : ops[i]? = some o) (h : (kindAt c ops i).isRead = true) : kindAt c ops i = kindOf c o := kindAt_quiet ho (by cases hk : kindAt c ops i <;> rw [hk] at h <;> first | rfl | cases h)
def dstAt (ops : Array Oper) (i : Nat) : Option Tmp := (ops[i]?).bind (·.dst)

/-- of a read that is held: not before q, by more than one step -/
def ancGo : List Oper → List Nat → List Nat
  | [], acc => acc
  | o :: os, acc => ancGo os (acc ++ [(preds o).foldr (fun j m => Nat.lor (addm (acc.getD j 0) j) m) 0])
def ancs (ops : Array Oper) : List Nat := ancGo ops.toList []

def goodPair (c : Ctx) (ops : Array Oper) (q j : Nat) : Bool :=
  match ops[q]?, dstAt ops j with
  | some o, some d => (!(maskOf (o.looksAt ops)).testBit d || (pmAt ops q).testBit j || ((pmAt ops j).testBit q && (kindAt c ops j).isLoud)) && (Nat.beq q j || (match o.dst with | some d' => !Nat.beq d' d | none => true))
  | _, _ => true
def goodRegion (c : Ctx) (ops : Array Oper) : Bool :=
  Region.noSelect ops && (List.range ops.size).all fun q => (List.range ops.size).all fun j => goodPair c ops q j

def State.forget (s : State) (ds : List Tmp) : State := ds.foldl (fun s d => s.put (some d) .any s.h) s

def needs : Out → Tree → Tree
  | .bad, _ => .stuck
  | .val _ _, t => t
  | .need b o, t => .need b (needs o t)
  | .br _ _ _, _ => .stuck

def announce (c : Ctx) (ops : Array Oper) (s : State) : List Nat → Tree → Tree
  | [], t => t
  | i :: is, t => (match ops[i]? with
    | some o => (match opS c o s.ev s.h s.h.n with
      | .out out => needs out (announce c ops s is t)
      | _ => .stuck)
    | none => .stuck)

def recheck (c : Ctx) (ops : Array Oper) (s : State) : List Nat → Tree → Tree
  | [], t => t
  | q :: qs, t => (match ops[q]? with
    | some o => (match o.dst, quietS c o s.ev s.h with
      | some d, some (b, sv) => .need (Nat.blt d s.n && (s.slot d).known) (.need b (.needEq (s.slot d) sv (recheck c ops s qs t)))
      | _, _ => .stuck)
    | none => .stuck)

/-- one quiet operation; the Bool: it was carried out -/
def quiet1 (c : Ctx) (o : Oper) (s : State) (k : State → Tree) : Tree :=
  match o.dst, quietS c o s.ev s.h with
  | some d, some (b, sv) => .need b (.need (Nat.blt d s.n && sv.known) (k (s.put (some d) sv s.h)))
  | none, some (b, sv) => bif (kindOf c o).isRead then .stuck else .need b (.need sv.known (k s))
  | _, _ => .stuck
def quietG (c : Ctx) (ops : Array Oper) (o : Oper) (s : State) (k : Bool → State → Tree) : Tree :=
  match o.guard with
  | none => quiet1 c o s (k true)
  | some (j, want) => (match dstAt ops j with
    | some d => (match (s.slot d).bool? with
      | some b => bif Nat.blt d s.n && s.fits o.dst then .br (eqB b want) (quiet1 c o (s.put (some d) (.lit (.bool want)) s.h) (k true)) (k false ((s.put (some d) (.lit (.bool (!want))) s.h).put o.dst (.lit undef) s.h)) else .stuck
      | none => bif (s.slot d).void && s.fits o.dst then k false (s.put o.dst (.lit undef) s.h) else .stuck)
    | none => .stuck)

def adoptAll (c : Ctx) (ops : Array Oper) : List Nat → Nat → State → (Nat → State → Tree) → Tree
  | [], V, s, k => k V s
  | i :: is, V, s, k => (match ops[i]? with
    | some o => bif s.fits o.dst then (match opS c o s.ev s.h s.h.n with
      | .out out => stOut out fun v h => adoptAll c ops is (addm V i) (s.put o.dst v h) k
      | _ => .stuck) else .stuck
    | none => .stuck)

/-- laid later: what may be laid by now -/
def lazies (c : Ctx) (ops : Array Oper) (V : Nat) : List Nat := (List.range ops.size).filter fun i => !V.testBit i && ((kindAt c ops i).isLazy && subm (pmAt ops i) V)
def lazyDsts (c : Ctx) (ops : Array Oper) (V : Nat) : List Tmp := ((List.range ops.size).filter fun i => !V.testBit i && (kindAt c ops i).isLazy).filterMap (dstAt ops)
def allDsts (ops : Array Oper) : List Tmp := (List.range ops.size).filterMap (dstAt ops)

/-- nothing else may come up but l -/
def onlyL (ops : Array Oper) (VL l : Nat) : Bool := (List.range ops.size).all fun j => VL.testBit j || (Nat.beq j l || !subm (pmAt ops j) VL)
def onlyB (ops : Array Oper) (VL B : Nat) : Bool := (List.range ops.size).all fun j => VL.testBit j || (!subm (pmAt ops j) VL || subm B (pmAt ops j))

def pickQ (c : Ctx) (ops : Array Oper) (V : Nat) : Option Nat := (List.range ops.size).find? fun i => !V.testBit i && ((kindAt c ops i).isQuiet && subm (pmAt ops i) V)
def pickL (c : Ctx) (ops : Array Oper) (V : Nat) : Option Nat := (List.range ops.size).find? fun i => !V.testBit i && ((kindAt c ops i).isLoud && subm (pmAt ops i) V)
/-- those that the next one waits for -/
def pickB (c : Ctx) (ops : Array Oper) (V VL : Nat) (L : List Nat) : List Nat :=
  match (List.range ops.size).find? fun i => !VL.testBit i && subm (pmAt ops i) VL with
  | some i => L.filter fun b => (pmAt ops i).testBit b
  | none => L

def drawS (c : Ctx) (ops : Array Oper) (anc : List Nat) (k : State → Tree) (kx : ExS → State → Tree) : Nat → Nat → List Nat → State → Tree
  | 0, _, _, _ => .stuck
  | n + 1, V, hd, s =>
    match pickQ c ops V with
    | some i => (match ops[i]? with
      | some o => quietG c ops o s fun wanted s' => drawS c ops anc k kx n (addm V i) (bif wanted && (kindOf c o).isRead then i :: hd else hd) s'
      | none => .stuck)
    | none => (
      let L := lazies c ops V
      let VL := Nat.lor V (maskOf L)
      match pickL c ops V with
      | some l => (match ops[l]? with
        | some o => bif onlyL ops VL l then announce c ops s L (runGuarded c ops o s s.h.n
            (fun s' =>
              let s2 := s'.forget (lazyDsts c ops V)
              let hd2 := hd.filter fun q => !(anc.getD l 0).testBit q
              recheck c ops s2 hd2 (drawS c ops anc k kx n (addm V l) hd2 s2))
            (fun e s' => kx e (s'.forget (allDsts ops)))) else .stuck
        | none => .stuck)
      | none => bif (List.range ops.size).all (fun j => V.testBit j) then k s else (
          let B := pickB c ops V VL L
          bif onlyB ops VL (maskOf B) then announce c ops s L (adoptAll c ops B V s fun V' s' => recheck c ops s' hd (drawS c ops anc k kx n V' hd s')) else .stuck))

section
variable {c : Ctx} {P : Program} {Q : ExS → State → Prop} {ops : Array Oper} {env : Env}

/-! the pieces, as they hold -/
theorem needs_holds : ∀ {o : Out} {t : Tree}, (needs o t).holds P Q → o.holds (fun _ _ => True) ∧ t.holds P Q
  | .bad, _, h => h.elim
  | .val _ _, _, h => ⟨trivial, h⟩
  | .need b o, t, ⟨h1, h2⟩ => ⟨⟨h1, (needs_holds (o := o) h2).1⟩, (needs_holds (o := o) h2).2⟩
  | .br _ _ _, _, h => h.elim

theorem announce_holds {s : State} : ∀ {L : List Nat} {t : Tree}, (announce c ops s L t).holds P Q → t.holds P Q ∧ ∀ i ∈ L, ∃ o out, ops[i]? = some o ∧ opS c o s.ev s.h s.h.n = .out out ∧ out.holds (fun _ _ => True)
  | [], _, h => ⟨h, fun i hi => by cases hi⟩
  | i :: is, t, h => by
    rw [announce] at h
    split at h <;> try (exact h.elim)
    rename_i o ho
    split at h <;> try (exact h.elim)
    rename_i out hout
    obtain ⟨h1, h2⟩ := needs_holds h
    obtain ⟨h3, h4⟩ := announce_holds h2
    refine ⟨h3, fun j hj => ?_⟩
    rcases List.mem_cons.1 hj with rfl | hj
    · exact ⟨o, out, ho, hout, h1⟩
    · exact h4 j hj

/-- a read that is held yields, as the state says, what its slot says -/
def SymHeld (c : Ctx) (ops : Array Oper) (s : State) (q : Nat) : Prop :=
  ∃ o d, ops[q]? = some o ∧ o.dst = some d ∧ d < s.n ∧ quietS c o s.ev s.h = some (true, s.slot d) ∧ (s.slot d).known = true

theorem recheck_holds {s : State} : ∀ {L : List Nat} {t : Tree}, (recheck c ops s L t).holds P Q → t.holds P Q ∧ ∀ q ∈ L, SymHeld c ops s q
  | [], _, h => ⟨h, fun i hi => by cases hi⟩
  | i :: is, t, h => by
    rw [recheck] at h
    split at h <;> try (exact h.elim)
    rename_i o ho
    split at h <;> try (exact h.elim)
    rename_i d b sv hd hq
    obtain ⟨h0, hb, he, h⟩ := h
    obtain ⟨h3, h4⟩ := recheck_holds h
    subst hb
    rw [Bool.and_eq_true, Nat.blt_eq] at h0
    refine ⟨h3, fun j hj => ?_⟩
    rcases List.mem_cons.1 hj with rfl | hj
    · exact ⟨o, d, ho, hd, h0.1, by rw [he]; exact hq, h0.2⟩
    · exact h4 j hj

theorem slot_forget {s : State} {i : Nat} : ∀ {ds : List Tmp}, (s.forget ds).slot i = if i ∈ ds then .any else s.slot i := by
  intro ds
  unfold State.forget
  induction ds generalizing s with
  | nil => simp
  | cons d ds ih =>
    rw [List.foldl_cons, ih, slot_put]
    by_cases h1 : i ∈ ds
    · simp [h1]
    · by_cases h2 : i = d
      · subst h2; simp
      · have h3 : ¬ some d = some i := fun he => h2 (by injection he with he; exact he.symm)
        rw [if_neg h1, if_neg h3, if_neg (by simp [h1, h2])]
theorem forget_n {s : State} : ∀ {ds : List Tmp}, (s.forget ds).n = s.n ∧ (s.forget ds).h = s.h ∧ (s.forget ds).ds = s.ds := by
  intro ds
  unfold State.forget
  induction ds generalizing s with
  | nil => exact ⟨rfl, rfl, rfl⟩
  | cons d ds ih => rw [List.foldl_cons]; obtain ⟨h1, h2, h3⟩ := ih (s := s.put (some d) .any s.h); exact ⟨h1, h2, h3⟩

theorem RelSt.forget {ρ : Val} {s : State} {a a' : Act} {w : World} (H : RelSt env ρ s a w) {ds : List Tmp} (hs : a'.tmps.size = a.tmps.size) (hd : a'.defers = a.defers) (he : ∀ i, i ∉ ds → a'.tmps.getD i undef = a.tmps.getD i undef) :
    RelSt env ρ (s.forget ds) a' w := by
  obtain ⟨h1, h2, h3⟩ := forget_n (s := s) (ds := ds)
  refine ⟨by rw [hs, h1]; exact H.size, fun i => ?_, by rw [hd, h3]; exact H.defers, by rw [h2]; exact H.rel⟩
  rw [slot_forget]
  by_cases hi : i ∈ ds
  · rw [if_pos hi]; trivial
  · rw [if_neg hi, he i hi]; exact H.slots i

theorem RelSt.put_any {ρ : Val} {s : State} {a : Act} {w : World} (H : RelSt env ρ s a w) {dst : Option Tmp} (hd : ∀ d, dst = some d → s.slot d = .any) (v : Value) : RelSt env ρ s (a.put dst v) w := by
  cases dst with
  | none => exact H
  | some d =>
    refine ⟨by simp only [Act.put, Array.size_setIfInBounds]; exact H.size, fun i => ?_, H.defers, H.rel⟩
    by_cases hid : d = i
    · subst hid; rw [hd d rfl]; trivial
    · have : (a.put (some d) v).tmps.getD i undef = a.tmps.getD i undef := by
        simp only [Act.put]
        rw [Array.getD_eq_getD_getElem?, Array.getD_eq_getD_getElem?, Array.getElem?_setIfInBounds_ne hid]
      rw [this]; exact H.slots i

theorem RelSt.put_same {ρ ρ' : Val} {s : State} {a : Act} {w w' : World} (H : RelSt env ρ s a w) (hle : ρ.le ρ') {dst : Option Tmp} {sv : SV} (hv : ∀ d, dst = some d → V ρ' sv (a.tmps.getD d undef)) {h : Heap} (hr : Rel env ρ' h w') : RelSt env ρ' (s.put dst sv h) a w' := by
  refine ⟨H.size, fun i => ?_, H.defers.mono hle, hr⟩
  rw [slot_put]
  by_cases hid : dst = some i
  · rw [if_pos hid]; exact hv i hid
  · rw [if_neg hid]; exact (H.slots i).mono hle

/-! the acts that are put off -/
def putsH (ops : Array Oper) (H : List (Nat × Value)) (a : Act) : Act := H.foldl (fun a p => a.put (dstAt ops p.1) p.2) a

theorem putsH_append (H H' : List (Nat × Value)) (a : Act) : putsH ops (H ++ H') a = putsH ops H' (putsH ops H a) := by
  unfold putsH; rw [List.foldl_append]
theorem putsH_put {dst : Option Tmp} {v : Value} : ∀ (H : List (Nat × Value)) (a : Act), (∀ p ∈ H, ∀ d, dst = some d → dstAt ops p.1 ≠ some d) → putsH ops H (a.put dst v) = (putsH ops H a).put dst v
  | [], _, _ => rfl
  | p :: H, a, h => by
    show putsH ops H ((a.put dst v).put (dstAt ops p.1) p.2) = (putsH ops H (a.put (dstAt ops p.1) p.2)).put dst v
    rw [Act.put_comm a v p.2 (fun d hd => h p (by simp) d hd), putsH_put H _ (fun q hq => h q (by simp [hq]))]
theorem putsH_defers {d : Deferred} : ∀ (H : List (Nat × Value)) (a : Act), putsH ops H { a with defers := d :: a.defers } = { putsH ops H a with defers := d :: (putsH ops H a).defers }
  | [], _ => rfl
  | p :: H, a => by
    show putsH ops H (Act.put { a with defers := d :: a.defers } (dstAt ops p.1) p.2) = _
    have h1 := Act.put_defers a (dstAt ops p.1) p.2 d
    rw [← h1]
    exact putsH_defers H (a.put (dstAt ops p.1) p.2)
theorem putsH_size : ∀ (H : List (Nat × Value)) (a : Act), (putsH ops H a).tmps.size = a.tmps.size ∧ (putsH ops H a).defers = a.defers
  | [], _ => ⟨rfl, rfl⟩
  | p :: H, a => by
    obtain ⟨h1, h2⟩ := putsH_size H (a.put (dstAt ops p.1) p.2)
    refine ⟨h1.trans ?_, h2.trans ?_⟩
    · cases dstAt ops p.1 <;> simp [Act.put]
    · cases dstAt ops p.1 <;> rfl
theorem putsH_getD {i : Nat} : ∀ (H : List (Nat × Value)) (a : Act), (∀ p ∈ H, dstAt ops p.1 ≠ some i) → (putsH ops H a).tmps.getD i undef = a.tmps.getD i undef
  | [], _, _ => rfl
  | p :: H, a, h => by
    refine (putsH_getD H _ (fun q hq => h q (by simp [hq]))).trans ?_
    have h1 := h p (by simp)
    show (a.put (dstAt ops p.1) p.2).tmps.getD i undef = _
    cases hd : dstAt ops p.1 with
    | none => rfl
    | some d =>
      have hne : d ≠ i := fun he => h1 (by rw [hd, he])
      simp only [Act.put]
      rw [Array.getD_eq_getD_getElem?, Array.getD_eq_getD_getElem?, Array.getElem?_setIfInBounds_ne hne]
theorem putsH_same {o : Oper} (hs : ∀ cs b, o.op ≠ .select cs b) : ∀ (H : List (Nat × Value)) (a : Act), (∀ p ∈ H, ∀ d, dstAt ops p.1 = some d → d ∉ o.looksAt ops) →
    execOp (putsH ops H a).eval o = execOp a.eval o ∧ Region.wanted o (yielded ops (putsH ops H a).tmps) = Region.wanted o (yielded ops a.tmps)
  | [], _, _ => ⟨rfl, rfl⟩
  | p :: H, a, h => by
    obtain ⟨h1, h2⟩ := putsH_same hs H (a.put (dstAt ops p.1) p.2) (fun q hq => h q (by simp [hq]))
    exact ⟨h1.trans (execOp_put o hs a _ _ (h p (by simp))), h2.trans (wanted_put o a _ _ (h p (by simp)))⟩

/-- the operation yields v here -/
def Yld (P : Program) (ops : Array Oper) (o : Oper) (v : Value) (a : Act) (w : World) : Prop :=
  (Region.wanted o (yielded ops a.tmps) = true ∧ (execOp a.eval o).run P w = .ok (.value v) w) ∨ (Region.wanted o (yielded ops a.tmps) = false ∧ v = undef)

theorem Yld.of_same {o : Oper} {v : Value} {a a' : Act} {w : World} (h : Yld P ops o v a w) (h1 : execOp a'.eval o = execOp a.eval o) (h2 : Region.wanted o (yielded ops a'.tmps) = Region.wanted o (yielded ops a.tmps)) : Yld P ops o v a' w := by
  unfold Yld at *; rw [h1, h2]; exact h

theorem wp_transfer {o : Oper} {a b : Act} {w : World} {next next2 : Act → World → Prop} {Qx Qx2 : Exit → Act → World → Prop} (h : o.wp P b w next Qx) (he : execOp a.eval o = execOp b.eval o)
    (hn : ∀ v w', next (b.put o.dst v) w' → next2 (a.put o.dst v) w') (hd : ∀ d w', next ({ b with defers := d :: b.defers }.put o.dst undef) w' → next2 ({ a with defers := d :: a.defers }.put o.dst undef) w')
    (hx : ∀ ch w', Qx (.panic ch) b w' → Qx2 (.panic ch) a w') (hlo : LetsOut Qx → LetsOut Qx2) : o.wp P a w next2 Qx2 := by
  unfold Oper.wp at *
  rw [he]
  generalize (execOp b.eval o).run P w = r at *
  cases r with
  | ok n w' =>
    cases n <;> simp only [Oper.upon] at h ⊢
    case value u => exact hn _ _ h
    case skip => exact hn _ _ h
    case defer d => exact hd _ _ h
    case enter f args =>
      refine Calls.mono h fun e w'' he => ?_
      cases e with
      | returned u => exact hn _ _ he
      | panicked ch => exact hx _ _ he
      | outgrown => exact hlo he
    case row row args => exact Rows.mono h fun u w'' he => hn _ _ he
  | halt x w' =>
    cases x <;> simp only [Oper.upon] at h ⊢
    case panic u => exact hx _ _ h
end
end Go.SE

