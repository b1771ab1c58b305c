/- ActClasses answers true at every number. No condition. -/
import Derived.Test.YtfcgnheaggpccaaGreatDoorKnown
namespace Go.Proofs.YtfcgnheaggpccaaGreatDoor
open Go Go.SE Go.RowKit

def cls (e : Int) : Int :=
  bif eqF e 0 then 0 else bif eqF e 41 then 2 else bif eqF e 42 then 3 else bif eqF e 33 then 4 else bif eqF e 62 then 4 else bif eqF e 63 then 4 else bif eqF e 97 then 4 else bif eqF e 43 then 5 else bif eqF e 44 then 6 else 1
def clsV (e : Int) (h : Heap) : Option (SV × Heap) :=
  bif eqF e 0 then some (.lit (.int .i64 0), h) else bif eqF e 41 then some (.lit (.int .i64 2), h) else bif eqF e 42 then some (.lit (.int .i64 3), h) else
  bif eqF e 33 then some (.lit (.int .i64 4), h) else bif eqF e 62 then some (.lit (.int .i64 4), h) else bif eqF e 63 then some (.lit (.int .i64 4), h) else bif eqF e 97 then some (.lit (.int .i64 4), h) else
  bif eqF e 43 then some (.lit (.int .i64 5), h) else bif eqF e 44 then some (.lit (.int .i64 6), h) else some (.lit (.int .i64 1), h)
theorem clsV_eq (e : Int) (h : Heap) : clsV e h = some (.lit (.int .i64 (cls e)), h) := by
  unfold clsV cls
  generalize eqF e 0 = b0
  generalize eqF e 41 = b1
  generalize eqF e 42 = b2
  generalize eqF e 33 = b3
  generalize eqF e 62 = b4
  generalize eqF e 63 = b5
  generalize eqF e 97 = b6
  generalize eqF e 43 = b7
  generalize eqF e 44 = b8
  cases b0 with
  | true => rfl
  | false => cases b1 with
    | true => rfl
    | false => cases b2 with
      | true => rfl
      | false => cases b3 with
        | true => rfl
        | false => cases b4 with
          | true => rfl
          | false => cases b5 with
            | true => rfl
            | false => cases b6 with
              | true => rfl
              | false => cases b7 with
                | true => rfl
                | false => cases b8 <;> rfl
theorem class_val (e : Int) (h : Heap) : (runO ctx noOracle.ask 300 (callT ctx 21 [.lit (.int .i64 e)] h retT pncT)).val = clsV e h := by kernel_rfl
theorem refClass_val (e : Int) (h : Heap) : (runO ctx noOracle.ask 300 (callT ctx 22 [.lit (.int .i64 e)] h retT pncT)).val = clsV e h := by kernel_rfl

def classesAsk (f : FuncId) (args : List SV) (h : Heap) : Option (SV × Heap) :=
  bif Nat.beq f 9 then (match args with
    | [] => some (.lit (.bool true), h)
    | _ => none)
  else bif Nat.beq f 21 then (match args with
    | [.lit (.int .i64 e)] => some (.lit (.int .i64 (cls e)), h)
    | _ => none)
  else bif Nat.beq f 22 then (match args with
    | [.lit (.int .i64 e)] => some (.lit (.int .i64 (cls e)), h)
    | _ => none)
  else none

def classesOracle : Oracle Tryz.prog := ⟨classesAsk, fun f args h r h' ha K Kp hk => by
  unfold classesAsk at ha
  cases h1 : Nat.beq f 9 with
  | true =>
    rw [h1] at ha
    have h1 := Nat.eq_of_beq_eq_true h1
    subst h1
    simp only [cond_true] at ha
    split at ha <;> try (cases ha; done)
    simp only [Option.some.injEq, Prod.mk.injEq] at ha
    obtain ⟨rfl, rfl⟩ := ha
    exact Kn.known_call h hk
  | false =>
    rw [h1] at ha
    simp only [cond_false] at ha
    cases h2 : Nat.beq f 21 with
    | true =>
      rw [h2] at ha
      have h2 := Nat.eq_of_beq_eq_true h2
      subst h2
      simp only [cond_true] at ha
      split at ha <;> try (cases ha; done)
      simp only [Option.some.injEq, Prod.mk.injEq] at ha
      obtain ⟨rfl, rfl⟩ := ha
      exact callH_val ctx_ok noOracle 300 ((class_val _ _).trans (clsV_eq _ _)) hk
    | false =>
      rw [h2] at ha
      simp only [cond_false] at ha
      cases h3 : Nat.beq f 22 with
      | true =>
        rw [h3] at ha
        have h3 := Nat.eq_of_beq_eq_true h3
        subst h3
        simp only [cond_true] at ha
        split at ha <;> try (cases ha; done)
        simp only [Option.some.injEq, Prod.mk.injEq] at ha
        obtain ⟨rfl, rfl⟩ := ha
        exact callH_val ctx_ok noOracle 300 ((refClass_val _ _).trans (clsV_eq _ _)) hk
      | false => rw [h3] at ha; cases ha⟩

theorem classes_val (a : Int) (h : Heap) : (runO ctx classesOracle.ask 20000 (callT ctx 5 [.lit (.int .i64 a)] h retT pncT)).val = some (.lit (.bool (eqF (cls a) (cls a))), h) := by kernel_rfl

theorem classes_walk (a : Int) (w : World) : Calls Tryz.prog 5 #[.int .i64 a] w fun e w' => e = .returned (.bool true) ∧ Below w.heap.size w w' := by
  refine calls_of_callH (args := [.lit (.int .i64 a)]) (vs := [.int .i64 a]) (callH_val ctx_ok classesOracle 20000 (classes_val a ⟨0, .nil⟩) ?_) ⟨rfl, trivial⟩ w
  rw [eqF_eq, beq_self_eq_true]
end Go.Proofs.YtfcgnheaggpccaaGreatDoor

