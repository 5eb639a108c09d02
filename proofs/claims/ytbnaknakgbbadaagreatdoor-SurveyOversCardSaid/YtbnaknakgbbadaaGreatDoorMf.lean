/-
  The awakening of the program answers as the table says.
-/
import Derived.Test.YtbnaknakgbbadaaGreatDoorMd
import Derived.Test.YtbnaknakgbbadaaGreatDoorMe
section
set_option maxRecDepth 100000
namespace Ax
open Go Go.Proofs Go.RowKit
theorem awake14 (w : World) : Calls Tryz.prog 8 #[] w fun e w' => e = .returned (.bool true) ∧ Grows w w' := by
  obtain ⟨v', h', e1, e2⟩ := gaveV_ok awake_run
  have hb := bare_call (calls3_ok 100000 60) e1 (args := #[]) (by simp [VRels]) w
  rw [run_enter (P := Tryz.prog) Tryz.func8 (by kernel_rfl) rfl #[] w] at hb
  refine Calls.mono hb fun e w' he => ?_
  cases e with
  | returned v =>
    obtain ⟨φ', h1, h2, _⟩ := he
    have := veqD_rel e2 h1
    simp only [VRel] at this
    exact ⟨by rw [this], h2⟩
  | _ => exact he.elim
end Ax
end
