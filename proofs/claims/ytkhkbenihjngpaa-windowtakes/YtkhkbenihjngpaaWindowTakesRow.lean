/- WindowTakes holds: for every input the call returns true and its arguments read afterwards as before; there is no further condition. -/
import Derived.Test.YtkhkbenihjngpaaWindowTakesOk
import Derived.Test.YtkhkbenihjngpaaTAR
import Derived.Test.YtkhkbenihjngpaaRows
set_option linter.all false
namespace Go.Proofs.Ytkhkbenihjngpaa
open Go.Sx Go.Sx.WindowTakesQ
theorem WindowTakesQ.own : ownKnob Try.prog.godebug = none := by kernel_rfl
theorem WindowTakesQ.laidOut : laidOutB Try.prog = true := by kernel_rfl
set_option maxRecDepth 100000 in
theorem windowTakes_lifted (os : Os) (started : os.Started) (H : Type) (enc : TypeId × Value → H) :
    ReturnsInHanded {} Try.checked os 5 .any (Rows.windowTakesSpec.pre6 enc Try.prog Try.f5 Rows.windowTakesRow.domain false) (Rows.windowTakesSpec.post enc Try.prog Try.f5 false true false false) := by
  refine law_lifted (C := Try.checked) (tb := 4) aditlaw15_WindowTakes_ok WindowTakesQ.own started (by kernel_rfl) Try.func5
    (ChangeSpec.witness6 (enc := enc) (C := Try.checked) false ⟨#[], #[.slice none 0 0, .int .u64 0], []⟩ 8 (by kernel_rfl) (by kernel_rfl) (by kernel_rfl) (by kernel_rfl))
    WindowTakesQ.laidOut (by kernel_rfl) (ss := [.sl [.int .u64], .one (.int .u64)]) (by kernel_rfl) rfl (by kernel_rfl) (by kernel_rfl) (fun ds h => ?_) Go.Sx.WindowTakes_row
  match ds, h with
  | [d1, d2], _ => rfl
theorem windowTakes_holds : Rows.WindowTakesSaid :=
  OpenClaim.holds_of_wide 5 Try.f5 rfl rfl rfl rfl rfl rfl rfl ⟨rfl, rfl, rfl, rfl, rfl⟩ rfl rfl rfl rfl rfl (by kernel_rfl) Try.func5 (by kernel_rfl)
    (of_decide_eq_true (by kernel_rfl)) (by unfold Func.isWrapper; first | (rw [if_pos (by decide +kernel)]; kernel_rfl) | (rw [if_neg (by decide +kernel)]; exact ⟨rfl, rfl⟩))
    (fun os started H enc _ => windowTakes_lifted os started H enc)
end Go.Proofs.Ytkhkbenihjngpaa
