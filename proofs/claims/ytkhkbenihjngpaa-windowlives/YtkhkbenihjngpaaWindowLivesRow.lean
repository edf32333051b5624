/- WindowLives holds: for every list of numbers and every number asked, the call returns true and its arguments read as before; no condition. -/
import Derived.Test.YtkhkbenihjngpaaWindowLivesOk
import Derived.Test.YtkhkbenihjngpaaTAR
import Derived.Test.YtkhkbenihjngpaaRows
set_option linter.all false
namespace Go.Proofs.Ytkhkbenihjngpaa
open Go.Sx Go.Sx.WindowLivesQ
theorem WindowLivesQ.own : ownKnob Try.prog.godebug = none := by kernel_rfl
theorem WindowLivesQ.laidOut : laidOutB Try.prog = true := by kernel_rfl
set_option maxRecDepth 100000 in
theorem windowLives_lifted (os : Os) (started : os.Started) (H : Type) (enc : TypeId × Value → H) :
    ReturnsInHanded {} Try.checked os 3 .any (Rows.windowLivesSpec.pre6 enc Try.prog Try.f3 Rows.windowLivesRow.domain false) (Rows.windowLivesSpec.post enc Try.prog Try.f3 false true false false) := by
  refine law_lifted (C := Try.checked) (tb := 4) aditlaw15_WindowLives_ok WindowLivesQ.own started (by kernel_rfl) Try.func3
    (ChangeSpec.witness6 (enc := enc) (C := Try.checked) false ⟨#[], #[.slice none 0 0, .int .u64 0], []⟩ 8 (by kernel_rfl) (by kernel_rfl) (by kernel_rfl) (by kernel_rfl))
    WindowLivesQ.laidOut (by kernel_rfl) (ss := [.sl [.int .u64], .one (.int .u64)]) (by kernel_rfl) rfl (by kernel_rfl) (by kernel_rfl) (fun ds h => ?_) Go.Sx.WindowLives_row
  match ds, h with
  | [d1, d2], _ => rfl
theorem windowLives_holds : Rows.WindowLivesSaid :=
  OpenClaim.holds_of_wide 3 Try.f3 rfl rfl rfl rfl rfl rfl rfl ⟨rfl, rfl, rfl, rfl, rfl⟩ rfl rfl rfl rfl rfl (by kernel_rfl) Try.func3 (by kernel_rfl)
    (of_decide_eq_true (by kernel_rfl)) (by unfold Func.isWrapper; first | (rw [if_pos (by decide +kernel)]; kernel_rfl) | (rw [if_neg (by decide +kernel)]; exact ⟨rfl, rfl⟩))
    (fun os started H enc _ => windowLives_lifted os started H enc)
end Go.Proofs.Ytkhkbenihjngpaa
