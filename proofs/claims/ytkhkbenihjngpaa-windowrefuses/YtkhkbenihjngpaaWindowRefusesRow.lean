/- WindowRefuses holds: for every input the call returns true and its arguments read afterwards as before; there is no further condition. -/
import Derived.Test.YtkhkbenihjngpaaWindowRefusesOk
import Derived.Test.YtkhkbenihjngpaaTAR
import Derived.Test.YtkhkbenihjngpaaRows
set_option linter.all false
namespace Go.Proofs.Ytkhkbenihjngpaa
open Go.Sx Go.Sx.WindowRefusesQ
theorem WindowRefusesQ.own : ownKnob Try.prog.godebug = none := by kernel_rfl
theorem WindowRefusesQ.laidOut : laidOutB Try.prog = true := by kernel_rfl
set_option maxRecDepth 100000 in
theorem windowRefuses_lifted (os : Os) (started : os.Started) (H : Type) (enc : TypeId × Value → H) :
    ReturnsInHanded {} Try.checked os 6 .any (Rows.windowRefusesSpec.pre6 enc Try.prog Try.f6 Rows.windowRefusesRow.domain false) (Rows.windowRefusesSpec.post enc Try.prog Try.f6 false true false false) := by
  refine law_lifted (C := Try.checked) (tb := 4) aditlaw15_WindowRefuses_ok WindowRefusesQ.own started (by kernel_rfl) Try.func6
    (ChangeSpec.witness6 (enc := enc) (C := Try.checked) false ⟨#[], #[.slice none 0 0], []⟩ 8 (by kernel_rfl) (by kernel_rfl) (by kernel_rfl) (by kernel_rfl))
    WindowRefusesQ.laidOut (by kernel_rfl) (ss := [.sl [.int .u64]]) (by kernel_rfl) rfl (by kernel_rfl) (by kernel_rfl) (fun ds h => ?_) Go.Sx.WindowRefuses_row
  match ds, h with
  | [d1], _ => rfl
theorem windowRefuses_holds : Rows.WindowRefusesSaid :=
  OpenClaim.holds_of_wide 6 Try.f6 rfl rfl rfl rfl rfl rfl rfl ⟨rfl, rfl, rfl, rfl, rfl⟩ rfl rfl rfl rfl rfl (by kernel_rfl) Try.func6 (by kernel_rfl)
    (of_decide_eq_true (by kernel_rfl)) (by unfold Func.isWrapper; first | (rw [if_pos (by decide +kernel)]; kernel_rfl) | (rw [if_neg (by decide +kernel)]; exact ⟨rfl, rfl⟩))
    (fun os started H enc _ => windowRefuses_lifted os started H enc)
end Go.Proofs.Ytkhkbenihjngpaa
