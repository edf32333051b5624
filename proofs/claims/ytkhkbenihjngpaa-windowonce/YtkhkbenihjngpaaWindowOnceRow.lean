/- WindowOnce holds: for every input the call returns true and its arguments read afterwards as before; there is no further condition. -/
import Derived.Test.YtkhkbenihjngpaaWindowOnceOk
import Derived.Test.YtkhkbenihjngpaaTAR
import Derived.Test.YtkhkbenihjngpaaRows
set_option linter.all false
namespace Go.Proofs.Ytkhkbenihjngpaa
open Go.Sx Go.Sx.WindowOnceQ
theorem WindowOnceQ.own : ownKnob Try.prog.godebug = none := by kernel_rfl
theorem WindowOnceQ.laidOut : laidOutB Try.prog = true := by kernel_rfl
set_option maxRecDepth 100000 in
theorem windowOnce_lifted (os : Os) (started : os.Started) (H : Type) (enc : TypeId × Value → H) :
    ReturnsInHanded {} Try.checked os 4 .any (Rows.windowOnceSpec.pre6 enc Try.prog Try.f4 Rows.windowOnceRow.domain false) (Rows.windowOnceSpec.post enc Try.prog Try.f4 false true false false) := by
  refine law_lifted (C := Try.checked) (tb := 4) aditlaw15_WindowOnce_ok WindowOnceQ.own started (by kernel_rfl) Try.func4
    (ChangeSpec.witness6 (enc := enc) (C := Try.checked) false ⟨#[], #[.slice none 0 0], []⟩ 8 (by kernel_rfl) (by kernel_rfl) (by kernel_rfl) (by kernel_rfl))
    WindowOnceQ.laidOut (by kernel_rfl) (ss := [.sl [.int .u64]]) (by kernel_rfl) rfl (by kernel_rfl) (by kernel_rfl) (fun ds h => ?_) Go.Sx.WindowOnce_row
  match ds, h with
  | [d1], _ => rfl
theorem windowOnce_holds : Rows.WindowOnceSaid :=
  OpenClaim.holds_of_wide 4 Try.f4 rfl rfl rfl rfl rfl rfl rfl ⟨rfl, rfl, rfl, rfl, rfl⟩ rfl rfl rfl rfl rfl (by kernel_rfl) Try.func4 (by kernel_rfl)
    (of_decide_eq_true (by kernel_rfl)) (by unfold Func.isWrapper; first | (rw [if_pos (by decide +kernel)]; kernel_rfl) | (rw [if_neg (by decide +kernel)]; exact ⟨rfl, rfl⟩))
    (fun os started H enc _ => windowOnce_lifted os started H enc)
end Go.Proofs.Ytkhkbenihjngpaa
