/- WindowOrder holds: for every input the call returns true and its arguments read afterwards as before; there is no further condition. -/
import Derived.Test.YtkhkbenihjngpaaWindowOrderOk
import Derived.Test.YtkhkbenihjngpaaTAR
import Derived.Test.YtkhkbenihjngpaaRows
set_option linter.all false
namespace Go.Proofs.Ytkhkbenihjngpaa
open Go.Sx Go.Sx.WindowOrderQ
theorem WindowOrderQ.own : ownKnob Try.prog.godebug = none := by kernel_rfl
theorem WindowOrderQ.laidOut : laidOutB Try.prog = true := by kernel_rfl
set_option maxRecDepth 100000 in
theorem windowOrder_lifted (os : Os) (started : os.Started) (H : Type) (enc : TypeId × Value → H) :
    ReturnsInHanded {} Try.checked os 7 .any (Rows.windowOrderSpec.pre6 enc Try.prog Try.f7 Rows.windowOrderRow.domain false) (Rows.windowOrderSpec.post enc Try.prog Try.f7 false true false false) := by
  refine law_lifted (C := Try.checked) (tb := 4) aditlaw15_WindowOrder_ok WindowOrderQ.own started (by kernel_rfl) Try.func7
    (ChangeSpec.witness6 (enc := enc) (C := Try.checked) false ⟨#[], #[.int .u64 0, .slice none 0 0, .int .i64 0], []⟩ 8 (by kernel_rfl) (by kernel_rfl) (by kernel_rfl) (by kernel_rfl))
    WindowOrderQ.laidOut (by kernel_rfl) (ss := [.one (.int .u64), .sl [.int .u8], .one (.int .i64)]) (by kernel_rfl) rfl (by kernel_rfl) (by kernel_rfl) (fun ds h => ?_) Go.Sx.WindowOrder_row
  match ds, h with
  | [d1, d2, d3], _ => rfl
theorem windowOrder_holds : Rows.WindowOrderSaid :=
  OpenClaim.holds_of_wide 7 Try.f7 rfl rfl rfl rfl rfl rfl rfl ⟨rfl, rfl, rfl, rfl, rfl⟩ rfl rfl rfl rfl rfl (by kernel_rfl) Try.func7 (by kernel_rfl)
    (of_decide_eq_true (by kernel_rfl)) (by unfold Func.isWrapper; first | (rw [if_pos (by decide +kernel)]; kernel_rfl) | (rw [if_neg (by decide +kernel)]; exact ⟨rfl, rfl⟩))
    (fun os started H enc _ => windowOrder_lifted os started H enc)
end Go.Proofs.Ytkhkbenihjngpaa
