/- ChachaTwice holds: for every input the call returns true and its arguments read afterwards as before; there is no further condition. -/
import Derived.Test.YtkhkbenihjngpaaChachaTwiceOk
import Derived.Test.YtkhkbenihjngpaaLB
import Derived.Test.YtkhkbenihjngpaaRows
set_option linter.all false
namespace Go.Proofs.Ytkhkbenihjngpaa
open Go.Sx Go.Sx.ChachaTwiceQ
theorem ChachaTwiceQ.own : ownKnob Try.prog.godebug = none := by kernel_rfl
theorem ChachaTwiceQ.laidOut : laidOutB Try.prog = true := by kernel_rfl
set_option maxRecDepth 100000 in
theorem chachaTwice_lifted (os : Os) (started : os.Started) (H : Type) (enc : TypeId × Value → H) :
    ReturnsInHanded {} Try.checked os 9 .any (Rows.chachaTwiceSpec.pre6 enc Try.prog Try.f9 Rows.chachaTwiceRow.domain false) (Rows.chachaTwiceSpec.post enc Try.prog Try.f9 false true false false) := by
  refine law_lifted (C := Try.checked) (tb := 4) aditlaw02_ChachaTwice_ok ChachaTwiceQ.own started (by kernel_rfl) Try.func9
    (ChangeSpec.witness6 (enc := enc) (C := Try.checked) false ⟨#[], #[.agg (Array.replicate 32 (.int .u8 0)), .agg (Array.replicate 12 (.int .u8 0)), .int .u32 0, .slice none 0 0], []⟩ 8 (by kernel_rfl) (by kernel_rfl) (by kernel_rfl) (by kernel_rfl))
    ChachaTwiceQ.laidOut (by kernel_rfl) (ss := [.agg (List.replicate 32 (.int .u8)), .agg (List.replicate 12 (.int .u8)), .one (.int .u32), .sl [.int .u8]]) (by kernel_rfl) rfl (by kernel_rfl) (by kernel_rfl) (fun ds h => ?_) Go.Sx.ChachaTwice_row
  match ds, h with
  | [d1, d2, d3, d4], _ => rfl
theorem chachaTwice_holds : Rows.ChachaTwiceSaid :=
  OpenClaim.holds_of_wide 9 Try.f9 rfl rfl rfl rfl rfl rfl rfl ⟨rfl, rfl, rfl, rfl, rfl⟩ rfl rfl rfl rfl rfl (by kernel_rfl) Try.func9 (by kernel_rfl)
    (of_decide_eq_true (by kernel_rfl)) (by unfold Func.isWrapper; first | (rw [if_pos (by decide +kernel)]; kernel_rfl) | (rw [if_neg (by decide +kernel)]; exact ⟨rfl, rfl⟩))
    (fun os started H enc _ => chachaTwice_lifted os started H enc)
end Go.Proofs.Ytkhkbenihjngpaa
