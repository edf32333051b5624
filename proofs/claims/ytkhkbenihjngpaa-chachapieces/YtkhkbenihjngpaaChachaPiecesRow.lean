/- ChachaPieces holds: for every input the call returns true and its arguments read afterwards as before; there is no further condition. -/
import Derived.Test.YtkhkbenihjngpaaChachaPiecesOk
import Derived.Test.YtkhkbenihjngpaaLB
import Derived.Test.YtkhkbenihjngpaaRows
set_option linter.all false
namespace Go.Proofs.Ytkhkbenihjngpaa
open Go.Sx Go.Sx.ChachaPiecesQ
theorem ChachaPiecesQ.own : ownKnob Try.prog.godebug = none := by kernel_rfl
theorem ChachaPiecesQ.laidOut : laidOutB Try.prog = true := by kernel_rfl
set_option maxRecDepth 100000 in
theorem chachaPieces_lifted (os : Os) (started : os.Started) (H : Type) (enc : TypeId × Value → H) :
    ReturnsInHanded {} Try.checked os 10 .any (Rows.chachaPiecesSpec.pre6 enc Try.prog Try.f10 Rows.chachaPiecesRow.domain false) (Rows.chachaPiecesSpec.post enc Try.prog Try.f10 false true false false) := by
  refine law_lifted (C := Try.checked) (tb := 4) aditlaw02_ChachaPieces_ok ChachaPiecesQ.own started (by kernel_rfl) Try.func10
    (ChangeSpec.witness6 (enc := enc) (C := Try.checked) false ⟨#[], #[.agg (Array.replicate 32 (.int .u8 0)), .agg (Array.replicate 12 (.int .u8 0)), .int .u32 0, .slice none 0 0, .int .i64 0], []⟩ 8 (by kernel_rfl) (by kernel_rfl) (by kernel_rfl) (by kernel_rfl))
    ChachaPiecesQ.laidOut (by kernel_rfl) (ss := [.agg (List.replicate 32 (.int .u8)), .agg (List.replicate 12 (.int .u8)), .one (.int .u32), .sl [.int .u8], .one (.int .i64)]) (by kernel_rfl) rfl (by kernel_rfl) (by kernel_rfl) (fun ds h => ?_) Go.Sx.ChachaPieces_row
  match ds, h with
  | [d1, d2, d3, d4, d5], _ => rfl
theorem chachaPieces_holds : Rows.ChachaPiecesSaid :=
  OpenClaim.holds_of_wide 10 Try.f10 rfl rfl rfl rfl rfl rfl rfl ⟨rfl, rfl, rfl, rfl, rfl⟩ rfl rfl rfl rfl rfl (by kernel_rfl) Try.func10 (by kernel_rfl)
    (of_decide_eq_true (by kernel_rfl)) (by unfold Func.isWrapper; first | (rw [if_pos (by decide +kernel)]; kernel_rfl) | (rw [if_neg (by decide +kernel)]; exact ⟨rfl, rfl⟩))
    (fun os started H enc _ => chachaPieces_lifted os started H enc)
end Go.Proofs.Ytkhkbenihjngpaa
