/- ChachaBlocks holds: for every input the call returns true and its arguments read afterwards as before; there is no further condition. -/
import Derived.Test.YtkhkbenihjngpaaChachaBlocksOk
import Derived.Test.YtkhkbenihjngpaaLB
import Derived.Test.YtkhkbenihjngpaaRows
set_option linter.all false
namespace Go.Proofs.Ytkhkbenihjngpaa
open Go.Sx Go.Sx.ChachaBlocksQ
theorem ChachaBlocksQ.own : ownKnob Try.prog.godebug = none := by kernel_rfl
theorem ChachaBlocksQ.laidOut : laidOutB Try.prog = true := by kernel_rfl
set_option maxRecDepth 100000 in
theorem chachaBlocks_lifted (os : Os) (started : os.Started) (H : Type) (enc : TypeId × Value → H) :
    ReturnsInHanded {} Try.checked os 12 .any (Rows.chachaBlocksSpec.pre6 enc Try.prog Try.f12 Rows.chachaBlocksRow.domain false) (Rows.chachaBlocksSpec.post enc Try.prog Try.f12 false true false false) := by
  refine law_lifted (C := Try.checked) (tb := 4) aditlaw02_ChachaBlocks_ok ChachaBlocksQ.own started (by kernel_rfl) Try.func12
    (ChangeSpec.witness6 (enc := enc) (C := Try.checked) false ⟨#[], #[.agg (Array.replicate 32 (.int .u8 0)), .agg (Array.replicate 12 (.int .u8 0)), .int .u32 0, .agg (Array.replicate 16 (.int .u8 0))], []⟩ 8 (by kernel_rfl) (by kernel_rfl) (by kernel_rfl) (by kernel_rfl))
    ChachaBlocksQ.laidOut (by kernel_rfl) (ss := [.agg (List.replicate 32 (.int .u8)), .agg (List.replicate 12 (.int .u8)), .one (.int .u32), .agg (List.replicate 16 (.int .u8))]) (by kernel_rfl) rfl (by kernel_rfl) (by kernel_rfl) (fun ds h => ?_) Go.Sx.ChachaBlocks_row
  match ds, h with
  | [d1, d2, d3, d4], _ => rfl
theorem chachaBlocks_holds : Rows.ChachaBlocksSaid :=
  OpenClaim.holds_of_wide 12 Try.f12 rfl rfl rfl rfl rfl rfl rfl ⟨rfl, rfl, rfl, rfl, rfl⟩ rfl rfl rfl rfl rfl (by kernel_rfl) Try.func12 (by kernel_rfl)
    (of_decide_eq_true (by kernel_rfl)) (by unfold Func.isWrapper; first | (rw [if_pos (by decide +kernel)]; kernel_rfl) | (rw [if_neg (by decide +kernel)]; exact ⟨rfl, rfl⟩))
    (fun os started H enc _ => chachaBlocks_lifted os started H enc)
end Go.Proofs.Ytkhkbenihjngpaa
