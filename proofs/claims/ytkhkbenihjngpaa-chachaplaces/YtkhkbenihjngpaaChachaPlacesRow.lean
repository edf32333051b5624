/- ChachaPlaces holds: for every input the call returns true and its arguments read afterwards as before; there is no further condition. -/
import Derived.Test.YtkhkbenihjngpaaChachaPlacesOk
import Derived.Test.YtkhkbenihjngpaaLB
import Derived.Test.YtkhkbenihjngpaaRows
set_option linter.all false
namespace Go.Proofs.Ytkhkbenihjngpaa
open Go.Sx Go.Sx.ChachaPlacesQ
theorem ChachaPlacesQ.own : ownKnob Try.prog.godebug = none := by kernel_rfl
theorem ChachaPlacesQ.laidOut : laidOutB Try.prog = true := by kernel_rfl
set_option maxRecDepth 100000 in
theorem chachaPlaces_lifted (os : Os) (started : os.Started) (H : Type) (enc : TypeId × Value → H) :
    ReturnsInHanded {} Try.checked os 11 .any (Rows.chachaPlacesSpec.pre6 enc Try.prog Try.f11 Rows.chachaPlacesRow.domain false) (Rows.chachaPlacesSpec.post enc Try.prog Try.f11 false true false false) := by
  refine law_lifted (C := Try.checked) (tb := 4) aditlaw02_ChachaPlaces_ok ChachaPlacesQ.own started (by kernel_rfl) Try.func11
    (ChangeSpec.witness6 (enc := enc) (C := Try.checked) false ⟨#[], #[.agg (Array.replicate 32 (.int .u8 0)), .agg (Array.replicate 12 (.int .u8 0)), .int .u32 0, .slice none 0 0, .slice none 0 0], []⟩ 8 (by kernel_rfl) (by kernel_rfl) (by kernel_rfl) (by kernel_rfl))
    ChachaPlacesQ.laidOut (by kernel_rfl) (ss := [.agg (List.replicate 32 (.int .u8)), .agg (List.replicate 12 (.int .u8)), .one (.int .u32), .sl [.int .u8], .sl [.int .u8]]) (by kernel_rfl) rfl (by kernel_rfl) (by kernel_rfl) (fun ds h => ?_) Go.Sx.ChachaPlaces_row
  match ds, h with
  | [d1, d2, d3, d4, d5], _ => rfl
theorem chachaPlaces_holds : Rows.ChachaPlacesSaid :=
  OpenClaim.holds_of_wide 11 Try.f11 rfl rfl rfl rfl rfl rfl rfl ⟨rfl, rfl, rfl, rfl, rfl⟩ rfl rfl rfl rfl rfl (by kernel_rfl) Try.func11 (by kernel_rfl)
    (of_decide_eq_true (by kernel_rfl)) (by unfold Func.isWrapper; first | (rw [if_pos (by decide +kernel)]; kernel_rfl) | (rw [if_neg (by decide +kernel)]; exact ⟨rfl, rfl⟩))
    (fun os started H enc _ => chachaPlaces_lifted os started H enc)
end Go.Proofs.Ytkhkbenihjngpaa
