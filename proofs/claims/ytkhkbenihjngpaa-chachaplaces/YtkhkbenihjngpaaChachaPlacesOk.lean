import Derived.Test.YtkhkbenihjngpaaChachaPlacesEq0
import Derived.Test.YtkhkbenihjngpaaChecked
set_option linter.all false
namespace Go.Sx.ChachaPlacesQ
open Go Go.Sx Go.Proofs
set_option linter.unusedVariables false
set_option maxRecDepth 100000
theorem words_Put32_comp : compF Try.prog [] [] [] 32 = some words_Put32_c := by kernel_rfl
theorem words_Put32_ok : FnOk Try.prog 32 words_Put32 := FnOk.of Try.checked.mixed (by kernel_rfl) words_Put32_comp words_Put32_eq (by exact okNil)
theorem words_reach_comp : compF Try.prog [] [] [([6, 7, 8, 9, 10, 11, 12, 13, 14, 15, 16, 17, 18, 19, 20, 21, 22], [6])] 43 = some words_reach_c := by kernel_rfl
theorem words_reach_ok : FnOk Try.prog 43 words_reach := FnOk.of Try.checked.mixed (by kernel_rfl) words_reach_comp words_reach_eq (by exact okNil)
theorem words_Load32_comp : compF Try.prog [] [] [([4, 5, 12], [4, 5])] 39 = some words_Load32_c := by kernel_rfl
theorem words_Load32_ok : FnOk Try.prog 39 words_Load32 := FnOk.of Try.checked.mixed (by kernel_rfl) words_Load32_comp words_Load32_eq (by exact okCons words_reach_ok (okNil))
theorem chacha_first_comp : compF Try.prog [] [] [([7, 23, 24, 25, 26, 27, 28, 29, 30, 31, 32, 33, 34, 35, 36], [23]), ([7, 25, 26, 27, 28, 29, 30, 31, 32, 33, 34, 35], []), ([], []), ([7, 23, 24, 25, 26, 27, 28, 29, 30, 31, 32, 33, 34, 35, 36], []), ([6, 9, 10, 11, 12, 13, 14, 15, 16, 17, 18, 19, 20, 21, 22], [9]), ([6, 11, 12, 13, 14, 15, 16, 17, 18, 19, 20, 21], []), ([], []), ([6, 9, 10, 11, 12, 13, 14, 15, 16, 17, 18, 19, 20, 21, 22], [])] 33 = some chacha_first_c := by kernel_rfl
theorem chacha_first_ok : FnOk Try.prog 33 chacha_first := FnOk.of Try.checked.mixed (by kernel_rfl) chacha_first_comp chacha_first_eq (by exact okCons words_Load32_ok (okNil))
theorem words_Rotate_comp : compF Try.prog [] [] [] 44 = some words_Rotate_c := by kernel_rfl
theorem words_Rotate_ok : FnOk Try.prog 44 words_Rotate := FnOk.of Try.checked.mixed (by kernel_rfl) words_Rotate_comp words_Rotate_eq (by exact okNil)
theorem chacha_state_quarter_comp : compF Try.prog [] [] [] 40 = some chacha_state_quarter_c := by kernel_rfl
theorem chacha_state_quarter_ok : FnOk Try.prog 40 chacha_state_quarter := FnOk.of Try.checked.mixed (by kernel_rfl) chacha_state_quarter_comp chacha_state_quarter_eq (by exact okCons words_Rotate_ok (okNil))
theorem chacha_state_rounds_comp : compF Try.prog [] [] [([2, 3, 4, 5, 6, 7, 8, 9, 10, 11, 12, 13, 14, 15, 16, 17, 18, 19, 20, 21, 22, 23, 24, 25, 26, 27, 28, 29, 30, 31, 32, 33, 34, 35, 36, 37, 38], [4]), ([3, 19, 20, 21, 22, 23, 24, 25, 26, 27, 28, 29, 30, 31, 32, 33, 34, 35, 36, 37], [19]), ([3, 21, 22, 23, 24, 25, 26, 27, 28, 29, 30, 31, 32, 33, 34, 35, 36], []), ([], []), ([2, 6, 7, 8, 9, 10, 11, 12, 13, 14, 15, 16, 17, 18], [6]), ([2, 8, 9, 10, 11, 12, 13, 14, 15, 16, 17], []), ([], []), ([2, 6, 7, 8, 9, 10, 11, 12, 13, 14, 15, 16, 17, 18], []), ([2, 3, 6, 7, 8, 9, 10, 11, 12, 13, 14, 15, 16, 17, 18, 19, 20, 21, 22, 23, 24, 25, 26, 27, 28, 29, 30, 31, 32, 33, 34, 35, 36, 37], []), ([], [])] 34 = some chacha_state_rounds_c := by kernel_rfl
theorem chacha_state_rounds_ok : FnOk Try.prog 34 chacha_state_rounds := FnOk.of Try.checked.mixed (by kernel_rfl) chacha_state_rounds_comp chacha_state_rounds_eq (by exact okCons chacha_state_quarter_ok (okNil))
theorem chacha_Block_comp : compF Try.prog [] [] [([12, 13, 27, 28, 29, 30, 31, 32, 33, 34, 35, 36, 37, 38, 39, 40, 41, 42, 43], [27]), ([12, 13, 29, 30, 31, 32, 33, 34, 35, 36, 37, 38, 39, 40, 41, 42], []), ([], []), ([12, 13, 27, 28, 29, 30, 31, 32, 33, 34, 35, 36, 37, 38, 39, 40, 41, 42, 43], [])] 25 = some chacha_Block_c := by kernel_rfl
theorem chacha_Block_ok : FnOk Try.prog 25 chacha_Block := FnOk.of Try.checked.mixed (by kernel_rfl) chacha_Block_comp chacha_Block_eq (by exact okCons words_Put32_ok (okCons chacha_first_ok (okCons chacha_state_rounds_ok (okNil))))
theorem chacha_Xor_comp : compF Try.prog [] [] [([2, 12, 13, 14, 33, 34, 35, 36, 37, 38, 39, 40, 41, 42, 43, 44, 45, 46, 47, 48, 49, 50, 51, 52, 53, 54, 55, 56, 57, 58, 59, 60, 61, 62, 63, 64, 65, 66, 67], [2, 12]), ([14, 44, 45, 46, 47, 48, 49, 50, 51, 52, 53, 54, 55, 56, 57, 58, 59, 60, 61, 62, 63, 64, 65], [14]), ([53, 54, 55, 56, 57, 58, 59, 60, 61, 62, 63, 64, 65], []), ([], []), ([14, 44, 45, 46, 47, 48, 49, 50, 51, 52, 53, 54, 55, 56, 57, 58, 59, 60, 61, 62, 63, 64, 65], []), ([2, 13, 14, 39, 40, 41, 42, 43, 44, 45, 46, 47, 48, 49, 50, 51, 52, 53, 54, 55, 56, 57, 58, 59, 60, 61, 62, 63, 64, 65, 66, 67], [2]), ([], []), ([2, 12, 13, 14, 33, 34, 35, 36, 37, 38, 39, 40, 41, 42, 43, 44, 45, 46, 47, 48, 49, 50, 51, 52, 53, 54, 55, 56, 57, 58, 59, 60, 61, 62, 63, 64, 65, 66, 67], []), ([8, 9], [8, 9])] 23 = some chacha_Xor_c := by kernel_rfl
theorem chacha_Xor_ok : FnOk Try.prog 23 chacha_Xor := FnOk.of Try.checked.mixed (by kernel_rfl) chacha_Xor_comp chacha_Xor_eq (by exact okCons chacha_Block_ok (okNil))
theorem aditlaw02_alive_comp : compF Try.prog [] [] [] 22 = some aditlaw02_alive_c := by kernel_rfl
theorem aditlaw02_alive_ok : FnOk Try.prog 22 aditlaw02_alive := FnOk.of Try.checked.mixed (by kernel_rfl) aditlaw02_alive_comp aditlaw02_alive_eq (by exact okCons chacha_Xor_ok (okCons chacha_Block_ok (okNil)))
theorem aditlaw02_ChachaPlaces_comp : compF Try.prog [] [] [([10, 15, 64, 65, 66, 67, 68, 69, 70, 71, 72, 73, 74, 75, 76, 77, 78, 79, 80, 81, 82, 83, 84, 85, 86, 87, 88], [10, 15]), ([10, 70, 71, 72, 73, 74, 75, 76, 77, 78, 79, 80, 81, 82, 83, 84, 85, 86, 87, 88], [10]), ([], []), ([10, 15, 64, 65, 66, 67, 68, 69, 70, 71, 72, 73, 74, 75, 76, 77, 78, 79, 80, 81, 82, 83, 84, 85, 86, 87, 88], [10]), ([10], [10]), ([10, 26], [10])] 11 = some aditlaw02_ChachaPlaces_c := by kernel_rfl
theorem aditlaw02_ChachaPlaces_ok : FnOk Try.prog 11 aditlaw02_ChachaPlaces := FnOk.of Try.checked.mixed (by kernel_rfl) aditlaw02_ChachaPlaces_comp aditlaw02_ChachaPlaces_eq (by exact okCons aditlaw02_alive_ok (okCons chacha_Xor_ok (okNil)))
end Go.Sx.ChachaPlacesQ
