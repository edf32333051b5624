import Derived.Test.YtkhkbenihjngpaaWindowOrderEq0
import Derived.Test.YtkhkbenihjngpaaChecked
set_option linter.all false
namespace Go.Sx.WindowOrderQ
open Go Go.Sx Go.Proofs
set_option linter.unusedVariables false
set_option maxRecDepth 100000
theorem window_Window_Has_comp : compF Try.prog [] [] [([4], [4])] 15 = some window_Window_Has_c := by kernel_rfl
theorem window_Window_Has_ok : FnOk Try.prog 15 window_Window_Has := FnOk.of Try.checked.mixed (by kernel_rfl) window_Window_Has_comp window_Window_Has_eq (by exact okNil)
theorem window_Window_Check_comp : compF Try.prog [] [] [([4, 5, 6, 7, 8, 9, 10, 11, 12, 13, 14, 15, 16, 17, 18, 19, 20, 21, 22, 23, 24, 25], [4])] 13 = some window_Window_Check_c := by kernel_rfl
theorem window_Window_Check_ok : FnOk Try.prog 13 window_Window_Check := FnOk.of Try.checked.mixed (by kernel_rfl) window_Window_Check_comp window_Window_Check_eq (by exact okCons window_Window_Has_ok (okNil))
theorem window_Window_move_comp : compF Try.prog [] [] [([8, 9, 15, 16, 17, 18, 19, 20, 21, 22, 23, 24, 25, 26, 27, 28, 29, 30, 31, 32, 33, 34, 35, 36, 37, 38, 39, 40, 41, 42, 43, 44, 45, 46, 47, 48, 49, 50], [15]), ([23, 24, 25, 26, 27, 28, 29, 30], []), ([8, 9, 17, 18, 19, 20, 21, 22, 23, 24, 25, 26, 27, 28, 29, 30, 31, 32, 33, 34, 35, 36, 37, 38, 39, 40, 41, 42, 43, 44, 45, 46, 47, 48, 49], []), ([], []), ([8, 9, 15, 16, 17, 18, 19, 20, 21, 22, 23, 24, 25, 26, 27, 28, 29, 30, 31, 32, 33, 34, 35, 36, 37, 38, 39, 40, 41, 42, 43, 44, 45, 46, 47, 48, 49, 50], [])] 31 = some window_Window_move_c := by kernel_rfl
theorem window_Window_move_ok : FnOk Try.prog 31 window_Window_move := FnOk.of Try.checked.mixed (by kernel_rfl) window_Window_move_comp window_Window_move_eq (by exact okNil)
theorem window_Window_Take_comp : compF Try.prog [] [] [([27, 28, 29, 30, 31], []), ([7, 20, 21, 22, 23, 24, 25, 26, 27, 28, 29, 30, 31, 32, 33, 34], []), ([5, 14, 15], [5])] 17 = some window_Window_Take_c := by kernel_rfl
theorem window_Window_Take_ok : FnOk Try.prog 17 window_Window_Take := FnOk.of Try.checked.mixed (by kernel_rfl) window_Window_Take_comp window_Window_Take_eq (by exact okCons window_Window_Check_ok (okCons window_Window_move_ok (okNil)))
theorem window_Window_Next_comp : compF Try.prog [] [] [] 18 = some window_Window_Next_c := by kernel_rfl
theorem window_Window_Next_ok : FnOk Try.prog 18 window_Window_Next := FnOk.of Try.checked.mixed (by kernel_rfl) window_Window_Next_comp window_Window_Next_eq (by exact okNil)
theorem aditlaw15_alive_comp : compF Try.prog [] [] [] 20 = some aditlaw15_alive_c := by kernel_rfl
theorem aditlaw15_alive_ok : FnOk Try.prog 20 aditlaw15_alive := FnOk.of Try.checked.mixed (by kernel_rfl) aditlaw15_alive_comp aditlaw15_alive_eq (by exact okCons window_Window_Check_ok (okCons window_Window_Has_ok (okCons window_Window_Take_ok (okCons window_Window_Next_ok (okNil)))))
theorem aditlaw15_WindowOrder_comp : compF Try.prog [] [] [([9, 10, 11, 12, 13, 27, 28, 29, 30, 31, 32, 33, 34, 35, 36, 37, 38, 39, 40, 41, 42, 43, 44, 45, 46, 47, 48, 49, 50, 51, 52, 53, 54, 55, 56, 57, 58, 59, 60, 61, 62, 63, 64, 65, 66], [9]), ([10, 11, 12, 13, 33, 34, 35, 36, 37, 38, 39, 40, 41, 42, 43, 44, 45, 46, 47, 48, 49, 50, 51, 52, 53, 54, 55, 56, 57, 58, 59, 60, 61, 62, 63, 64, 65, 66], []), ([], []), ([9, 10, 11, 12, 13, 27, 28, 29, 30, 31, 32, 33, 34, 35, 36, 37, 38, 39, 40, 41, 42, 43, 44, 45, 46, 47, 48, 49, 50, 51, 52, 53, 54, 55, 56, 57, 58, 59, 60, 61, 62, 63, 64, 65, 66], []), ([6, 26], [6])] 7 = some aditlaw15_WindowOrder_c := by kernel_rfl
theorem aditlaw15_WindowOrder_ok : FnOk Try.prog 7 aditlaw15_WindowOrder := FnOk.of Try.checked.mixed (by kernel_rfl) aditlaw15_WindowOrder_comp aditlaw15_WindowOrder_eq (by exact okCons window_Window_Take_ok (okCons window_Window_Next_ok (okCons aditlaw15_alive_ok (okNil))))
end Go.Sx.WindowOrderQ
