import Derived.Test.YtkhkbenihjngpaaShAditlaw15
import Derived.Test.YtkhkbenihjngpaaShAditref15
import Derived.Test.YtkhkbenihjngpaaShWindow
import Derived.Test.YtkhkbenihjngpaaBaseB
import Derived.KernelRfl
set_option linter.all false
namespace Go.Sx.WindowLivesQ
open Go Go.Sx
set_option linter.unusedVariables false
set_option maxRecDepth 100000
def window_Window_Has_c : CFn := { keep := [4], res := [.tmp 0], body := (.ops [⟨(some 2), none, .box (.tmp 0), []⟩,
    ⟨(some 4), none, .mov (.cst (AV.bool false)), []⟩]
  (.ops [⟨(some 6), none, .mov (.tmp 1), []⟩,
    ⟨(some 7), none, .fldP 0 (.tmp 2), []⟩,
    ⟨(some 8), none, .load none (.tmp 7), []⟩,
    ⟨(some 9), none, .bin .geq (.tmp 6) (.tmp 8), []⟩,
    ⟨(some 10), none, .mov (.tmp 9), []⟩,
    ⟨(some 11), some (10, false), .fldP 0 (.tmp 2), []⟩,
    ⟨(some 12), some (10, false), .load none (.tmp 11), []⟩,
    ⟨(some 13), some (10, false), .bin .sub (.tmp 12) (.cst (AV.int .u64 1)), []⟩,
    ⟨(some 14), some (10, false), .mov (.tmp 1), []⟩,
    ⟨(some 15), some (10, false), .bin .sub (.tmp 13) (.tmp 14), []⟩,
    ⟨(some 16), some (10, false), .bin .geq (.tmp 15) (.cst (AV.int .u64 128)), []⟩,
    ⟨(some 17), none, .pick (.tmp 10) (.cst (AV.bool true)) (.tmp 16), []⟩]
  (.seq [4] [4]
  (.cond (.tmp 17)
   (.ops [⟨(some 4), none, .mov (.cst (AV.bool false)), []⟩]
    .ret)
   .skip)
  (.ops [⟨(some 18), none, .fldP 0 (.tmp 2), []⟩,
    ⟨(some 19), none, .load none (.tmp 18), []⟩,
    ⟨(some 20), none, .bin .sub (.tmp 19) (.cst (AV.int .u64 1)), []⟩,
    ⟨(some 21), none, .mov (.tmp 1), []⟩,
    ⟨(some 22), none, .bin .sub (.tmp 20) (.tmp 21), []⟩,
    ⟨(some 5), none, .mov (.tmp 22), []⟩]
  (.ops [⟨(some 23), none, .mov (.tmp 5), []⟩,
    ⟨(some 24), none, .bin .quo (.tmp 23) (.cst (AV.int .u64 64)), []⟩,
    ⟨(some 25), none, .fldP 1 (.tmp 2), []⟩,
    ⟨(some 26), none, .idxP 2 1 (.tmp 25) (.tmp 24), []⟩,
    ⟨(some 27), none, .load none (.tmp 26), []⟩,
    ⟨(some 28), none, .mov (.tmp 5), []⟩,
    ⟨(some 29), none, .bin .rem (.tmp 28) (.cst (AV.int .u64 64)), []⟩,
    ⟨(some 30), none, .bin .shr (.tmp 27) (.tmp 29), []⟩,
    ⟨(some 31), none, .bin .and (.tmp 30) (.cst (AV.int .u64 1)), []⟩,
    ⟨(some 32), none, .bin .eql (.tmp 31) (.cst (AV.int .u64 1)), []⟩,
    ⟨(some 4), none, .mov (.tmp 32), []⟩]
  .ret))))) }
noncomputable def window_Window_Has_g : List (Nat × Fn) := []
theorem window_Window_Has_eq : denFn (fnsOf window_Window_Has_g) window_Window_Has_c = window_Window_Has := by kernel_rfl
def window_Window_Check_c : CFn := { keep := [4], res := [.tmp 0], body := (.ops [⟨(some 2), none, .box (.tmp 0), []⟩,
    ⟨(some 4), none, .mov (.cst (AV.int .i64 0)), []⟩]
  (.seq [4, 5, 6, 7, 8, 9, 10, 11, 12, 13, 14, 15, 16, 17, 18, 19, 20, 21, 22, 23, 24, 25] [4]
  (.block 0 (.ops [⟨(some 6), none, .mov (.tmp 1), []⟩,
      ⟨(some 7), none, .bin .geq (.tmp 6) (.cst (AV.int .u64 18446744073709543423)), []⟩,
      ⟨(some 5), none, .mov (.tmp 7), []⟩]
    (.cond (.tmp 5)
    (.ops [⟨(some 4), none, .mov (.cst (AV.int .i64 81)), []⟩]
     .ret)
    (.ops [⟨(some 9), none, .load (some 3) (.tmp 2), []⟩,
       ⟨(some 10), none, .mov (.tmp 1), []⟩,
       ⟨(some 11), none, .call 15 [(.tmp 9), (.tmp 10)], []⟩,
       ⟨(some 12), none, .mov (.tmp 11), []⟩,
       ⟨(some 13), some (12, false), .mov (.tmp 1), []⟩,
       ⟨(some 14), some (12, false), .fldP 0 (.tmp 2), []⟩,
       ⟨(some 15), some (12, false), .load none (.tmp 14), []⟩,
       ⟨(some 16), some (12, false), .bin .lss (.tmp 13) (.tmp 15), []⟩,
       ⟨(some 17), some (12, false), .mov (.tmp 16), []⟩,
       ⟨(some 18), some (17, true), .fldP 0 (.tmp 2), []⟩,
       ⟨(some 19), some (17, true), .load none (.tmp 18), []⟩,
       ⟨(some 20), some (17, true), .bin .sub (.tmp 19) (.cst (AV.int .u64 1)), []⟩,
       ⟨(some 21), some (17, true), .mov (.tmp 1), []⟩,
       ⟨(some 22), some (17, true), .bin .sub (.tmp 20) (.tmp 21), []⟩,
       ⟨(some 23), some (17, true), .bin .geq (.tmp 22) (.cst (AV.int .u64 128)), []⟩,
       ⟨(some 24), some (12, false), .pick (.tmp 17) (.tmp 23) (.cst (AV.bool false)), []⟩,
       ⟨(some 25), none, .pick (.tmp 12) (.cst (AV.bool true)) (.tmp 24), []⟩,
       ⟨(some 8), none, .mov (.tmp 25), []⟩]
     (.cond (.tmp 8)
     (.ops [⟨(some 4), none, .mov (.cst (AV.int .i64 80)), []⟩]
      .ret)
     .skip)))))
  (.ops [⟨(some 4), none, .mov (.cst (AV.int .i64 0)), []⟩]
  .ret))) }
noncomputable def window_Window_Check_g : List (Nat × Fn) := [(15, window_Window_Has)]
theorem window_Window_Check_eq : denFn (fnsOf window_Window_Check_g) window_Window_Check_c = window_Window_Check := by kernel_rfl
def aditref15_has_c : CFn := { keep := [4], res := [.tmp 0], body := (.ops [⟨(some 4), none, .mov (.cst (AV.bool false)), []⟩]
  (.ops [⟨(some 5), none, .mov (.cst (AV.int .i64 0)), []⟩]
  (.seq [4, 5, 6, 7, 8, 9, 10, 11, 12, 13, 14, 15, 16, 17] [4]
  (.block 0 (.loop [4, 5, 6, 7, 8, 9, 10, 11, 12, 13, 14, 15, 16, 17] [4, 5]
    (.ops [⟨(some 6), none, .mov (.tmp 5), []⟩,
       ⟨(some 7), none, .mov (.tmp 0), []⟩,
       ⟨(some 8), none, .len (.tmp 7), []⟩,
       ⟨(some 9), none, .bin .lss (.tmp 6) (.tmp 8), []⟩]
     (.seq [] []
     (.cond (.tmp 9)
      .skip
      (.exit 0))
     (.seq [4, 12, 13, 14, 15, 16, 17] [4]
     (.block 1 (.ops [⟨(some 12), none, .mov (.tmp 0), []⟩,
         ⟨(some 13), none, .mov (.tmp 5), []⟩,
         ⟨(some 14), none, .idxS 1 (.tmp 12) (.tmp 13), []⟩,
         ⟨(some 15), none, .load none (.tmp 14), []⟩,
         ⟨(some 16), none, .mov (.tmp 1), []⟩,
         ⟨(some 17), none, .bin .eql (.tmp 15) (.tmp 16), []⟩]
       (.cond (.tmp 17)
       (.ops [⟨(some 4), none, .mov (.cst (AV.bool true)), []⟩]
        .ret)
       .skip)))
     (.ops [⟨(some 10), none, .mov (.tmp 5), []⟩,
       ⟨(some 11), none, .bin .add (.tmp 10) (.cst (AV.int .i64 1)), []⟩,
       ⟨(some 5), none, .mov (.tmp 11), []⟩]
     .skip))))))
  (.ops [⟨(some 4), none, .mov (.cst (AV.bool false)), []⟩]
  .ret)))) }
noncomputable def aditref15_has_g : List (Nat × Fn) := []
theorem aditref15_has_eq : denFn (fnsOf aditref15_has_g) aditref15_has_c = aditref15_has := by kernel_rfl
def aditref15_Greatest_c : CFn := { keep := [2], res := [.tmp 0], body := (.ops [⟨(some 2), none, .mov (.cst (AV.int .u64 0)), []⟩]
  (.ops [⟨(some 3), none, .mov (.cst (AV.int .u64 0)), []⟩]
  (.ops [⟨(some 4), none, .mov (.cst (AV.int .i64 0)), []⟩]
  (.seq [3, 4, 5, 6, 7, 8, 9, 10, 11, 12, 13, 14, 15, 16, 17, 18, 19, 20, 21, 22] [3]
  (.block 0 (.loop [3, 4, 5, 6, 7, 8, 9, 10, 11, 12, 13, 14, 15, 16, 17, 18, 19, 20, 21, 22] [3, 4]
    (.ops [⟨(some 5), none, .mov (.tmp 4), []⟩,
       ⟨(some 6), none, .mov (.tmp 0), []⟩,
       ⟨(some 7), none, .len (.tmp 6), []⟩,
       ⟨(some 8), none, .bin .lss (.tmp 5) (.tmp 7), []⟩]
     (.seq [] []
     (.cond (.tmp 8)
      .skip
      (.exit 0))
     (.seq [3, 11, 12, 13, 14, 15, 16, 17, 18, 19, 20, 21, 22] [3]
     (.block 1 (.ops [⟨(some 11), none, .mov (.tmp 0), []⟩,
         ⟨(some 12), none, .mov (.tmp 4), []⟩,
         ⟨(some 13), none, .idxS 1 (.tmp 11) (.tmp 12), []⟩,
         ⟨(some 14), none, .load none (.tmp 13), []⟩,
         ⟨(some 15), none, .bin .add (.tmp 14) (.cst (AV.int .u64 1)), []⟩,
         ⟨(some 16), none, .mov (.tmp 3), []⟩,
         ⟨(some 17), none, .bin .gtr (.tmp 15) (.tmp 16), []⟩]
       (.cond (.tmp 17)
       (.ops [⟨(some 18), none, .mov (.tmp 0), []⟩,
          ⟨(some 19), none, .mov (.tmp 4), []⟩,
          ⟨(some 20), none, .idxS 1 (.tmp 18) (.tmp 19), []⟩,
          ⟨(some 21), none, .load none (.tmp 20), []⟩,
          ⟨(some 22), none, .bin .add (.tmp 21) (.cst (AV.int .u64 1)), []⟩,
          ⟨(some 3), none, .mov (.tmp 22), []⟩]
        .skip)
       .skip)))
     (.ops [⟨(some 9), none, .mov (.tmp 4), []⟩,
       ⟨(some 10), none, .bin .add (.tmp 9) (.cst (AV.int .i64 1)), []⟩,
       ⟨(some 4), none, .mov (.tmp 10), []⟩]
     .skip))))))
  (.ops [⟨(some 23), none, .mov (.tmp 3), []⟩,
    ⟨(some 2), none, .mov (.tmp 23), []⟩]
  .ret))))) }
noncomputable def aditref15_Greatest_g : List (Nat × Fn) := []
theorem aditref15_Greatest_eq : denFn (fnsOf aditref15_Greatest_g) aditref15_Greatest_c = aditref15_Greatest := by kernel_rfl
def aditref15_late_c : CFn := { keep := [4], res := [.tmp 0], body := (.ops [⟨(some 4), none, .mov (.cst (AV.bool false)), []⟩]
  (.ops [⟨(some 6), none, .mov (.tmp 0), []⟩,
    ⟨(some 7), none, .call 19 [(.tmp 6)], []⟩,
    ⟨(some 5), none, .mov (.tmp 7), []⟩]
  (.ops [⟨(some 8), none, .mov (.tmp 5), []⟩,
    ⟨(some 9), none, .bin .gtr (.tmp 8) (.cst (AV.int .u64 0)), []⟩,
    ⟨(some 10), none, .mov (.tmp 9), []⟩,
    ⟨(some 11), some (10, true), .mov (.tmp 1), []⟩,
    ⟨(some 12), some (10, true), .mov (.tmp 5), []⟩,
    ⟨(some 13), some (10, true), .bin .lss (.tmp 11) (.tmp 12), []⟩,
    ⟨(some 14), none, .pick (.tmp 10) (.tmp 13) (.cst (AV.bool false)), []⟩,
    ⟨(some 15), none, .mov (.tmp 14), []⟩,
    ⟨(some 16), some (15, true), .mov (.tmp 5), []⟩,
    ⟨(some 17), some (15, true), .bin .sub (.tmp 16) (.cst (AV.int .u64 1)), []⟩,
    ⟨(some 18), some (15, true), .mov (.tmp 1), []⟩,
    ⟨(some 19), some (15, true), .bin .sub (.tmp 17) (.tmp 18), []⟩,
    ⟨(some 20), some (15, true), .bin .geq (.tmp 19) (.cst (AV.int .u64 128)), []⟩,
    ⟨(some 21), none, .pick (.tmp 15) (.tmp 20) (.cst (AV.bool false)), []⟩,
    ⟨(some 4), none, .mov (.tmp 21), []⟩]
  .ret))) }
noncomputable def aditref15_late_g : List (Nat × Fn) := [(19, aditref15_Greatest)]
theorem aditref15_late_eq : denFn (fnsOf aditref15_late_g) aditref15_late_c = aditref15_late := by kernel_rfl
def aditref15_Check_c : CFn := { keep := [4], res := [.tmp 0], body := (.ops [⟨(some 4), none, .mov (.cst (AV.int .i64 0)), []⟩]
  (.ops [⟨(some 5), none, .mov (.tmp 1), []⟩,
    ⟨(some 6), none, .bin .gtr (.tmp 5) (.cst (AV.int .u64 18446744073709543422)), []⟩]
  (.seq [4] [4]
  (.cond (.tmp 6)
   (.ops [⟨(some 4), none, .mov (.cst (AV.int .i64 81)), []⟩]
    .ret)
   .skip)
  (.ops [⟨(some 7), none, .mov (.tmp 0), []⟩,
    ⟨(some 8), none, .mov (.tmp 1), []⟩,
    ⟨(some 9), none, .call 29 [(.tmp 7), (.tmp 8)], []⟩,
    ⟨(some 10), none, .mov (.tmp 9), []⟩,
    ⟨(some 11), some (10, false), .mov (.tmp 0), []⟩,
    ⟨(some 12), some (10, false), .mov (.tmp 1), []⟩,
    ⟨(some 13), some (10, false), .call 30 [(.tmp 11), (.tmp 12)], []⟩,
    ⟨(some 14), none, .pick (.tmp 10) (.cst (AV.bool true)) (.tmp 13), []⟩]
  (.seq [4] [4]
  (.cond (.tmp 14)
   (.ops [⟨(some 4), none, .mov (.cst (AV.int .i64 80)), []⟩]
    .ret)
   .skip)
  (.ops [⟨(some 4), none, .mov (.cst (AV.int .i64 0)), []⟩]
  .ret)))))) }
noncomputable def aditref15_Check_g : List (Nat × Fn) := [(29, aditref15_has), (30, aditref15_late)]
theorem aditref15_Check_eq : denFn (fnsOf aditref15_Check_g) aditref15_Check_c = aditref15_Check := by kernel_rfl
def aditref15_Has_c : CFn := { keep := [4], res := [.tmp 0], body := (.ops [⟨(some 4), none, .mov (.cst (AV.bool false)), []⟩]
  (.ops [⟨(some 5), none, .mov (.tmp 0), []⟩,
    ⟨(some 6), none, .mov (.tmp 1), []⟩,
    ⟨(some 7), none, .call 29 [(.tmp 5), (.tmp 6)], []⟩,
    ⟨(some 8), none, .mov (.tmp 7), []⟩,
    ⟨(some 9), some (8, true), .mov (.tmp 0), []⟩,
    ⟨(some 10), some (8, true), .mov (.tmp 1), []⟩,
    ⟨(some 11), some (8, true), .call 30 [(.tmp 9), (.tmp 10)], []⟩,
    ⟨(some 12), some (8, true), .un .not (.tmp 11), []⟩,
    ⟨(some 13), none, .pick (.tmp 8) (.tmp 12) (.cst (AV.bool false)), []⟩,
    ⟨(some 4), none, .mov (.tmp 13), []⟩]
  .ret)) }
noncomputable def aditref15_Has_g : List (Nat × Fn) := [(29, aditref15_has), (30, aditref15_late)]
theorem aditref15_Has_eq : denFn (fnsOf aditref15_Has_g) aditref15_Has_c = aditref15_Has := by kernel_rfl
def window_Window_move_c : CFn := { keep := [4], res := [.cell 0 (some 3)], body := (.ops [⟨(some 2), none, .box (.tmp 0), []⟩,
    ⟨(some 4), none, .alloc [.int .u64 0, .int .u64 0, .int .u64 0], []⟩]
  (.ops [⟨(some 5), none, .alloc [.int .u64 0, .int .u64 0], []⟩]
  (.ops [⟨(some 10), none, .mov (.tmp 1), []⟩,
    ⟨(some 11), none, .bin .quo (.tmp 10) (.cst (AV.int .u64 64)), []⟩,
    ⟨(some 12), none, .conv .i64 (.tmp 11), []⟩,
    ⟨(some 13), none, .mov (.tmp 1), []⟩,
    ⟨(some 14), none, .bin .rem (.tmp 13) (.cst (AV.int .u64 64)), []⟩,
    ⟨(some 6), none, .mov (.tmp 12), []⟩,
    ⟨(some 7), none, .mov (.tmp 14), []⟩]
  (.ops [⟨(some 15), none, .mov (.cst (AV.int .i64 0)), []⟩]
  (.seq [8, 9, 15, 16, 17, 18, 19, 20, 21, 22, 23, 24, 25, 26, 27, 28, 29, 30, 31, 32, 33, 34, 35, 36, 37, 38, 39, 40, 41, 42, 43, 44, 45, 46, 47, 48, 49, 50] []
  (.block 0 (.loop [8, 9, 15, 16, 17, 18, 19, 20, 21, 22, 23, 24, 25, 26, 27, 28, 29, 30, 31, 32, 33, 34, 35, 36, 37, 38, 39, 40, 41, 42, 43, 44, 45, 46, 47, 48, 49, 50] [15]
    (.ops [⟨(some 16), none, .bin .lss (.tmp 15) (.cst (AV.int .i64 2)), []⟩]
     (.seq [] []
     (.cond (.tmp 16)
      .skip
      (.exit 0))
     (.seq [8, 9, 17, 18, 19, 20, 21, 22, 23, 24, 25, 26, 27, 28, 29, 30, 31, 32, 33, 34, 35, 36, 37, 38, 39, 40, 41, 42, 43, 44, 45, 46, 47, 48, 49] []
     (.block 1 (.ops [⟨(some 17), none, .mov (.tmp 15), []⟩,
         ⟨(some 8), none, .mov (.tmp 17), []⟩]
       (.ops [⟨(some 18), none, .mov (.tmp 8), []⟩,
         ⟨(some 19), none, .mov (.tmp 6), []⟩,
         ⟨(some 20), none, .bin .sub (.tmp 18) (.tmp 19), []⟩,
         ⟨(some 9), none, .mov (.tmp 20), []⟩]
       (.ops [⟨(some 21), none, .mov (.tmp 9), []⟩,
         ⟨(some 22), none, .bin .geq (.tmp 21) (.cst (AV.int .i64 0)), []⟩]
       (.seq [23, 24, 25, 26, 27, 28, 29, 30] []
       (.cond (.tmp 22)
        (.ops [⟨(some 23), none, .mov (.tmp 8), []⟩,
           ⟨(some 24), none, .mov (.tmp 9), []⟩,
           ⟨(some 25), none, .fldP 1 (.tmp 2), []⟩,
           ⟨(some 26), none, .idxP 2 1 (.tmp 25) (.tmp 24), []⟩,
           ⟨(some 27), none, .load none (.tmp 26), []⟩,
           ⟨(some 28), none, .mov (.tmp 7), []⟩,
           ⟨(some 29), none, .bin .shl (.tmp 27) (.tmp 28), []⟩,
           ⟨(some 30), none, .idxP 2 1 (.tmp 5) (.tmp 23), []⟩,
           ⟨none, none, .store 1 (.tmp 30) (.tmp 29), []⟩]
         .skip)
        .skip)
       (.ops [⟨(some 31), none, .mov (.tmp 9), []⟩,
         ⟨(some 32), none, .bin .gtr (.tmp 31) (.cst (AV.int .i64 0)), []⟩,
         ⟨(some 33), none, .mov (.tmp 32), []⟩,
         ⟨(some 34), some (33, true), .mov (.tmp 7), []⟩,
         ⟨(some 35), some (33, true), .bin .gtr (.tmp 34) (.cst (AV.int .u64 0)), []⟩,
         ⟨(some 36), none, .pick (.tmp 33) (.tmp 35) (.cst (AV.bool false)), []⟩]
       (.cond (.tmp 36)
       (.ops [⟨(some 37), none, .mov (.tmp 8), []⟩,
          ⟨(some 38), none, .idxP 2 1 (.tmp 5) (.tmp 37), []⟩,
          ⟨(some 39), none, .load none (.tmp 38), []⟩,
          ⟨(some 40), none, .mov (.tmp 9), []⟩,
          ⟨(some 41), none, .bin .sub (.tmp 40) (.cst (AV.int .i64 1)), []⟩,
          ⟨(some 42), none, .fldP 1 (.tmp 2), []⟩,
          ⟨(some 43), none, .idxP 2 1 (.tmp 42) (.tmp 41), []⟩,
          ⟨(some 44), none, .load none (.tmp 43), []⟩,
          ⟨(some 45), none, .mov (.tmp 7), []⟩,
          ⟨(some 46), none, .bin .sub (.cst (AV.int .u64 64)) (.tmp 45), []⟩,
          ⟨(some 47), none, .bin .shr (.tmp 44) (.tmp 46), []⟩,
          ⟨(some 48), none, .bin .or (.tmp 39) (.tmp 47), []⟩,
          ⟨(some 49), none, .idxP 2 1 (.tmp 5) (.tmp 37), []⟩,
          ⟨none, none, .store 1 (.tmp 49) (.tmp 48), []⟩]
        .skip)
       .skip)))))))
     (.ops [⟨(some 50), none, .bin .add (.tmp 15) (.cst (AV.int .i64 1)), []⟩,
       ⟨(some 15), none, .mov (.tmp 50), []⟩]
     .skip))))))
  (.ops [⟨(some 51), none, .load (some 2) (.tmp 5), []⟩,
    ⟨(some 52), none, .fldP 1 (.tmp 2), []⟩,
    ⟨none, none, .store 2 (.tmp 52) (.tmp 51), []⟩]
  (.ops [⟨(some 53), none, .load (some 3) (.tmp 2), []⟩,
    ⟨none, none, .store 3 (.tmp 4) (.tmp 53), []⟩]
  .ret))))))) }
noncomputable def window_Window_move_g : List (Nat × Fn) := []
theorem window_Window_move_eq : denFn (fnsOf window_Window_move_g) window_Window_move_c = window_Window_move := by kernel_rfl
def window_Window_Take_c : CFn := { keep := [4, 5], res := [.cell 0 (some 3), .tmp 1], body := (.ops [⟨(some 2), none, .box (.tmp 0), []⟩,
    ⟨(some 4), none, .alloc [.int .u64 0, .int .u64 0, .int .u64 0], []⟩,
    ⟨(some 5), none, .mov (.cst (AV.int .i64 0)), []⟩]
  (.ops [⟨(some 9), none, .load (some 3) (.tmp 2), []⟩,
    ⟨(some 10), none, .mov (.tmp 1), []⟩,
    ⟨(some 11), none, .call 13 [(.tmp 9), (.tmp 10)], []⟩,
    ⟨(some 6), none, .mov (.tmp 11), []⟩]
  (.ops [⟨(some 12), none, .mov (.tmp 6), []⟩,
    ⟨(some 13), none, .bin .neq (.tmp 12) (.cst (AV.int .i64 0)), []⟩]
  (.seq [5, 14, 15] [5]
  (.cond (.tmp 13)
   (.ops [⟨(some 14), none, .load (some 3) (.tmp 2), []⟩,
      ⟨(some 15), none, .mov (.tmp 6), []⟩,
      ⟨none, none, .store 3 (.tmp 4) (.tmp 14), []⟩,
      ⟨(some 5), none, .mov (.tmp 15), []⟩]
    .ret)
   .skip)
  (.ops [⟨(some 16), none, .mov (.tmp 1), []⟩,
    ⟨(some 17), none, .fldP 0 (.tmp 2), []⟩,
    ⟨(some 18), none, .load none (.tmp 17), []⟩,
    ⟨(some 19), none, .bin .geq (.tmp 16) (.tmp 18), []⟩]
  (.seq [7, 20, 21, 22, 23, 24, 25, 26, 27, 28, 29, 30, 31, 32, 33, 34] []
  (.cond (.tmp 19)
   (.ops [⟨(some 20), none, .mov (.tmp 1), []⟩,
      ⟨(some 21), none, .bin .add (.tmp 20) (.cst (AV.int .u64 1)), []⟩,
      ⟨(some 22), none, .fldP 0 (.tmp 2), []⟩,
      ⟨(some 23), none, .load none (.tmp 22), []⟩,
      ⟨(some 24), none, .bin .sub (.tmp 21) (.tmp 23), []⟩,
      ⟨(some 7), none, .mov (.tmp 24), []⟩]
    (.ops [⟨(some 25), none, .mov (.tmp 7), []⟩,
      ⟨(some 26), none, .bin .lss (.tmp 25) (.cst (AV.int .u64 128)), []⟩]
    (.seq [27, 28, 29, 30, 31] []
    (.cond (.tmp 26)
     (.ops [⟨(some 27), none, .load (some 3) (.tmp 2), []⟩,
        ⟨(some 28), none, .mov (.tmp 7), []⟩,
        ⟨(some 29), none, .call 31 [(.tmp 27), (.tmp 28)], []⟩,
        ⟨none, none, .store 3 (.tmp 2) (.tmp 29), []⟩]
      .skip)
     (.ops [⟨(some 30), none, .build [.int .u64 0, .int .u64 0] [], []⟩,
        ⟨(some 31), none, .fldP 1 (.tmp 2), []⟩,
        ⟨none, none, .store 2 (.tmp 31) (.tmp 30), []⟩]
      .skip))
    (.ops [⟨(some 32), none, .mov (.tmp 1), []⟩,
      ⟨(some 33), none, .bin .add (.tmp 32) (.cst (AV.int .u64 1)), []⟩,
      ⟨(some 34), none, .fldP 0 (.tmp 2), []⟩,
      ⟨none, none, .store 1 (.tmp 34) (.tmp 33), []⟩]
    .skip))))
   .skip)
  (.ops [⟨(some 35), none, .fldP 0 (.tmp 2), []⟩,
    ⟨(some 36), none, .load none (.tmp 35), []⟩,
    ⟨(some 37), none, .bin .sub (.tmp 36) (.cst (AV.int .u64 1)), []⟩,
    ⟨(some 38), none, .mov (.tmp 1), []⟩,
    ⟨(some 39), none, .bin .sub (.tmp 37) (.tmp 38), []⟩,
    ⟨(some 8), none, .mov (.tmp 39), []⟩]
  (.ops [⟨(some 40), none, .mov (.tmp 8), []⟩,
    ⟨(some 41), none, .bin .quo (.tmp 40) (.cst (AV.int .u64 64)), []⟩,
    ⟨(some 42), none, .fldP 1 (.tmp 2), []⟩,
    ⟨(some 43), none, .idxP 2 1 (.tmp 42) (.tmp 41), []⟩,
    ⟨(some 44), none, .load none (.tmp 43), []⟩,
    ⟨(some 45), none, .mov (.tmp 8), []⟩,
    ⟨(some 46), none, .bin .rem (.tmp 45) (.cst (AV.int .u64 64)), []⟩,
    ⟨(some 47), none, .bin .shl (.cst (AV.int .u64 1)) (.tmp 46), []⟩,
    ⟨(some 48), none, .bin .or (.tmp 44) (.tmp 47), []⟩,
    ⟨(some 49), none, .fldP 1 (.tmp 2), []⟩,
    ⟨(some 50), none, .idxP 2 1 (.tmp 49) (.tmp 41), []⟩,
    ⟨none, none, .store 1 (.tmp 50) (.tmp 48), []⟩]
  (.ops [⟨(some 51), none, .load (some 3) (.tmp 2), []⟩,
    ⟨none, none, .store 3 (.tmp 4) (.tmp 51), []⟩,
    ⟨(some 5), none, .mov (.cst (AV.int .i64 0)), []⟩]
  .ret))))))))) }
noncomputable def window_Window_Take_g : List (Nat × Fn) := [(13, window_Window_Check), (31, window_Window_move)]
theorem window_Window_Take_eq : denFn (fnsOf window_Window_Take_g) window_Window_Take_c = window_Window_Take := by kernel_rfl
def window_Window_Next_c : CFn := { keep := [2], res := [.tmp 0], body := (.ops [⟨(some 1), none, .box (.tmp 0), []⟩,
    ⟨(some 2), none, .mov (.cst (AV.int .u64 0)), []⟩]
  (.ops [⟨(some 3), none, .fldP 0 (.tmp 1), []⟩,
    ⟨(some 4), none, .load none (.tmp 3), []⟩,
    ⟨(some 2), none, .mov (.tmp 4), []⟩]
  .ret)) }
noncomputable def window_Window_Next_g : List (Nat × Fn) := []
theorem window_Window_Next_eq : denFn (fnsOf window_Window_Next_g) window_Window_Next_c = window_Window_Next := by kernel_rfl
def aditlaw15_alive_c : CFn := { keep := [0], res := [.tmp 0], body := (.ops [⟨(some 0), none, .mov (.cst (AV.bool false)), []⟩]
  (.ops [⟨(some 8), none, .build [.int .u64 0, .int .u64 0, .int .u64 0] [], []⟩,
    ⟨(some 9), none, .call 17 [(.tmp 8), (.cst (AV.int .u64 5))], []⟩,
    ⟨(some 7), none, .mov (.tmp 9), []⟩,
    ⟨(some 10), none, .ext 0 (.tmp 7), []⟩,
    ⟨(some 11), none, .ext 1 (.tmp 7), []⟩,
    ⟨(some 1), none, .alloc [.int .u64 0, .int .u64 0, .int .u64 0], []⟩,
    ⟨none, none, .store 3 (.tmp 1) (.tmp 10), []⟩,
    ⟨(some 2), none, .mov (.tmp 11), []⟩]
  (.ops [⟨(some 13), none, .load (some 3) (.tmp 1), []⟩,
    ⟨(some 14), none, .call 17 [(.tmp 13), (.cst (AV.int .u64 5))], []⟩,
    ⟨(some 12), none, .mov (.tmp 14), []⟩,
    ⟨(some 15), none, .ext 0 (.tmp 12), []⟩,
    ⟨(some 16), none, .ext 1 (.tmp 12), []⟩,
    ⟨(some 3), none, .alloc [.int .u64 0, .int .u64 0, .int .u64 0], []⟩,
    ⟨none, none, .store 3 (.tmp 3) (.tmp 15), []⟩,
    ⟨(some 4), none, .mov (.tmp 16), []⟩]
  (.ops [⟨(some 18), none, .load (some 3) (.tmp 1), []⟩,
    ⟨(some 19), none, .call 17 [(.tmp 18), (.cst (AV.int .u64 200))], []⟩,
    ⟨(some 17), none, .mov (.tmp 19), []⟩,
    ⟨(some 20), none, .ext 0 (.tmp 17), []⟩,
    ⟨(some 21), none, .ext 1 (.tmp 17), []⟩,
    ⟨(some 5), none, .alloc [.int .u64 0, .int .u64 0, .int .u64 0], []⟩,
    ⟨none, none, .store 3 (.tmp 5) (.tmp 20), []⟩,
    ⟨(some 6), none, .mov (.tmp 21), []⟩]
  (.ops [⟨(some 22), none, .mov (.tmp 2), []⟩,
    ⟨(some 23), none, .bin .eql (.tmp 22) (.cst (AV.int .i64 0)), []⟩,
    ⟨(some 24), none, .mov (.tmp 23), []⟩,
    ⟨(some 25), some (24, true), .mov (.tmp 4), []⟩,
    ⟨(some 26), some (24, true), .bin .eql (.tmp 25) (.cst (AV.int .i64 80)), []⟩,
    ⟨(some 27), none, .pick (.tmp 24) (.tmp 26) (.cst (AV.bool false)), []⟩,
    ⟨(some 28), none, .mov (.tmp 27), []⟩,
    ⟨(some 29), some (28, true), .mov (.tmp 6), []⟩,
    ⟨(some 30), some (28, true), .bin .eql (.tmp 29) (.cst (AV.int .i64 0)), []⟩,
    ⟨(some 31), none, .pick (.tmp 28) (.tmp 30) (.cst (AV.bool false)), []⟩,
    ⟨(some 32), none, .mov (.tmp 31), []⟩,
    ⟨(some 33), some (32, true), .load (some 3) (.tmp 5), []⟩,
    ⟨(some 34), some (32, true), .call 13 [(.tmp 33), (.cst (AV.int .u64 72))], []⟩,
    ⟨(some 35), some (32, true), .bin .eql (.tmp 34) (.cst (AV.int .i64 80)), []⟩,
    ⟨(some 36), none, .pick (.tmp 32) (.tmp 35) (.cst (AV.bool false)), []⟩,
    ⟨(some 37), none, .mov (.tmp 36), []⟩,
    ⟨(some 38), some (37, true), .load (some 3) (.tmp 5), []⟩,
    ⟨(some 39), some (37, true), .call 13 [(.tmp 38), (.cst (AV.int .u64 73))], []⟩,
    ⟨(some 40), some (37, true), .bin .eql (.tmp 39) (.cst (AV.int .i64 0)), []⟩,
    ⟨(some 41), none, .pick (.tmp 37) (.tmp 40) (.cst (AV.bool false)), []⟩,
    ⟨(some 42), none, .mov (.tmp 41), []⟩,
    ⟨(some 43), some (42, true), .load (some 3) (.tmp 5), []⟩,
    ⟨(some 44), some (42, true), .call 18 [(.tmp 43)], []⟩,
    ⟨(some 45), some (42, true), .bin .eql (.tmp 44) (.cst (AV.int .u64 201)), []⟩,
    ⟨(some 46), none, .pick (.tmp 42) (.tmp 45) (.cst (AV.bool false)), []⟩,
    ⟨(some 47), none, .mov (.tmp 46), []⟩,
    ⟨(some 48), some (47, true), .load (some 3) (.tmp 1), []⟩,
    ⟨(some 49), some (47, true), .call 15 [(.tmp 48), (.cst (AV.int .u64 5))], []⟩,
    ⟨(some 50), none, .pick (.tmp 47) (.tmp 49) (.cst (AV.bool false)), []⟩,
    ⟨(some 0), none, .mov (.tmp 50), []⟩]
  .ret))))) }
noncomputable def aditlaw15_alive_g : List (Nat × Fn) := [(13, window_Window_Check), (15, window_Window_Has), (17, window_Window_Take), (18, window_Window_Next)]
theorem aditlaw15_alive_eq : denFn (fnsOf aditlaw15_alive_g) aditlaw15_alive_c = aditlaw15_alive := by kernel_rfl
def aditlaw15_WindowLives_c : CFn := { keep := [4], res := [.tmp 0], body := (.ops [⟨(some 4), none, .mov (.cst (AV.bool false)), []⟩]
  (.ops [⟨(some 5), none, .alloc [.int .u64 0, .int .u64 0, .int .u64 0], []⟩]
  (.ops [⟨(some 6), none, .mov (.cst (AV.nsl)), []⟩]
  (.ops [⟨(some 7), none, .mov (.cst (AV.int .i64 0)), []⟩]
  (.seq [4, 6, 7, 8, 9, 10, 11, 12, 13, 14, 15, 16, 17, 18, 19, 20, 21, 22, 23, 24, 25, 26, 27, 28, 29, 30, 31, 32, 33, 34, 35, 36, 37, 38, 39, 40, 41, 42, 43, 44, 45, 46, 47, 48, 49, 50, 51, 52, 53, 54, 55, 56, 57, 58, 59, 60, 61, 62, 63, 64, 65, 66, 67, 68, 69, 70, 71, 72, 73, 74, 75, 76, 77, 78, 79, 80, 81, 82, 83, 84, 85, 86, 87, 88, 89, 90, 91] [4]
  (.block 0 (.loop [4, 6, 7, 8, 9, 10, 11, 12, 13, 14, 15, 16, 17, 18, 19, 20, 21, 22, 23, 24, 25, 26, 27, 28, 29, 30, 31, 32, 33, 34, 35, 36, 37, 38, 39, 40, 41, 42, 43, 44, 45, 46, 47, 48, 49, 50, 51, 52, 53, 54, 55, 56, 57, 58, 59, 60, 61, 62, 63, 64, 65, 66, 67, 68, 69, 70, 71, 72, 73, 74, 75, 76, 77, 78, 79, 80, 81, 82, 83, 84, 85, 86, 87, 88, 89, 90, 91] [4, 6, 7]
    (.ops [⟨(some 10), none, .mov (.tmp 7), []⟩,
       ⟨(some 11), none, .mov (.tmp 0), []⟩,
       ⟨(some 12), none, .len (.tmp 11), []⟩,
       ⟨(some 13), none, .bin .lss (.tmp 10) (.tmp 12), []⟩,
       ⟨(some 14), none, .mov (.tmp 13), []⟩,
       ⟨(some 15), some (14, true), .mov (.tmp 7), []⟩,
       ⟨(some 16), some (14, true), .bin .lss (.tmp 15) (.cst (AV.int .i64 300)), []⟩,
       ⟨(some 17), none, .pick (.tmp 14) (.tmp 16) (.cst (AV.bool false)), []⟩]
     (.seq [] []
     (.cond (.tmp 17)
      .skip
      (.exit 0))
     (.seq [4, 6, 8, 9, 20, 21, 22, 23, 24, 25, 26, 27, 28, 29, 30, 31, 32, 33, 34, 35, 36, 37, 38, 39, 40, 41, 42, 43, 44, 45, 46, 47, 48, 49, 50, 51, 52, 53, 54, 55, 56, 57, 58, 59, 60, 61, 62, 63, 64, 65, 66, 67, 68, 69, 70, 71, 72, 73, 74, 75, 76, 77, 78, 79, 80, 81, 82, 83, 84, 85, 86, 87, 88, 89, 90, 91] [4, 6]
     (.block 1 (.ops [⟨(some 20), none, .load (some 3) (.tmp 5), []⟩,
         ⟨(some 21), none, .mov (.tmp 0), []⟩,
         ⟨(some 22), none, .mov (.tmp 7), []⟩,
         ⟨(some 23), none, .idxS 1 (.tmp 21) (.tmp 22), []⟩,
         ⟨(some 24), none, .load none (.tmp 23), []⟩,
         ⟨(some 26), none, .mov (.tmp 6), []⟩,
         ⟨(some 27), none, .mov (.tmp 0), []⟩,
         ⟨(some 28), none, .mov (.tmp 7), []⟩,
         ⟨(some 29), none, .idxS 1 (.tmp 27) (.tmp 28), []⟩,
         ⟨(some 30), none, .load none (.tmp 29), []⟩,
         ⟨(some 25), none, .call 13 [(.tmp 20), (.tmp 24)], [(.load none (.tmp 29), 30)]⟩,
         ⟨(some 31), none, .call 14 [(.tmp 26), (.tmp 30)], []⟩,
         ⟨(some 32), none, .bin .neq (.tmp 25) (.tmp 31), []⟩,
         ⟨(some 33), none, .mov (.tmp 32), []⟩,
         ⟨(some 34), some (33, false), .load (some 3) (.tmp 5), []⟩,
         ⟨(some 35), some (33, false), .mov (.tmp 1), []⟩,
         ⟨(some 37), some (33, false), .mov (.tmp 6), []⟩,
         ⟨(some 38), some (33, false), .mov (.tmp 1), []⟩,
         ⟨(some 36), some (33, false), .call 13 [(.tmp 34), (.tmp 35)], []⟩,
         ⟨(some 39), some (33, false), .call 14 [(.tmp 37), (.tmp 38)], []⟩,
         ⟨(some 40), some (33, false), .bin .neq (.tmp 36) (.tmp 39), []⟩,
         ⟨(some 41), none, .pick (.tmp 33) (.cst (AV.bool true)) (.tmp 40), []⟩,
         ⟨(some 42), none, .mov (.tmp 41), []⟩,
         ⟨(some 43), some (42, false), .load (some 3) (.tmp 5), []⟩,
         ⟨(some 44), some (42, false), .mov (.tmp 1), []⟩,
         ⟨(some 46), some (42, false), .mov (.tmp 6), []⟩,
         ⟨(some 47), some (42, false), .mov (.tmp 1), []⟩,
         ⟨(some 45), some (42, false), .call 15 [(.tmp 43), (.tmp 44)], []⟩,
         ⟨(some 48), some (42, false), .call 16 [(.tmp 46), (.tmp 47)], []⟩,
         ⟨(some 49), some (42, false), .eqb true (.tmp 45) (.tmp 48), []⟩,
         ⟨(some 50), none, .pick (.tmp 42) (.cst (AV.bool true)) (.tmp 49), []⟩]
       (.seq [4] [4]
       (.cond (.tmp 50)
        (.ops [⟨(some 4), none, .mov (.cst (AV.bool false)), []⟩]
         .ret)
        .skip)
       (.ops [⟨(some 52), none, .load (some 3) (.tmp 5), []⟩,
         ⟨(some 53), none, .mov (.tmp 0), []⟩,
         ⟨(some 54), none, .mov (.tmp 7), []⟩,
         ⟨(some 55), none, .idxS 1 (.tmp 53) (.tmp 54), []⟩,
         ⟨(some 56), none, .load none (.tmp 55), []⟩,
         ⟨(some 57), none, .call 17 [(.tmp 52), (.tmp 56)], []⟩,
         ⟨(some 51), none, .mov (.tmp 57), []⟩,
         ⟨(some 58), none, .ext 0 (.tmp 51), []⟩,
         ⟨(some 59), none, .ext 1 (.tmp 51), []⟩,
         ⟨(some 8), none, .alloc [.int .u64 0, .int .u64 0, .int .u64 0], []⟩,
         ⟨none, none, .store 3 (.tmp 8) (.tmp 58), []⟩,
         ⟨(some 9), none, .mov (.tmp 59), []⟩]
       (.ops [⟨(some 60), none, .mov (.tmp 9), []⟩,
         ⟨(some 61), none, .mov (.tmp 6), []⟩,
         ⟨(some 62), none, .mov (.tmp 0), []⟩,
         ⟨(some 63), none, .mov (.tmp 7), []⟩,
         ⟨(some 64), none, .idxS 1 (.tmp 62) (.tmp 63), []⟩,
         ⟨(some 65), none, .load none (.tmp 64), []⟩,
         ⟨(some 66), none, .call 14 [(.tmp 61), (.tmp 65)], []⟩,
         ⟨(some 67), none, .bin .neq (.tmp 60) (.tmp 66), []⟩,
         ⟨(some 68), none, .mov (.tmp 67), []⟩,
         ⟨(some 69), some (68, false), .mov (.tmp 9), []⟩,
         ⟨(some 70), some (68, false), .bin .neq (.tmp 69) (.cst (AV.int .i64 0)), []⟩,
         ⟨(some 71), some (68, false), .mov (.tmp 70), []⟩,
         ⟨(some 72), some (71, true), .load (some 3) (.tmp 8), []⟩,
         ⟨(some 73), some (71, true), .load (some 3) (.tmp 5), []⟩,
         ⟨(some 74), some (71, true), .eqg true [CK.i, CK.i, CK.i] (.tmp 72) (.tmp 73), []⟩,
         ⟨(some 75), some (68, false), .pick (.tmp 71) (.tmp 74) (.cst (AV.bool false)), []⟩,
         ⟨(some 76), none, .pick (.tmp 68) (.cst (AV.bool true)) (.tmp 75), []⟩]
       (.seq [4] [4]
       (.cond (.tmp 76)
        (.ops [⟨(some 4), none, .mov (.cst (AV.bool false)), []⟩]
         .ret)
        .skip)
       (.ops [⟨(some 77), none, .mov (.tmp 9), []⟩,
         ⟨(some 78), none, .bin .eql (.tmp 77) (.cst (AV.int .i64 0)), []⟩]
       (.seq [6, 79, 80, 81, 82, 83, 84, 85] [6]
       (.cond (.tmp 78)
        (.ops [⟨(some 79), none, .mov (.tmp 6), []⟩,
           ⟨(some 80), none, .mov (.tmp 0), []⟩,
           ⟨(some 81), none, .mov (.tmp 7), []⟩,
           ⟨(some 82), none, .idxS 1 (.tmp 80) (.tmp 81), []⟩,
           ⟨(some 83), none, .load none (.tmp 82), []⟩,
           ⟨(some 84), none, .buildSl [.int .u64 0] 1 1 [(0, 1, (.tmp 83))], []⟩,
           ⟨(some 85), none, .append 1 (.tmp 79) (.tmp 84), []⟩,
           ⟨(some 6), none, .mov (.tmp 85), []⟩]
         .skip)
        .skip)
       (.ops [⟨(some 86), none, .load (some 3) (.tmp 8), []⟩,
         ⟨none, none, .store 3 (.tmp 5) (.tmp 86), []⟩]
       (.ops [⟨(some 87), none, .load (some 3) (.tmp 5), []⟩,
         ⟨(some 88), none, .call 18 [(.tmp 87)], []⟩,
         ⟨(some 89), none, .mov (.tmp 6), []⟩,
         ⟨(some 90), none, .call 19 [(.tmp 89)], []⟩,
         ⟨(some 91), none, .bin .neq (.tmp 88) (.tmp 90), []⟩]
       (.cond (.tmp 91)
       (.ops [⟨(some 4), none, .mov (.cst (AV.bool false)), []⟩]
        .ret)
       .skip)))))))))))
     (.ops [⟨(some 18), none, .mov (.tmp 7), []⟩,
       ⟨(some 19), none, .bin .add (.tmp 18) (.cst (AV.int .i64 1)), []⟩,
       ⟨(some 7), none, .mov (.tmp 19), []⟩]
     .skip))))))
  (.ops [⟨(some 92), none, .call 20 [], []⟩,
    ⟨(some 4), none, .mov (.tmp 92), []⟩]
  .ret)))))) }
noncomputable def aditlaw15_WindowLives_g : List (Nat × Fn) := [(13, window_Window_Check), (14, aditref15_Check), (15, window_Window_Has), (16, aditref15_Has), (17, window_Window_Take), (18, window_Window_Next), (19, aditref15_Greatest), (20, aditlaw15_alive)]
theorem aditlaw15_WindowLives_eq : denFn (fnsOf aditlaw15_WindowLives_g) aditlaw15_WindowLives_c = aditlaw15_WindowLives := by kernel_rfl
end Go.Sx.WindowLivesQ
