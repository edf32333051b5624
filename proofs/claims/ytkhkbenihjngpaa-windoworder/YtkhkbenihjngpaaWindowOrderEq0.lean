import Derived.Test.YtkhkbenihjngpaaShAditlaw15
import Derived.Test.YtkhkbenihjngpaaShWindow
import Derived.Test.YtkhkbenihjngpaaBaseB
import Derived.KernelRfl
set_option linter.all false
namespace Go.Sx.WindowOrderQ
open Go Go.Sx
set_option linter.unusedVariables false
set_option maxRecDepth 100000
def window_Window_Has_c : CFn := { keep := [4], res := [.tmp 0], body := (.ops [⟨(some 2), none, .box (.tmp 0), []⟩,
    ⟨(some 4), none, .mov (.cst (AV.bool false)), []⟩]
  (.ops [⟨(some 6), none, .mov (.tmp 1), []⟩,
    ⟨(some 7), none, .fldP 0 (.tmp 2), []⟩,
    ⟨(some 8), none, .load none (.tmp 7), []⟩,
    ⟨(some 9), none, .bin .geq (.tmp 6) (.tmp 8), []⟩,
    ⟨(some 10), none, .mov (.tmp 9), []⟩,
    ⟨(some 11), some (10, false), .fldP 0 (.tmp 2), []⟩,
    ⟨(some 12), some (10, false), .load none (.tmp 11), []⟩,
    ⟨(some 13), some (10, false), .bin .sub (.tmp 12) (.cst (AV.int .u64 1)), []⟩,
    ⟨(some 14), some (10, false), .mov (.tmp 1), []⟩,
    ⟨(some 15), some (10, false), .bin .sub (.tmp 13) (.tmp 14), []⟩,
    ⟨(some 16), some (10, false), .bin .geq (.tmp 15) (.cst (AV.int .u64 128)), []⟩,
    ⟨(some 17), none, .pick (.tmp 10) (.cst (AV.bool true)) (.tmp 16), []⟩]
  (.seq [4] [4]
  (.cond (.tmp 17)
   (.ops [⟨(some 4), none, .mov (.cst (AV.bool false)), []⟩]
    .ret)
   .skip)
  (.ops [⟨(some 18), none, .fldP 0 (.tmp 2), []⟩,
    ⟨(some 19), none, .load none (.tmp 18), []⟩,
    ⟨(some 20), none, .bin .sub (.tmp 19) (.cst (AV.int .u64 1)), []⟩,
    ⟨(some 21), none, .mov (.tmp 1), []⟩,
    ⟨(some 22), none, .bin .sub (.tmp 20) (.tmp 21), []⟩,
    ⟨(some 5), none, .mov (.tmp 22), []⟩]
  (.ops [⟨(some 23), none, .mov (.tmp 5), []⟩,
    ⟨(some 24), none, .bin .quo (.tmp 23) (.cst (AV.int .u64 64)), []⟩,
    ⟨(some 25), none, .fldP 1 (.tmp 2), []⟩,
    ⟨(some 26), none, .idxP 2 1 (.tmp 25) (.tmp 24), []⟩,
    ⟨(some 27), none, .load none (.tmp 26), []⟩,
    ⟨(some 28), none, .mov (.tmp 5), []⟩,
    ⟨(some 29), none, .bin .rem (.tmp 28) (.cst (AV.int .u64 64)), []⟩,
    ⟨(some 30), none, .bin .shr (.tmp 27) (.tmp 29), []⟩,
    ⟨(some 31), none, .bin .and (.tmp 30) (.cst (AV.int .u64 1)), []⟩,
    ⟨(some 32), none, .bin .eql (.tmp 31) (.cst (AV.int .u64 1)), []⟩,
    ⟨(some 4), none, .mov (.tmp 32), []⟩]
  .ret))))) }
noncomputable def window_Window_Has_g : List (Nat × Fn) := []
theorem window_Window_Has_eq : denFn (fnsOf window_Window_Has_g) window_Window_Has_c = window_Window_Has := by kernel_rfl
def window_Window_Check_c : CFn := { keep := [4], res := [.tmp 0], body := (.ops [⟨(some 2), none, .box (.tmp 0), []⟩,
    ⟨(some 4), none, .mov (.cst (AV.int .i64 0)), []⟩]
  (.seq [4, 5, 6, 7, 8, 9, 10, 11, 12, 13, 14, 15, 16, 17, 18, 19, 20, 21, 22, 23, 24, 25] [4]
  (.block 0 (.ops [⟨(some 6), none, .mov (.tmp 1), []⟩,
      ⟨(some 7), none, .bin .geq (.tmp 6) (.cst (AV.int .u64 18446744073709543423)), []⟩,
      ⟨(some 5), none, .mov (.tmp 7), []⟩]
    (.cond (.tmp 5)
    (.ops [⟨(some 4), none, .mov (.cst (AV.int .i64 81)), []⟩]
     .ret)
    (.ops [⟨(some 9), none, .load (some 3) (.tmp 2), []⟩,
       ⟨(some 10), none, .mov (.tmp 1), []⟩,
       ⟨(some 11), none, .call 15 [(.tmp 9), (.tmp 10)], []⟩,
       ⟨(some 12), none, .mov (.tmp 11), []⟩,
       ⟨(some 13), some (12, false), .mov (.tmp 1), []⟩,
       ⟨(some 14), some (12, false), .fldP 0 (.tmp 2), []⟩,
       ⟨(some 15), some (12, false), .load none (.tmp 14), []⟩,
       ⟨(some 16), some (12, false), .bin .lss (.tmp 13) (.tmp 15), []⟩,
       ⟨(some 17), some (12, false), .mov (.tmp 16), []⟩,
       ⟨(some 18), some (17, true), .fldP 0 (.tmp 2), []⟩,
       ⟨(some 19), some (17, true), .load none (.tmp 18), []⟩,
       ⟨(some 20), some (17, true), .bin .sub (.tmp 19) (.cst (AV.int .u64 1)), []⟩,
       ⟨(some 21), some (17, true), .mov (.tmp 1), []⟩,
       ⟨(some 22), some (17, true), .bin .sub (.tmp 20) (.tmp 21), []⟩,
       ⟨(some 23), some (17, true), .bin .geq (.tmp 22) (.cst (AV.int .u64 128)), []⟩,
       ⟨(some 24), some (12, false), .pick (.tmp 17) (.tmp 23) (.cst (AV.bool false)), []⟩,
       ⟨(some 25), none, .pick (.tmp 12) (.cst (AV.bool true)) (.tmp 24), []⟩,
       ⟨(some 8), none, .mov (.tmp 25), []⟩]
     (.cond (.tmp 8)
     (.ops [⟨(some 4), none, .mov (.cst (AV.int .i64 80)), []⟩]
      .ret)
     .skip)))))
  (.ops [⟨(some 4), none, .mov (.cst (AV.int .i64 0)), []⟩]
  .ret))) }
noncomputable def window_Window_Check_g : List (Nat × Fn) := [(15, window_Window_Has)]
theorem window_Window_Check_eq : denFn (fnsOf window_Window_Check_g) window_Window_Check_c = window_Window_Check := by kernel_rfl
def window_Window_move_c : CFn := { keep := [4], res := [.cell 0 (some 3)], body := (.ops [⟨(some 2), none, .box (.tmp 0), []⟩,
    ⟨(some 4), none, .alloc [.int .u64 0, .int .u64 0, .int .u64 0], []⟩]
  (.ops [⟨(some 5), none, .alloc [.int .u64 0, .int .u64 0], []⟩]
  (.ops [⟨(some 10), none, .mov (.tmp 1), []⟩,
    ⟨(some 11), none, .bin .quo (.tmp 10) (.cst (AV.int .u64 64)), []⟩,
    ⟨(some 12), none, .conv .i64 (.tmp 11), []⟩,
    ⟨(some 13), none, .mov (.tmp 1), []⟩,
    ⟨(some 14), none, .bin .rem (.tmp 13) (.cst (AV.int .u64 64)), []⟩,
    ⟨(some 6), none, .mov (.tmp 12), []⟩,
    ⟨(some 7), none, .mov (.tmp 14), []⟩]
  (.ops [⟨(some 15), none, .mov (.cst (AV.int .i64 0)), []⟩]
  (.seq [8, 9, 15, 16, 17, 18, 19, 20, 21, 22, 23, 24, 25, 26, 27, 28, 29, 30, 31, 32, 33, 34, 35, 36, 37, 38, 39, 40, 41, 42, 43, 44, 45, 46, 47, 48, 49, 50] []
  (.block 0 (.loop [8, 9, 15, 16, 17, 18, 19, 20, 21, 22, 23, 24, 25, 26, 27, 28, 29, 30, 31, 32, 33, 34, 35, 36, 37, 38, 39, 40, 41, 42, 43, 44, 45, 46, 47, 48, 49, 50] [15]
    (.ops [⟨(some 16), none, .bin .lss (.tmp 15) (.cst (AV.int .i64 2)), []⟩]
     (.seq [] []
     (.cond (.tmp 16)
      .skip
      (.exit 0))
     (.seq [8, 9, 17, 18, 19, 20, 21, 22, 23, 24, 25, 26, 27, 28, 29, 30, 31, 32, 33, 34, 35, 36, 37, 38, 39, 40, 41, 42, 43, 44, 45, 46, 47, 48, 49] []
     (.block 1 (.ops [⟨(some 17), none, .mov (.tmp 15), []⟩,
         ⟨(some 8), none, .mov (.tmp 17), []⟩]
       (.ops [⟨(some 18), none, .mov (.tmp 8), []⟩,
         ⟨(some 19), none, .mov (.tmp 6), []⟩,
         ⟨(some 20), none, .bin .sub (.tmp 18) (.tmp 19), []⟩,
         ⟨(some 9), none, .mov (.tmp 20), []⟩]
       (.ops [⟨(some 21), none, .mov (.tmp 9), []⟩,
         ⟨(some 22), none, .bin .geq (.tmp 21) (.cst (AV.int .i64 0)), []⟩]
       (.seq [23, 24, 25, 26, 27, 28, 29, 30] []
       (.cond (.tmp 22)
        (.ops [⟨(some 23), none, .mov (.tmp 8), []⟩,
           ⟨(some 24), none, .mov (.tmp 9), []⟩,
           ⟨(some 25), none, .fldP 1 (.tmp 2), []⟩,
           ⟨(some 26), none, .idxP 2 1 (.tmp 25) (.tmp 24), []⟩,
           ⟨(some 27), none, .load none (.tmp 26), []⟩,
           ⟨(some 28), none, .mov (.tmp 7), []⟩,
           ⟨(some 29), none, .bin .shl (.tmp 27) (.tmp 28), []⟩,
           ⟨(some 30), none, .idxP 2 1 (.tmp 5) (.tmp 23), []⟩,
           ⟨none, none, .store 1 (.tmp 30) (.tmp 29), []⟩]
         .skip)
        .skip)
       (.ops [⟨(some 31), none, .mov (.tmp 9), []⟩,
         ⟨(some 32), none, .bin .gtr (.tmp 31) (.cst (AV.int .i64 0)), []⟩,
         ⟨(some 33), none, .mov (.tmp 32), []⟩,
         ⟨(some 34), some (33, true), .mov (.tmp 7), []⟩,
         ⟨(some 35), some (33, true), .bin .gtr (.tmp 34) (.cst (AV.int .u64 0)), []⟩,
         ⟨(some 36), none, .pick (.tmp 33) (.tmp 35) (.cst (AV.bool false)), []⟩]
       (.cond (.tmp 36)
       (.ops [⟨(some 37), none, .mov (.tmp 8), []⟩,
          ⟨(some 38), none, .idxP 2 1 (.tmp 5) (.tmp 37), []⟩,
          ⟨(some 39), none, .load none (.tmp 38), []⟩,
          ⟨(some 40), none, .mov (.tmp 9), []⟩,
          ⟨(some 41), none, .bin .sub (.tmp 40) (.cst (AV.int .i64 1)), []⟩,
          ⟨(some 42), none, .fldP 1 (.tmp 2), []⟩,
          ⟨(some 43), none, .idxP 2 1 (.tmp 42) (.tmp 41), []⟩,
          ⟨(some 44), none, .load none (.tmp 43), []⟩,
          ⟨(some 45), none, .mov (.tmp 7), []⟩,
          ⟨(some 46), none, .bin .sub (.cst (AV.int .u64 64)) (.tmp 45), []⟩,
          ⟨(some 47), none, .bin .shr (.tmp 44) (.tmp 46), []⟩,
          ⟨(some 48), none, .bin .or (.tmp 39) (.tmp 47), []⟩,
          ⟨(some 49), none, .idxP 2 1 (.tmp 5) (.tmp 37), []⟩,
          ⟨none, none, .store 1 (.tmp 49) (.tmp 48), []⟩]
        .skip)
       .skip)))))))
     (.ops [⟨(some 50), none, .bin .add (.tmp 15) (.cst (AV.int .i64 1)), []⟩,
       ⟨(some 15), none, .mov (.tmp 50), []⟩]
     .skip))))))
  (.ops [⟨(some 51), none, .load (some 2) (.tmp 5), []⟩,
    ⟨(some 52), none, .fldP 1 (.tmp 2), []⟩,
    ⟨none, none, .store 2 (.tmp 52) (.tmp 51), []⟩]
  (.ops [⟨(some 53), none, .load (some 3) (.tmp 2), []⟩,
    ⟨none, none, .store 3 (.tmp 4) (.tmp 53), []⟩]
  .ret))))))) }
noncomputable def window_Window_move_g : List (Nat × Fn) := []
theorem window_Window_move_eq : denFn (fnsOf window_Window_move_g) window_Window_move_c = window_Window_move := by kernel_rfl
def window_Window_Take_c : CFn := { keep := [4, 5], res := [.cell 0 (some 3), .tmp 1], body := (.ops [⟨(some 2), none, .box (.tmp 0), []⟩,
    ⟨(some 4), none, .alloc [.int .u64 0, .int .u64 0, .int .u64 0], []⟩,
    ⟨(some 5), none, .mov (.cst (AV.int .i64 0)), []⟩]
  (.ops [⟨(some 9), none, .load (some 3) (.tmp 2), []⟩,
    ⟨(some 10), none, .mov (.tmp 1), []⟩,
    ⟨(some 11), none, .call 13 [(.tmp 9), (.tmp 10)], []⟩,
    ⟨(some 6), none, .mov (.tmp 11), []⟩]
  (.ops [⟨(some 12), none, .mov (.tmp 6), []⟩,
    ⟨(some 13), none, .bin .neq (.tmp 12) (.cst (AV.int .i64 0)), []⟩]
  (.seq [5, 14, 15] [5]
  (.cond (.tmp 13)
   (.ops [⟨(some 14), none, .load (some 3) (.tmp 2), []⟩,
      ⟨(some 15), none, .mov (.tmp 6), []⟩,
      ⟨none, none, .store 3 (.tmp 4) (.tmp 14), []⟩,
      ⟨(some 5), none, .mov (.tmp 15), []⟩]
    .ret)
   .skip)
  (.ops [⟨(some 16), none, .mov (.tmp 1), []⟩,
    ⟨(some 17), none, .fldP 0 (.tmp 2), []⟩,
    ⟨(some 18), none, .load none (.tmp 17), []⟩,
    ⟨(some 19), none, .bin .geq (.tmp 16) (.tmp 18), []⟩]
  (.seq [7, 20, 21, 22, 23, 24, 25, 26, 27, 28, 29, 30, 31, 32, 33, 34] []
  (.cond (.tmp 19)
   (.ops [⟨(some 20), none, .mov (.tmp 1), []⟩,
      ⟨(some 21), none, .bin .add (.tmp 20) (.cst (AV.int .u64 1)), []⟩,
      ⟨(some 22), none, .fldP 0 (.tmp 2), []⟩,
      ⟨(some 23), none, .load none (.tmp 22), []⟩,
      ⟨(some 24), none, .bin .sub (.tmp 21) (.tmp 23), []⟩,
      ⟨(some 7), none, .mov (.tmp 24), []⟩]
    (.ops [⟨(some 25), none, .mov (.tmp 7), []⟩,
      ⟨(some 26), none, .bin .lss (.tmp 25) (.cst (AV.int .u64 128)), []⟩]
    (.seq [27, 28, 29, 30, 31] []
    (.cond (.tmp 26)
     (.ops [⟨(some 27), none, .load (some 3) (.tmp 2), []⟩,
        ⟨(some 28), none, .mov (.tmp 7), []⟩,
        ⟨(some 29), none, .call 31 [(.tmp 27), (.tmp 28)], []⟩,
        ⟨none, none, .store 3 (.tmp 2) (.tmp 29), []⟩]
      .skip)
     (.ops [⟨(some 30), none, .build [.int .u64 0, .int .u64 0] [], []⟩,
        ⟨(some 31), none, .fldP 1 (.tmp 2), []⟩,
        ⟨none, none, .store 2 (.tmp 31) (.tmp 30), []⟩]
      .skip))
    (.ops [⟨(some 32), none, .mov (.tmp 1), []⟩,
      ⟨(some 33), none, .bin .add (.tmp 32) (.cst (AV.int .u64 1)), []⟩,
      ⟨(some 34), none, .fldP 0 (.tmp 2), []⟩,
      ⟨none, none, .store 1 (.tmp 34) (.tmp 33), []⟩]
    .skip))))
   .skip)
  (.ops [⟨(some 35), none, .fldP 0 (.tmp 2), []⟩,
    ⟨(some 36), none, .load none (.tmp 35), []⟩,
    ⟨(some 37), none, .bin .sub (.tmp 36) (.cst (AV.int .u64 1)), []⟩,
    ⟨(some 38), none, .mov (.tmp 1), []⟩,
    ⟨(some 39), none, .bin .sub (.tmp 37) (.tmp 38), []⟩,
    ⟨(some 8), none, .mov (.tmp 39), []⟩]
  (.ops [⟨(some 40), none, .mov (.tmp 8), []⟩,
    ⟨(some 41), none, .bin .quo (.tmp 40) (.cst (AV.int .u64 64)), []⟩,
    ⟨(some 42), none, .fldP 1 (.tmp 2), []⟩,
    ⟨(some 43), none, .idxP 2 1 (.tmp 42) (.tmp 41), []⟩,
    ⟨(some 44), none, .load none (.tmp 43), []⟩,
    ⟨(some 45), none, .mov (.tmp 8), []⟩,
    ⟨(some 46), none, .bin .rem (.tmp 45) (.cst (AV.int .u64 64)), []⟩,
    ⟨(some 47), none, .bin .shl (.cst (AV.int .u64 1)) (.tmp 46), []⟩,
    ⟨(some 48), none, .bin .or (.tmp 44) (.tmp 47), []⟩,
    ⟨(some 49), none, .fldP 1 (.tmp 2), []⟩,
    ⟨(some 50), none, .idxP 2 1 (.tmp 49) (.tmp 41), []⟩,
    ⟨none, none, .store 1 (.tmp 50) (.tmp 48), []⟩]
  (.ops [⟨(some 51), none, .load (some 3) (.tmp 2), []⟩,
    ⟨none, none, .store 3 (.tmp 4) (.tmp 51), []⟩,
    ⟨(some 5), none, .mov (.cst (AV.int .i64 0)), []⟩]
  .ret))))))))) }
noncomputable def window_Window_Take_g : List (Nat × Fn) := [(13, window_Window_Check), (31, window_Window_move)]
theorem window_Window_Take_eq : denFn (fnsOf window_Window_Take_g) window_Window_Take_c = window_Window_Take := by kernel_rfl
def window_Window_Next_c : CFn := { keep := [2], res := [.tmp 0], body := (.ops [⟨(some 1), none, .box (.tmp 0), []⟩,
    ⟨(some 2), none, .mov (.cst (AV.int .u64 0)), []⟩]
  (.ops [⟨(some 3), none, .fldP 0 (.tmp 1), []⟩,
    ⟨(some 4), none, .load none (.tmp 3), []⟩,
    ⟨(some 2), none, .mov (.tmp 4), []⟩]
  .ret)) }
noncomputable def window_Window_Next_g : List (Nat × Fn) := []
theorem window_Window_Next_eq : denFn (fnsOf window_Window_Next_g) window_Window_Next_c = window_Window_Next := by kernel_rfl
def aditlaw15_alive_c : CFn := { keep := [0], res := [.tmp 0], body := (.ops [⟨(some 0), none, .mov (.cst (AV.bool false)), []⟩]
  (.ops [⟨(some 8), none, .build [.int .u64 0, .int .u64 0, .int .u64 0] [], []⟩,
    ⟨(some 9), none, .call 17 [(.tmp 8), (.cst (AV.int .u64 5))], []⟩,
    ⟨(some 7), none, .mov (.tmp 9), []⟩,
    ⟨(some 10), none, .ext 0 (.tmp 7), []⟩,
    ⟨(some 11), none, .ext 1 (.tmp 7), []⟩,
    ⟨(some 1), none, .alloc [.int .u64 0, .int .u64 0, .int .u64 0], []⟩,
    ⟨none, none, .store 3 (.tmp 1) (.tmp 10), []⟩,
    ⟨(some 2), none, .mov (.tmp 11), []⟩]
  (.ops [⟨(some 13), none, .load (some 3) (.tmp 1), []⟩,
    ⟨(some 14), none, .call 17 [(.tmp 13), (.cst (AV.int .u64 5))], []⟩,
    ⟨(some 12), none, .mov (.tmp 14), []⟩,
    ⟨(some 15), none, .ext 0 (.tmp 12), []⟩,
    ⟨(some 16), none, .ext 1 (.tmp 12), []⟩,
    ⟨(some 3), none, .alloc [.int .u64 0, .int .u64 0, .int .u64 0], []⟩,
    ⟨none, none, .store 3 (.tmp 3) (.tmp 15), []⟩,
    ⟨(some 4), none, .mov (.tmp 16), []⟩]
  (.ops [⟨(some 18), none, .load (some 3) (.tmp 1), []⟩,
    ⟨(some 19), none, .call 17 [(.tmp 18), (.cst (AV.int .u64 200))], []⟩,
    ⟨(some 17), none, .mov (.tmp 19), []⟩,
    ⟨(some 20), none, .ext 0 (.tmp 17), []⟩,
    ⟨(some 21), none, .ext 1 (.tmp 17), []⟩,
    ⟨(some 5), none, .alloc [.int .u64 0, .int .u64 0, .int .u64 0], []⟩,
    ⟨none, none, .store 3 (.tmp 5) (.tmp 20), []⟩,
    ⟨(some 6), none, .mov (.tmp 21), []⟩]
  (.ops [⟨(some 22), none, .mov (.tmp 2), []⟩,
    ⟨(some 23), none, .bin .eql (.tmp 22) (.cst (AV.int .i64 0)), []⟩,
    ⟨(some 24), none, .mov (.tmp 23), []⟩,
    ⟨(some 25), some (24, true), .mov (.tmp 4), []⟩,
    ⟨(some 26), some (24, true), .bin .eql (.tmp 25) (.cst (AV.int .i64 80)), []⟩,
    ⟨(some 27), none, .pick (.tmp 24) (.tmp 26) (.cst (AV.bool false)), []⟩,
    ⟨(some 28), none, .mov (.tmp 27), []⟩,
    ⟨(some 29), some (28, true), .mov (.tmp 6), []⟩,
    ⟨(some 30), some (28, true), .bin .eql (.tmp 29) (.cst (AV.int .i64 0)), []⟩,
    ⟨(some 31), none, .pick (.tmp 28) (.tmp 30) (.cst (AV.bool false)), []⟩,
    ⟨(some 32), none, .mov (.tmp 31), []⟩,
    ⟨(some 33), some (32, true), .load (some 3) (.tmp 5), []⟩,
    ⟨(some 34), some (32, true), .call 13 [(.tmp 33), (.cst (AV.int .u64 72))], []⟩,
    ⟨(some 35), some (32, true), .bin .eql (.tmp 34) (.cst (AV.int .i64 80)), []⟩,
    ⟨(some 36), none, .pick (.tmp 32) (.tmp 35) (.cst (AV.bool false)), []⟩,
    ⟨(some 37), none, .mov (.tmp 36), []⟩,
    ⟨(some 38), some (37, true), .load (some 3) (.tmp 5), []⟩,
    ⟨(some 39), some (37, true), .call 13 [(.tmp 38), (.cst (AV.int .u64 73))], []⟩,
    ⟨(some 40), some (37, true), .bin .eql (.tmp 39) (.cst (AV.int .i64 0)), []⟩,
    ⟨(some 41), none, .pick (.tmp 37) (.tmp 40) (.cst (AV.bool false)), []⟩,
    ⟨(some 42), none, .mov (.tmp 41), []⟩,
    ⟨(some 43), some (42, true), .load (some 3) (.tmp 5), []⟩,
    ⟨(some 44), some (42, true), .call 18 [(.tmp 43)], []⟩,
    ⟨(some 45), some (42, true), .bin .eql (.tmp 44) (.cst (AV.int .u64 201)), []⟩,
    ⟨(some 46), none, .pick (.tmp 42) (.tmp 45) (.cst (AV.bool false)), []⟩,
    ⟨(some 47), none, .mov (.tmp 46), []⟩,
    ⟨(some 48), some (47, true), .load (some 3) (.tmp 1), []⟩,
    ⟨(some 49), some (47, true), .call 15 [(.tmp 48), (.cst (AV.int .u64 5))], []⟩,
    ⟨(some 50), none, .pick (.tmp 47) (.tmp 49) (.cst (AV.bool false)), []⟩,
    ⟨(some 0), none, .mov (.tmp 50), []⟩]
  .ret))))) }
noncomputable def aditlaw15_alive_g : List (Nat × Fn) := [(13, window_Window_Check), (15, window_Window_Has), (17, window_Window_Take), (18, window_Window_Next)]
theorem aditlaw15_alive_eq : denFn (fnsOf aditlaw15_alive_g) aditlaw15_alive_c = aditlaw15_alive := by kernel_rfl
def aditlaw15_WindowOrder_c : CFn := { keep := [6], res := [.tmp 0], body := (.ops [⟨(some 6), none, .mov (.cst (AV.bool false)), []⟩]
  (.ops [⟨(some 14), none, .mov (.tmp 0), []⟩,
    ⟨(some 15), none, .bin .gtr (.tmp 14) (.cst (AV.int .u64 4611686018427387904)), []⟩,
    ⟨(some 16), none, .mov (.tmp 15), []⟩,
    ⟨(some 17), some (16, false), .mov (.tmp 1), []⟩,
    ⟨(some 18), some (16, false), .len (.tmp 17), []⟩,
    ⟨(some 19), some (16, false), .bin .gtr (.tmp 18) (.cst (AV.int .i64 60)), []⟩,
    ⟨(some 20), none, .pick (.tmp 16) (.cst (AV.bool true)) (.tmp 19), []⟩,
    ⟨(some 21), none, .mov (.tmp 20), []⟩,
    ⟨(some 22), some (21, false), .mov (.tmp 1), []⟩,
    ⟨(some 23), some (21, false), .len (.tmp 22), []⟩,
    ⟨(some 24), some (21, false), .bin .eql (.tmp 23) (.cst (AV.int .i64 0)), []⟩,
    ⟨(some 25), none, .pick (.tmp 21) (.cst (AV.bool true)) (.tmp 24), []⟩]
  (.seq [6, 26] [6]
  (.cond (.tmp 25)
   (.ops [⟨(some 26), none, .call 20 [], []⟩,
      ⟨(some 6), none, .mov (.tmp 26), []⟩]
    .ret)
   .skip)
  (.ops [⟨(some 7), none, .alloc [.int .u64 0, .int .u64 0, .int .u64 0], []⟩,
    ⟨(some 8), none, .alloc [.int .u64 0, .int .u64 0, .int .u64 0], []⟩]
  (.ops [⟨(some 9), none, .mov (.cst (AV.int .i64 0)), []⟩]
  (.seq [9, 10, 11, 12, 13, 27, 28, 29, 30, 31, 32, 33, 34, 35, 36, 37, 38, 39, 40, 41, 42, 43, 44, 45, 46, 47, 48, 49, 50, 51, 52, 53, 54, 55, 56, 57, 58, 59, 60, 61, 62, 63, 64, 65, 66] []
  (.block 0 (.loop [9, 10, 11, 12, 13, 27, 28, 29, 30, 31, 32, 33, 34, 35, 36, 37, 38, 39, 40, 41, 42, 43, 44, 45, 46, 47, 48, 49, 50, 51, 52, 53, 54, 55, 56, 57, 58, 59, 60, 61, 62, 63, 64, 65, 66] [9]
    (.ops [⟨(some 27), none, .mov (.tmp 9), []⟩,
       ⟨(some 28), none, .mov (.tmp 1), []⟩,
       ⟨(some 29), none, .len (.tmp 28), []⟩,
       ⟨(some 30), none, .bin .lss (.tmp 27) (.tmp 29), []⟩]
     (.seq [] []
     (.cond (.tmp 30)
      .skip
      (.exit 0))
     (.seq [10, 11, 12, 13, 33, 34, 35, 36, 37, 38, 39, 40, 41, 42, 43, 44, 45, 46, 47, 48, 49, 50, 51, 52, 53, 54, 55, 56, 57, 58, 59, 60, 61, 62, 63, 64, 65, 66] []
     (.block 1 (.ops [⟨(some 34), none, .load (some 3) (.tmp 7), []⟩,
         ⟨(some 35), none, .mov (.tmp 0), []⟩,
         ⟨(some 36), none, .mov (.tmp 1), []⟩,
         ⟨(some 37), none, .mov (.tmp 9), []⟩,
         ⟨(some 38), none, .idxS 1 (.tmp 36) (.tmp 37), []⟩,
         ⟨(some 39), none, .load none (.tmp 38), []⟩,
         ⟨(some 40), none, .bin .and (.tmp 39) (.cst (AV.int .u8 127)), []⟩,
         ⟨(some 41), none, .conv .u64 (.tmp 40), []⟩,
         ⟨(some 42), none, .bin .add (.tmp 35) (.tmp 41), []⟩,
         ⟨(some 43), none, .call 17 [(.tmp 34), (.tmp 42)], []⟩,
         ⟨(some 33), none, .mov (.tmp 43), []⟩,
         ⟨(some 44), none, .ext 0 (.tmp 33), []⟩,
         ⟨(some 45), none, .ext 1 (.tmp 33), []⟩,
         ⟨(some 10), none, .alloc [.int .u64 0, .int .u64 0, .int .u64 0], []⟩,
         ⟨none, none, .store 3 (.tmp 10) (.tmp 44), []⟩,
         ⟨(some 11), none, .mov (.tmp 45), []⟩]
       (.ops [⟨(some 47), none, .load (some 3) (.tmp 8), []⟩,
         ⟨(some 48), none, .mov (.tmp 0), []⟩,
         ⟨(some 49), none, .mov (.tmp 1), []⟩,
         ⟨(some 50), none, .mov (.tmp 9), []⟩,
         ⟨(some 51), none, .mov (.tmp 2), []⟩,
         ⟨(some 52), none, .bin .and (.tmp 51) (.cst (AV.int .i64 1023)), []⟩,
         ⟨(some 53), none, .bin .add (.tmp 50) (.tmp 52), []⟩,
         ⟨(some 54), none, .mov (.tmp 1), []⟩,
         ⟨(some 55), none, .len (.tmp 54), []⟩,
         ⟨(some 56), none, .bin .rem (.tmp 53) (.tmp 55), []⟩,
         ⟨(some 57), none, .idxS 1 (.tmp 49) (.tmp 56), []⟩,
         ⟨(some 58), none, .load none (.tmp 57), []⟩,
         ⟨(some 59), none, .bin .and (.tmp 58) (.cst (AV.int .u8 127)), []⟩,
         ⟨(some 60), none, .conv .u64 (.tmp 59), []⟩,
         ⟨(some 61), none, .bin .add (.tmp 48) (.tmp 60), []⟩,
         ⟨(some 62), none, .call 17 [(.tmp 47), (.tmp 61)], []⟩,
         ⟨(some 46), none, .mov (.tmp 62), []⟩,
         ⟨(some 63), none, .ext 0 (.tmp 46), []⟩,
         ⟨(some 64), none, .ext 1 (.tmp 46), []⟩,
         ⟨(some 12), none, .alloc [.int .u64 0, .int .u64 0, .int .u64 0], []⟩,
         ⟨none, none, .store 3 (.tmp 12) (.tmp 63), []⟩,
         ⟨(some 13), none, .mov (.tmp 64), []⟩]
       (.ops [⟨(some 65), none, .load (some 3) (.tmp 10), []⟩,
         ⟨(some 66), none, .load (some 3) (.tmp 12), []⟩,
         ⟨none, none, .store 3 (.tmp 7) (.tmp 65), [(.load (some 3) (.tmp 12), 66)]⟩,
         ⟨none, none, .store 3 (.tmp 8) (.tmp 66), []⟩]
       .skip))))
     (.ops [⟨(some 31), none, .mov (.tmp 9), []⟩,
       ⟨(some 32), none, .bin .add (.tmp 31) (.cst (AV.int .i64 1)), []⟩,
       ⟨(some 9), none, .mov (.tmp 32), []⟩]
     .skip))))))
  (.ops [⟨(some 67), none, .call 20 [], []⟩,
    ⟨(some 68), none, .mov (.tmp 67), []⟩,
    ⟨(some 69), some (68, true), .load (some 3) (.tmp 7), []⟩,
    ⟨(some 70), some (68, true), .load (some 3) (.tmp 8), []⟩,
    ⟨(some 71), some (68, true), .eqg false [CK.i, CK.i, CK.i] (.tmp 69) (.tmp 70), []⟩,
    ⟨(some 72), none, .pick (.tmp 68) (.tmp 71) (.cst (AV.bool false)), []⟩,
    ⟨(some 73), none, .mov (.tmp 72), []⟩,
    ⟨(some 74), some (73, true), .load (some 3) (.tmp 7), []⟩,
    ⟨(some 75), some (73, true), .call 18 [(.tmp 74)], []⟩,
    ⟨(some 76), some (73, true), .mov (.tmp 0), []⟩,
    ⟨(some 77), some (73, true), .bin .gtr (.tmp 75) (.tmp 76), []⟩,
    ⟨(some 78), none, .pick (.tmp 73) (.tmp 77) (.cst (AV.bool false)), []⟩,
    ⟨(some 6), none, .mov (.tmp 78), []⟩]
  .ret))))))) }
noncomputable def aditlaw15_WindowOrder_g : List (Nat × Fn) := [(17, window_Window_Take), (18, window_Window_Next), (20, aditlaw15_alive)]
theorem aditlaw15_WindowOrder_eq : denFn (fnsOf aditlaw15_WindowOrder_g) aditlaw15_WindowOrder_c = aditlaw15_WindowOrder := by kernel_rfl
end Go.Sx.WindowOrderQ
