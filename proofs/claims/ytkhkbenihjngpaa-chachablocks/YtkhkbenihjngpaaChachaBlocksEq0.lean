import Derived.Test.YtkhkbenihjngpaaShAditlaw02
import Derived.Test.YtkhkbenihjngpaaShAditref01
import Derived.Test.YtkhkbenihjngpaaShAditref02
import Derived.Test.YtkhkbenihjngpaaShChacha
import Derived.Test.YtkhkbenihjngpaaShWords
import Derived.Test.YtkhkbenihjngpaaBaseB
import Derived.KernelRfl
set_option linter.all false
namespace Go.Sx.ChachaBlocksQ
open Go Go.Sx
set_option linter.unusedVariables false
set_option maxRecDepth 100000
def words_Put32_c : CFn := { keep := [2], res := [.cell 0 (some 4)], body := (.ops [⟨(some 2), none, .alloc [.int .u8 0, .int .u8 0, .int .u8 0, .int .u8 0], []⟩]
  (.ops [⟨(some 3), none, .mov (.tmp 0), []⟩,
    ⟨(some 4), none, .conv .u8 (.tmp 3), []⟩,
    ⟨(some 5), none, .mov (.tmp 0), []⟩,
    ⟨(some 6), none, .bin .shr (.tmp 5) (.cst (AV.int .u64 8)), []⟩,
    ⟨(some 7), none, .conv .u8 (.tmp 6), []⟩,
    ⟨(some 8), none, .mov (.tmp 0), []⟩,
    ⟨(some 9), none, .bin .shr (.tmp 8) (.cst (AV.int .u64 16)), []⟩,
    ⟨(some 10), none, .conv .u8 (.tmp 9), []⟩,
    ⟨(some 11), none, .mov (.tmp 0), []⟩,
    ⟨(some 12), none, .bin .shr (.tmp 11) (.cst (AV.int .u64 24)), []⟩,
    ⟨(some 13), none, .conv .u8 (.tmp 12), []⟩,
    ⟨(some 14), none, .build [.int .u8 0, .int .u8 0, .int .u8 0, .int .u8 0] [(0, 1, (.tmp 4)), (1, 1, (.tmp 7)), (2, 1, (.tmp 10)), (3, 1, (.tmp 13))], []⟩,
    ⟨none, none, .store 4 (.tmp 2) (.tmp 14), []⟩]
  .ret)) }
noncomputable def words_Put32_g : List (Nat × Fn) := []
theorem words_Put32_eq : denFn (fnsOf words_Put32_g) words_Put32_c = words_Put32 := by kernel_rfl
def words_reach_c : CFn := { keep := [6], res := [.tmp 0], body := (.ops [⟨(some 6), none, .mov (.cst (AV.int .i64 0)), []⟩]
  (.seq [6, 7, 8, 9, 10, 11, 12, 13, 14, 15, 16, 17, 18, 19, 20, 21, 22] [6]
  (.block 0 (.ops [⟨(some 8), none, .mov (.tmp 1), []⟩,
      ⟨(some 9), none, .bin .lss (.tmp 8) (.cst (AV.int .i64 0)), []⟩,
      ⟨(some 7), none, .mov (.tmp 9), []⟩]
    (.cond (.tmp 7)
    (.ops [⟨(some 6), none, .mov (.cst (AV.int .i64 1)), []⟩]
     .ret)
    (.ops [⟨(some 11), none, .mov (.tmp 1), []⟩,
       ⟨(some 12), none, .mov (.tmp 0), []⟩,
       ⟨(some 13), none, .len (.tmp 12), []⟩,
       ⟨(some 14), none, .bin .gtr (.tmp 11) (.tmp 13), []⟩,
       ⟨(some 15), none, .mov (.tmp 14), []⟩,
       ⟨(some 16), some (15, false), .mov (.tmp 0), []⟩,
       ⟨(some 17), some (15, false), .len (.tmp 16), []⟩,
       ⟨(some 18), some (15, false), .mov (.tmp 1), []⟩,
       ⟨(some 19), some (15, false), .bin .sub (.tmp 17) (.tmp 18), []⟩,
       ⟨(some 20), some (15, false), .mov (.tmp 2), []⟩,
       ⟨(some 21), some (15, false), .bin .lss (.tmp 19) (.tmp 20), []⟩,
       ⟨(some 22), none, .pick (.tmp 15) (.cst (AV.bool true)) (.tmp 21), []⟩,
       ⟨(some 10), none, .mov (.tmp 22), []⟩]
     (.cond (.tmp 10)
     (.ops [⟨(some 6), none, .mov (.cst (AV.int .i64 10)), []⟩]
      .ret)
     .skip)))))
  (.ops [⟨(some 6), none, .mov (.cst (AV.int .i64 0)), []⟩]
  .ret))) }
noncomputable def words_reach_g : List (Nat × Fn) := []
theorem words_reach_eq : denFn (fnsOf words_reach_g) words_reach_c = words_reach := by kernel_rfl
def words_Load32_c : CFn := { keep := [4, 5], res := [.tmp 0, .tmp 1], body := (.ops [⟨(some 4), none, .mov (.cst (AV.int .u32 0)), []⟩,
    ⟨(some 5), none, .mov (.cst (AV.int .i64 0)), []⟩]
  (.ops [⟨(some 7), none, .mov (.tmp 0), []⟩,
    ⟨(some 8), none, .mov (.tmp 1), []⟩,
    ⟨(some 9), none, .call 43 [(.tmp 7), (.tmp 8), (.cst (AV.int .i64 4))], []⟩,
    ⟨(some 6), none, .mov (.tmp 9), []⟩]
  (.ops [⟨(some 10), none, .mov (.tmp 6), []⟩,
    ⟨(some 11), none, .bin .neq (.tmp 10) (.cst (AV.int .i64 0)), []⟩]
  (.seq [4, 5, 12] [4, 5]
  (.cond (.tmp 11)
   (.ops [⟨(some 12), none, .mov (.tmp 6), []⟩,
      ⟨(some 4), none, .mov (.cst (AV.int .u32 0)), []⟩,
      ⟨(some 5), none, .mov (.tmp 12), []⟩]
    .ret)
   .skip)
  (.ops [⟨(some 13), none, .mov (.tmp 0), []⟩,
    ⟨(some 14), none, .mov (.tmp 1), []⟩,
    ⟨(some 15), none, .idxS 1 (.tmp 13) (.tmp 14), []⟩,
    ⟨(some 16), none, .load none (.tmp 15), []⟩,
    ⟨(some 17), none, .conv .u32 (.tmp 16), []⟩,
    ⟨(some 18), none, .mov (.tmp 0), []⟩,
    ⟨(some 19), none, .mov (.tmp 1), []⟩,
    ⟨(some 20), none, .bin .add (.tmp 19) (.cst (AV.int .i64 1)), []⟩,
    ⟨(some 21), none, .idxS 1 (.tmp 18) (.tmp 20), []⟩,
    ⟨(some 22), none, .load none (.tmp 21), []⟩,
    ⟨(some 23), none, .conv .u32 (.tmp 22), []⟩,
    ⟨(some 24), none, .bin .shl (.tmp 23) (.cst (AV.int .u64 8)), []⟩,
    ⟨(some 25), none, .bin .or (.tmp 17) (.tmp 24), []⟩,
    ⟨(some 26), none, .mov (.tmp 0), []⟩,
    ⟨(some 27), none, .mov (.tmp 1), []⟩,
    ⟨(some 28), none, .bin .add (.tmp 27) (.cst (AV.int .i64 2)), []⟩,
    ⟨(some 29), none, .idxS 1 (.tmp 26) (.tmp 28), []⟩,
    ⟨(some 30), none, .load none (.tmp 29), []⟩,
    ⟨(some 31), none, .conv .u32 (.tmp 30), []⟩,
    ⟨(some 32), none, .bin .shl (.tmp 31) (.cst (AV.int .u64 16)), []⟩,
    ⟨(some 33), none, .bin .or (.tmp 25) (.tmp 32), []⟩,
    ⟨(some 34), none, .mov (.tmp 0), []⟩,
    ⟨(some 35), none, .mov (.tmp 1), []⟩,
    ⟨(some 36), none, .bin .add (.tmp 35) (.cst (AV.int .i64 3)), []⟩,
    ⟨(some 37), none, .idxS 1 (.tmp 34) (.tmp 36), []⟩,
    ⟨(some 38), none, .load none (.tmp 37), []⟩,
    ⟨(some 39), none, .conv .u32 (.tmp 38), []⟩,
    ⟨(some 40), none, .bin .shl (.tmp 39) (.cst (AV.int .u64 24)), []⟩,
    ⟨(some 41), none, .bin .or (.tmp 33) (.tmp 40), []⟩,
    ⟨(some 4), none, .mov (.tmp 41), []⟩,
    ⟨(some 5), none, .mov (.cst (AV.int .i64 0)), []⟩]
  .ret))))) }
noncomputable def words_Load32_g : List (Nat × Fn) := [(43, words_reach)]
theorem words_Load32_eq : denFn (fnsOf words_Load32_g) words_Load32_c = words_Load32 := by kernel_rfl
def chacha_first_c : CFn := { keep := [4], res := [.cell 0 (some 16)], body := (.ops [⟨(some 2), none, .box (.tmp 0), []⟩,
    ⟨(some 3), none, .box (.tmp 1), []⟩,
    ⟨(some 4), none, .alloc (List.replicate 16 (.int .u32 0)), []⟩]
  (.ops [⟨(some 8), none, .build (List.replicate 16 (.int .u32 0)) [(0, 1, (.cst (AV.int .u32 1634760805))), (1, 1, (.cst (AV.int .u32 857760878))), (2, 1, (.cst (AV.int .u32 2036477234))), (3, 1, (.cst (AV.int .u32 1797285236)))], []⟩,
    ⟨(some 5), none, .alloc (List.replicate 16 (.int .u32 0)), []⟩,
    ⟨none, none, .store 16 (.tmp 5) (.tmp 8), []⟩]
  (.ops [⟨(some 9), none, .mov (.cst (AV.int .i64 0)), []⟩]
  (.seq [6, 9, 10, 11, 12, 13, 14, 15, 16, 17, 18, 19, 20, 21, 22] []
  (.block 0 (.loop [6, 9, 10, 11, 12, 13, 14, 15, 16, 17, 18, 19, 20, 21, 22] [9]
    (.ops [⟨(some 10), none, .bin .lss (.tmp 9) (.cst (AV.int .i64 8)), []⟩]
     (.seq [] []
     (.cond (.tmp 10)
      .skip
      (.exit 0))
     (.seq [6, 11, 12, 13, 14, 15, 16, 17, 18, 19, 20, 21] []
     (.block 1 (.ops [⟨(some 11), none, .mov (.tmp 9), []⟩,
         ⟨(some 6), none, .mov (.tmp 11), []⟩]
       (.ops [⟨(some 13), none, .mov (.tmp 6), []⟩,
         ⟨(some 14), none, .bin .add (.cst (AV.int .i64 4)) (.tmp 13), []⟩,
         ⟨(some 15), none, .slcP 32 1 (.tmp 2) none none none, []⟩,
         ⟨(some 16), none, .mov (.tmp 6), []⟩,
         ⟨(some 17), none, .bin .mul (.cst (AV.int .i64 4)) (.tmp 16), []⟩,
         ⟨(some 18), none, .call 39 [(.tmp 15), (.tmp 17)], []⟩,
         ⟨(some 12), none, .mov (.tmp 18), []⟩,
         ⟨(some 19), none, .ext 0 (.tmp 12), []⟩,
         ⟨(some 20), none, .ext 1 (.tmp 12), []⟩,
         ⟨(some 21), none, .idxP 16 1 (.tmp 5) (.tmp 14), []⟩,
         ⟨none, none, .store 1 (.tmp 21) (.tmp 19), []⟩]
       .skip)))
     (.ops [⟨(some 22), none, .bin .add (.tmp 9) (.cst (AV.int .i64 1)), []⟩,
       ⟨(some 9), none, .mov (.tmp 22), []⟩]
     .skip))))))
  (.ops [⟨(some 23), none, .mov (.cst (AV.int .i64 0)), []⟩]
  (.seq [7, 23, 24, 25, 26, 27, 28, 29, 30, 31, 32, 33, 34, 35, 36] []
  (.block 2 (.loop [7, 23, 24, 25, 26, 27, 28, 29, 30, 31, 32, 33, 34, 35, 36] [23]
    (.ops [⟨(some 24), none, .bin .lss (.tmp 23) (.cst (AV.int .i64 4)), []⟩]
     (.seq [] []
     (.cond (.tmp 24)
      .skip
      (.exit 2))
     (.seq [7, 25, 26, 27, 28, 29, 30, 31, 32, 33, 34, 35] []
     (.block 3 (.ops [⟨(some 25), none, .mov (.tmp 23), []⟩,
         ⟨(some 7), none, .mov (.tmp 25), []⟩]
       (.ops [⟨(some 27), none, .mov (.tmp 7), []⟩,
         ⟨(some 28), none, .bin .add (.cst (AV.int .i64 12)) (.tmp 27), []⟩,
         ⟨(some 29), none, .slcP 16 1 (.tmp 3) none none none, []⟩,
         ⟨(some 30), none, .mov (.tmp 7), []⟩,
         ⟨(some 31), none, .bin .mul (.cst (AV.int .i64 4)) (.tmp 30), []⟩,
         ⟨(some 32), none, .call 39 [(.tmp 29), (.tmp 31)], []⟩,
         ⟨(some 26), none, .mov (.tmp 32), []⟩,
         ⟨(some 33), none, .ext 0 (.tmp 26), []⟩,
         ⟨(some 34), none, .ext 1 (.tmp 26), []⟩,
         ⟨(some 35), none, .idxP 16 1 (.tmp 5) (.tmp 28), []⟩,
         ⟨none, none, .store 1 (.tmp 35) (.tmp 33), []⟩]
       .skip)))
     (.ops [⟨(some 36), none, .bin .add (.tmp 23) (.cst (AV.int .i64 1)), []⟩,
       ⟨(some 23), none, .mov (.tmp 36), []⟩]
     .skip))))))
  (.ops [⟨(some 37), none, .load (some 16) (.tmp 5), []⟩,
    ⟨none, none, .store 16 (.tmp 4) (.tmp 37), []⟩]
  .ret))))))) }
noncomputable def chacha_first_g : List (Nat × Fn) := [(39, words_Load32)]
theorem chacha_first_eq : denFn (fnsOf chacha_first_g) chacha_first_c = chacha_first := by kernel_rfl
def words_Rotate_c : CFn := { keep := [4], res := [.tmp 0], body := (.ops [⟨(some 4), none, .mov (.cst (AV.int .u32 0)), []⟩]
  (.ops [⟨(some 6), none, .mov (.tmp 1), []⟩,
    ⟨(some 7), none, .conv .u64 (.tmp 6), []⟩,
    ⟨(some 8), none, .bin .and (.tmp 7) (.cst (AV.int .u64 31)), []⟩,
    ⟨(some 5), none, .mov (.tmp 8), []⟩]
  (.ops [⟨(some 9), none, .mov (.tmp 0), []⟩,
    ⟨(some 10), none, .mov (.tmp 5), []⟩,
    ⟨(some 11), none, .bin .shl (.tmp 9) (.tmp 10), []⟩,
    ⟨(some 12), none, .mov (.tmp 0), []⟩,
    ⟨(some 13), none, .mov (.tmp 5), []⟩,
    ⟨(some 14), none, .bin .sub (.cst (AV.int .u64 32)) (.tmp 13), []⟩,
    ⟨(some 15), none, .bin .and (.tmp 14) (.cst (AV.int .u64 31)), []⟩,
    ⟨(some 16), none, .bin .shr (.tmp 12) (.tmp 15), []⟩,
    ⟨(some 17), none, .bin .or (.tmp 11) (.tmp 16), []⟩,
    ⟨(some 4), none, .mov (.tmp 17), []⟩]
  .ret))) }
noncomputable def words_Rotate_g : List (Nat × Fn) := []
theorem words_Rotate_eq : denFn (fnsOf words_Rotate_g) words_Rotate_c = words_Rotate := by kernel_rfl
def chacha_state_quarter_c : CFn := { keep := [], res := [], body := (.ops [⟨(some 14), none, .mov (.tmp 0), []⟩,
    ⟨(some 15), none, .mov (.tmp 1), []⟩,
    ⟨(some 16), none, .nilck (.tmp 14), []⟩,
    ⟨(some 17), none, .idxP 16 1 (.tmp 16) (.tmp 15), []⟩,
    ⟨(some 18), none, .load none (.tmp 17), []⟩,
    ⟨(some 19), none, .mov (.tmp 0), []⟩,
    ⟨(some 20), none, .mov (.tmp 2), []⟩,
    ⟨(some 21), none, .nilck (.tmp 19), []⟩,
    ⟨(some 22), none, .idxP 16 1 (.tmp 21) (.tmp 20), []⟩,
    ⟨(some 23), none, .load none (.tmp 22), []⟩,
    ⟨(some 24), none, .mov (.tmp 0), []⟩,
    ⟨(some 25), none, .mov (.tmp 3), []⟩,
    ⟨(some 26), none, .nilck (.tmp 24), []⟩,
    ⟨(some 27), none, .idxP 16 1 (.tmp 26) (.tmp 25), []⟩,
    ⟨(some 28), none, .load none (.tmp 27), []⟩,
    ⟨(some 29), none, .mov (.tmp 0), []⟩,
    ⟨(some 30), none, .mov (.tmp 4), []⟩,
    ⟨(some 31), none, .nilck (.tmp 29), []⟩,
    ⟨(some 32), none, .idxP 16 1 (.tmp 31) (.tmp 30), []⟩,
    ⟨(some 33), none, .load none (.tmp 32), []⟩,
    ⟨(some 10), none, .mov (.tmp 18), []⟩,
    ⟨(some 11), none, .mov (.tmp 23), []⟩,
    ⟨(some 12), none, .mov (.tmp 28), []⟩,
    ⟨(some 13), none, .mov (.tmp 33), []⟩]
  (.ops [⟨(some 34), none, .mov (.tmp 10), []⟩,
    ⟨(some 35), none, .mov (.tmp 11), []⟩,
    ⟨(some 36), none, .bin .add (.tmp 34) (.tmp 35), []⟩,
    ⟨(some 10), none, .mov (.tmp 36), []⟩]
  (.ops [⟨(some 37), none, .mov (.tmp 13), []⟩,
    ⟨(some 38), none, .mov (.tmp 10), []⟩,
    ⟨(some 39), none, .bin .xor (.tmp 37) (.tmp 38), []⟩,
    ⟨(some 40), none, .call 44 [(.tmp 39), (.cst (AV.int .i64 16))], []⟩,
    ⟨(some 13), none, .mov (.tmp 40), []⟩]
  (.ops [⟨(some 41), none, .mov (.tmp 12), []⟩,
    ⟨(some 42), none, .mov (.tmp 13), []⟩,
    ⟨(some 43), none, .bin .add (.tmp 41) (.tmp 42), []⟩,
    ⟨(some 12), none, .mov (.tmp 43), []⟩]
  (.ops [⟨(some 44), none, .mov (.tmp 11), []⟩,
    ⟨(some 45), none, .mov (.tmp 12), []⟩,
    ⟨(some 46), none, .bin .xor (.tmp 44) (.tmp 45), []⟩,
    ⟨(some 47), none, .call 44 [(.tmp 46), (.cst (AV.int .i64 12))], []⟩,
    ⟨(some 11), none, .mov (.tmp 47), []⟩]
  (.ops [⟨(some 48), none, .mov (.tmp 10), []⟩,
    ⟨(some 49), none, .mov (.tmp 11), []⟩,
    ⟨(some 50), none, .bin .add (.tmp 48) (.tmp 49), []⟩,
    ⟨(some 10), none, .mov (.tmp 50), []⟩]
  (.ops [⟨(some 51), none, .mov (.tmp 13), []⟩,
    ⟨(some 52), none, .mov (.tmp 10), []⟩,
    ⟨(some 53), none, .bin .xor (.tmp 51) (.tmp 52), []⟩,
    ⟨(some 54), none, .call 44 [(.tmp 53), (.cst (AV.int .i64 8))], []⟩,
    ⟨(some 13), none, .mov (.tmp 54), []⟩]
  (.ops [⟨(some 55), none, .mov (.tmp 12), []⟩,
    ⟨(some 56), none, .mov (.tmp 13), []⟩,
    ⟨(some 57), none, .bin .add (.tmp 55) (.tmp 56), []⟩,
    ⟨(some 12), none, .mov (.tmp 57), []⟩]
  (.ops [⟨(some 58), none, .mov (.tmp 11), []⟩,
    ⟨(some 59), none, .mov (.tmp 12), []⟩,
    ⟨(some 60), none, .bin .xor (.tmp 58) (.tmp 59), []⟩,
    ⟨(some 61), none, .call 44 [(.tmp 60), (.cst (AV.int .i64 7))], []⟩,
    ⟨(some 11), none, .mov (.tmp 61), []⟩]
  (.ops [⟨(some 62), none, .mov (.tmp 0), []⟩,
    ⟨(some 63), none, .mov (.tmp 1), []⟩,
    ⟨(some 64), none, .mov (.tmp 0), []⟩,
    ⟨(some 65), none, .mov (.tmp 2), []⟩,
    ⟨(some 66), none, .mov (.tmp 0), []⟩,
    ⟨(some 67), none, .mov (.tmp 3), []⟩,
    ⟨(some 68), none, .mov (.tmp 0), []⟩,
    ⟨(some 69), none, .mov (.tmp 4), []⟩,
    ⟨(some 70), none, .mov (.tmp 10), []⟩,
    ⟨(some 71), none, .mov (.tmp 11), []⟩,
    ⟨(some 72), none, .mov (.tmp 12), []⟩,
    ⟨(some 73), none, .mov (.tmp 13), []⟩,
    ⟨(some 74), none, .nilck (.tmp 62), []⟩,
    ⟨(some 75), none, .idxP 16 1 (.tmp 74) (.tmp 63), []⟩,
    ⟨none, none, .store 1 (.tmp 75) (.tmp 70), []⟩,
    ⟨(some 76), none, .nilck (.tmp 64), []⟩,
    ⟨(some 77), none, .idxP 16 1 (.tmp 76) (.tmp 65), []⟩,
    ⟨none, none, .store 1 (.tmp 77) (.tmp 71), []⟩,
    ⟨(some 78), none, .nilck (.tmp 66), []⟩,
    ⟨(some 79), none, .idxP 16 1 (.tmp 78) (.tmp 67), []⟩,
    ⟨none, none, .store 1 (.tmp 79) (.tmp 72), []⟩,
    ⟨(some 80), none, .nilck (.tmp 68), []⟩,
    ⟨(some 81), none, .idxP 16 1 (.tmp 80) (.tmp 69), []⟩,
    ⟨none, none, .store 1 (.tmp 81) (.tmp 73), []⟩]
  .skip)))))))))) }
noncomputable def chacha_state_quarter_g : List (Nat × Fn) := [(44, words_Rotate)]
theorem chacha_state_quarter_eq : denFn (fnsOf chacha_state_quarter_g) chacha_state_quarter_c = chacha_state_quarter := by kernel_rfl
def chacha_state_rounds_c : CFn := { keep := [], res := [], body := (.ops [⟨(some 4), none, .mov (.cst (AV.int .i64 0)), []⟩]
  (.block 0 (.loop [2, 3, 4, 5, 6, 7, 8, 9, 10, 11, 12, 13, 14, 15, 16, 17, 18, 19, 20, 21, 22, 23, 24, 25, 26, 27, 28, 29, 30, 31, 32, 33, 34, 35, 36, 37, 38] [4]
   (.ops [⟨(some 5), none, .bin .lss (.tmp 4) (.cst (AV.int .i64 10)), []⟩]
    (.seq [] []
    (.cond (.tmp 5)
     .skip
     (.exit 0))
    (.seq [2, 3, 6, 7, 8, 9, 10, 11, 12, 13, 14, 15, 16, 17, 18, 19, 20, 21, 22, 23, 24, 25, 26, 27, 28, 29, 30, 31, 32, 33, 34, 35, 36, 37] []
    (.block 1 (.ops [⟨(some 6), none, .mov (.cst (AV.int .i64 0)), []⟩]
      (.seq [2, 6, 7, 8, 9, 10, 11, 12, 13, 14, 15, 16, 17, 18] []
      (.block 2 (.loop [2, 6, 7, 8, 9, 10, 11, 12, 13, 14, 15, 16, 17, 18] [6]
        (.ops [⟨(some 7), none, .bin .lss (.tmp 6) (.cst (AV.int .i64 4)), []⟩]
         (.seq [] []
         (.cond (.tmp 7)
          .skip
          (.exit 2))
         (.seq [2, 8, 9, 10, 11, 12, 13, 14, 15, 16, 17] []
         (.block 3 (.ops [⟨(some 8), none, .mov (.tmp 6), []⟩,
             ⟨(some 2), none, .mov (.tmp 8), []⟩]
           (.ops [⟨(some 9), none, .mov (.tmp 0), []⟩,
             ⟨(some 10), none, .mov (.tmp 2), []⟩,
             ⟨(some 11), none, .mov (.tmp 2), []⟩,
             ⟨(some 12), none, .bin .add (.tmp 11) (.cst (AV.int .i64 4)), []⟩,
             ⟨(some 13), none, .mov (.tmp 2), []⟩,
             ⟨(some 14), none, .bin .add (.tmp 13) (.cst (AV.int .i64 8)), []⟩,
             ⟨(some 15), none, .mov (.tmp 2), []⟩,
             ⟨(some 16), none, .bin .add (.tmp 15) (.cst (AV.int .i64 12)), []⟩,
             ⟨(some 17), none, .call 40 [(.tmp 9), (.tmp 10), (.tmp 12), (.tmp 14), (.tmp 16)], []⟩]
           .skip)))
         (.ops [⟨(some 18), none, .bin .add (.tmp 6) (.cst (AV.int .i64 1)), []⟩,
           ⟨(some 6), none, .mov (.tmp 18), []⟩]
         .skip))))))
      (.ops [⟨(some 19), none, .mov (.cst (AV.int .i64 0)), []⟩]
      (.block 4 (.loop [3, 19, 20, 21, 22, 23, 24, 25, 26, 27, 28, 29, 30, 31, 32, 33, 34, 35, 36, 37] [19]
       (.ops [⟨(some 20), none, .bin .lss (.tmp 19) (.cst (AV.int .i64 4)), []⟩]
        (.seq [] []
        (.cond (.tmp 20)
         .skip
         (.exit 4))
        (.seq [3, 21, 22, 23, 24, 25, 26, 27, 28, 29, 30, 31, 32, 33, 34, 35, 36] []
        (.block 5 (.ops [⟨(some 21), none, .mov (.tmp 19), []⟩,
            ⟨(some 3), none, .mov (.tmp 21), []⟩]
          (.ops [⟨(some 22), none, .mov (.tmp 0), []⟩,
            ⟨(some 23), none, .mov (.tmp 3), []⟩,
            ⟨(some 24), none, .mov (.tmp 3), []⟩,
            ⟨(some 25), none, .bin .add (.tmp 24) (.cst (AV.int .i64 1)), []⟩,
            ⟨(some 26), none, .bin .rem (.tmp 25) (.cst (AV.int .i64 4)), []⟩,
            ⟨(some 27), none, .bin .add (.cst (AV.int .i64 4)) (.tmp 26), []⟩,
            ⟨(some 28), none, .mov (.tmp 3), []⟩,
            ⟨(some 29), none, .bin .add (.tmp 28) (.cst (AV.int .i64 2)), []⟩,
            ⟨(some 30), none, .bin .rem (.tmp 29) (.cst (AV.int .i64 4)), []⟩,
            ⟨(some 31), none, .bin .add (.cst (AV.int .i64 8)) (.tmp 30), []⟩,
            ⟨(some 32), none, .mov (.tmp 3), []⟩,
            ⟨(some 33), none, .bin .add (.tmp 32) (.cst (AV.int .i64 3)), []⟩,
            ⟨(some 34), none, .bin .rem (.tmp 33) (.cst (AV.int .i64 4)), []⟩,
            ⟨(some 35), none, .bin .add (.cst (AV.int .i64 12)) (.tmp 34), []⟩,
            ⟨(some 36), none, .call 40 [(.tmp 22), (.tmp 23), (.tmp 27), (.tmp 31), (.tmp 35)], []⟩]
          .skip)))
        (.ops [⟨(some 37), none, .bin .add (.tmp 19) (.cst (AV.int .i64 1)), []⟩,
          ⟨(some 19), none, .mov (.tmp 37), []⟩]
        .skip))))))))))
    (.ops [⟨(some 38), none, .bin .add (.tmp 4) (.cst (AV.int .i64 1)), []⟩,
      ⟨(some 4), none, .mov (.tmp 38), []⟩]
    .skip))))))) }
noncomputable def chacha_state_rounds_g : List (Nat × Fn) := [(40, chacha_state_quarter)]
theorem chacha_state_rounds_eq : denFn (fnsOf chacha_state_rounds_g) chacha_state_rounds_c = chacha_state_rounds := by kernel_rfl
def chacha_Block_c : CFn := { keep := [6], res := [.cell 0 (some 64)], body := (.ops [⟨(some 3), none, .box (.tmp 0), []⟩,
    ⟨(some 4), none, .box (.tmp 1), []⟩,
    ⟨(some 6), none, .alloc (List.replicate 64 (.int .u8 0)), []⟩]
  (.ops [⟨(some 7), none, .alloc (List.replicate 16 (.int .u8 0)), []⟩]
  (.ops [⟨(some 14), none, .mov (.tmp 2), []⟩,
    ⟨(some 15), none, .call 32 [(.tmp 14)], []⟩,
    ⟨(some 8), none, .alloc [.int .u8 0, .int .u8 0, .int .u8 0, .int .u8 0], []⟩,
    ⟨none, none, .store 4 (.tmp 8) (.tmp 15), []⟩]
  (.ops [⟨(some 16), none, .slcP 16 1 (.tmp 7) none (some (.cst (AV.int .i64 4))) none, []⟩,
    ⟨(some 17), none, .slcP 4 1 (.tmp 8) none none none, []⟩,
    ⟨(some 18), none, .copy 1 (.tmp 16) (.tmp 17), []⟩]
  (.ops [⟨(some 19), none, .slcP 16 1 (.tmp 7) (some (.cst (AV.int .i64 4))) none none, []⟩,
    ⟨(some 20), none, .slcP 12 1 (.tmp 4) none none none, []⟩,
    ⟨(some 21), none, .copy 1 (.tmp 19) (.tmp 20), []⟩]
  (.ops [⟨(some 22), none, .load (some 32) (.tmp 3), []⟩,
    ⟨(some 23), none, .load (some 16) (.tmp 7), []⟩,
    ⟨(some 24), none, .call 33 [(.tmp 22), (.tmp 23)], []⟩,
    ⟨(some 9), none, .alloc (List.replicate 16 (.int .u32 0)), []⟩,
    ⟨none, none, .store 16 (.tmp 9) (.tmp 24), []⟩]
  (.ops [⟨(some 25), none, .load (some 16) (.tmp 9), []⟩,
    ⟨(some 10), none, .alloc (List.replicate 16 (.int .u32 0)), []⟩,
    ⟨none, none, .store 16 (.tmp 10) (.tmp 25), []⟩]
  (.ops [⟨(some 26), none, .call 34 [(.tmp 9)], []⟩]
  (.ops [⟨(some 11), none, .alloc (List.replicate 64 (.int .u8 0)), []⟩]
  (.ops [⟨(some 27), none, .mov (.cst (AV.int .i64 0)), []⟩]
  (.seq [12, 13, 27, 28, 29, 30, 31, 32, 33, 34, 35, 36, 37, 38, 39, 40, 41, 42, 43] []
  (.block 0 (.loop [12, 13, 27, 28, 29, 30, 31, 32, 33, 34, 35, 36, 37, 38, 39, 40, 41, 42, 43] [27]
    (.ops [⟨(some 28), none, .bin .lss (.tmp 27) (.cst (AV.int .i64 16)), []⟩]
     (.seq [] []
     (.cond (.tmp 28)
      .skip
      (.exit 0))
     (.seq [12, 13, 29, 30, 31, 32, 33, 34, 35, 36, 37, 38, 39, 40, 41, 42] []
     (.block 1 (.ops [⟨(some 29), none, .mov (.tmp 27), []⟩,
         ⟨(some 12), none, .mov (.tmp 29), []⟩]
       (.ops [⟨(some 30), none, .mov (.tmp 12), []⟩,
         ⟨(some 31), none, .idxP 16 1 (.tmp 9) (.tmp 30), []⟩,
         ⟨(some 32), none, .load none (.tmp 31), []⟩,
         ⟨(some 33), none, .mov (.tmp 12), []⟩,
         ⟨(some 34), none, .idxP 16 1 (.tmp 10) (.tmp 33), []⟩,
         ⟨(some 35), none, .load none (.tmp 34), []⟩,
         ⟨(some 36), none, .bin .add (.tmp 32) (.tmp 35), []⟩,
         ⟨(some 37), none, .call 32 [(.tmp 36)], []⟩,
         ⟨(some 13), none, .alloc [.int .u8 0, .int .u8 0, .int .u8 0, .int .u8 0], []⟩,
         ⟨none, none, .store 4 (.tmp 13) (.tmp 37), []⟩]
       (.ops [⟨(some 38), none, .mov (.tmp 12), []⟩,
         ⟨(some 39), none, .bin .mul (.cst (AV.int .i64 4)) (.tmp 38), []⟩,
         ⟨(some 40), none, .slcP 64 1 (.tmp 11) (some (.tmp 39)) none none, []⟩,
         ⟨(some 41), none, .slcP 4 1 (.tmp 13) none none none, []⟩,
         ⟨(some 42), none, .copy 1 (.tmp 40) (.tmp 41), []⟩]
       .skip))))
     (.ops [⟨(some 43), none, .bin .add (.tmp 27) (.cst (AV.int .i64 1)), []⟩,
       ⟨(some 27), none, .mov (.tmp 43), []⟩]
     .skip))))))
  (.ops [⟨(some 44), none, .load (some 64) (.tmp 11), []⟩,
    ⟨none, none, .store 64 (.tmp 6) (.tmp 44), []⟩]
  .ret)))))))))))) }
noncomputable def chacha_Block_g : List (Nat × Fn) := [(32, words_Put32), (33, chacha_first), (34, chacha_state_rounds)]
theorem chacha_Block_eq : denFn (fnsOf chacha_Block_g) chacha_Block_c = chacha_Block := by kernel_rfl
def chacha_Derive_c : CFn := { keep := [4], res := [.cell 0 (some 32)], body := (.ops [⟨(some 2), none, .box (.tmp 0), []⟩,
    ⟨(some 3), none, .box (.tmp 1), []⟩,
    ⟨(some 4), none, .alloc (List.replicate 32 (.int .u8 0)), []⟩]
  (.ops [⟨(some 10), none, .load (some 32) (.tmp 2), []⟩,
    ⟨(some 11), none, .load (some 16) (.tmp 3), []⟩,
    ⟨(some 12), none, .call 33 [(.tmp 10), (.tmp 11)], []⟩,
    ⟨(some 5), none, .alloc (List.replicate 16 (.int .u32 0)), []⟩,
    ⟨none, none, .store 16 (.tmp 5) (.tmp 12), []⟩]
  (.ops [⟨(some 13), none, .call 34 [(.tmp 5)], []⟩]
  (.ops [⟨(some 6), none, .alloc (List.replicate 32 (.int .u8 0)), []⟩]
  (.ops [⟨(some 14), none, .mov (.cst (AV.int .i64 0)), []⟩]
  (.seq [7, 8, 9, 14, 15, 16, 17, 18, 19, 20, 21, 22, 23, 24, 25, 26, 27, 28, 29, 30, 31, 32, 33, 34, 35, 36, 37] []
  (.block 0 (.loop [7, 8, 9, 14, 15, 16, 17, 18, 19, 20, 21, 22, 23, 24, 25, 26, 27, 28, 29, 30, 31, 32, 33, 34, 35, 36, 37] [14]
    (.ops [⟨(some 15), none, .bin .lss (.tmp 14) (.cst (AV.int .i64 4)), []⟩]
     (.seq [] []
     (.cond (.tmp 15)
      .skip
      (.exit 0))
     (.seq [7, 8, 9, 16, 17, 18, 19, 20, 21, 22, 23, 24, 25, 26, 27, 28, 29, 30, 31, 32, 33, 34, 35, 36] []
     (.block 1 (.ops [⟨(some 16), none, .mov (.tmp 14), []⟩,
         ⟨(some 7), none, .mov (.tmp 16), []⟩]
       (.ops [⟨(some 17), none, .mov (.tmp 7), []⟩,
         ⟨(some 18), none, .idxP 16 1 (.tmp 5) (.tmp 17), []⟩,
         ⟨(some 19), none, .load none (.tmp 18), []⟩,
         ⟨(some 21), none, .mov (.tmp 7), []⟩,
         ⟨(some 22), none, .bin .add (.cst (AV.int .i64 12)) (.tmp 21), []⟩,
         ⟨(some 23), none, .idxP 16 1 (.tmp 5) (.tmp 22), []⟩,
         ⟨(some 24), none, .load none (.tmp 23), []⟩,
         ⟨(some 20), none, .call 32 [(.tmp 19)], [(.load none (.tmp 23), 24)]⟩,
         ⟨(some 25), none, .call 32 [(.tmp 24)], []⟩,
         ⟨(some 8), none, .alloc [.int .u8 0, .int .u8 0, .int .u8 0, .int .u8 0], []⟩,
         ⟨(some 9), none, .alloc [.int .u8 0, .int .u8 0, .int .u8 0, .int .u8 0], []⟩,
         ⟨none, none, .store 4 (.tmp 8) (.tmp 20), []⟩,
         ⟨none, none, .store 4 (.tmp 9) (.tmp 25), []⟩]
       (.ops [⟨(some 26), none, .mov (.tmp 7), []⟩,
         ⟨(some 27), none, .bin .mul (.cst (AV.int .i64 4)) (.tmp 26), []⟩,
         ⟨(some 28), none, .slcP 32 1 (.tmp 6) (some (.tmp 27)) none none, []⟩,
         ⟨(some 29), none, .slcP 4 1 (.tmp 8) none none none, []⟩,
         ⟨(some 30), none, .copy 1 (.tmp 28) (.tmp 29), []⟩]
       (.ops [⟨(some 31), none, .mov (.tmp 7), []⟩,
         ⟨(some 32), none, .bin .mul (.cst (AV.int .i64 4)) (.tmp 31), []⟩,
         ⟨(some 33), none, .bin .add (.cst (AV.int .i64 16)) (.tmp 32), []⟩,
         ⟨(some 34), none, .slcP 32 1 (.tmp 6) (some (.tmp 33)) none none, []⟩,
         ⟨(some 35), none, .slcP 4 1 (.tmp 9) none none none, []⟩,
         ⟨(some 36), none, .copy 1 (.tmp 34) (.tmp 35), []⟩]
       .skip)))))
     (.ops [⟨(some 37), none, .bin .add (.tmp 14) (.cst (AV.int .i64 1)), []⟩,
       ⟨(some 14), none, .mov (.tmp 37), []⟩]
     .skip))))))
  (.ops [⟨(some 38), none, .load (some 32) (.tmp 6), []⟩,
    ⟨none, none, .store 32 (.tmp 4) (.tmp 38), []⟩]
  .ret))))))) }
noncomputable def chacha_Derive_g : List (Nat × Fn) := [(32, words_Put32), (33, chacha_first), (34, chacha_state_rounds)]
theorem chacha_Derive_eq : denFn (fnsOf chacha_Derive_g) chacha_Derive_c = chacha_Derive := by kernel_rfl
def chacha_Xor_c : CFn := { keep := [8, 9], res := [.tmp 0, .tmp 1], body := (.ops [⟨(some 4), none, .box (.tmp 0), []⟩,
    ⟨(some 5), none, .box (.tmp 1), []⟩,
    ⟨(some 8), none, .mov (.cst (AV.nsl)), []⟩,
    ⟨(some 9), none, .mov (.cst (AV.int .i64 0)), []⟩]
  (.ops [⟨(some 15), none, .mov (.tmp 3), []⟩,
    ⟨(some 16), none, .len (.tmp 15), []⟩,
    ⟨(some 17), none, .bin .add (.tmp 16) (.cst (AV.int .i64 63)), []⟩,
    ⟨(some 18), none, .conv .u64 (.tmp 17), []⟩,
    ⟨(some 19), none, .bin .quo (.tmp 18) (.cst (AV.int .u64 64)), []⟩,
    ⟨(some 10), none, .mov (.tmp 19), []⟩]
  (.ops [⟨(some 20), none, .mov (.tmp 3), []⟩,
    ⟨(some 21), none, .len (.tmp 20), []⟩,
    ⟨(some 22), none, .bin .gtr (.tmp 21) (.cst (AV.int .i64 65536)), []⟩,
    ⟨(some 23), none, .mov (.tmp 22), []⟩,
    ⟨(some 24), some (23, false), .mov (.tmp 2), []⟩,
    ⟨(some 25), some (23, false), .conv .u64 (.tmp 24), []⟩,
    ⟨(some 26), some (23, false), .mov (.tmp 10), []⟩,
    ⟨(some 27), some (23, false), .bin .add (.tmp 25) (.tmp 26), []⟩,
    ⟨(some 28), some (23, false), .bin .gtr (.tmp 27) (.cst (AV.int .u64 4294967296)), []⟩,
    ⟨(some 29), none, .pick (.tmp 23) (.cst (AV.bool true)) (.tmp 28), []⟩]
  (.seq [8, 9] [8, 9]
  (.cond (.tmp 29)
   (.ops [⟨(some 8), none, .mov (.cst (AV.nsl)), []⟩,
      ⟨(some 9), none, .mov (.cst (AV.int .i64 2)), []⟩]
    .ret)
   .skip)
  (.ops [⟨(some 30), none, .mov (.tmp 3), []⟩,
    ⟨(some 31), none, .len (.tmp 30), []⟩,
    ⟨(some 32), none, .mkSl [.int .u8 0] 1 (.tmp 31) (.tmp 31), []⟩,
    ⟨(some 11), none, .mov (.tmp 32), []⟩]
  (.ops [⟨(some 12), none, .mov (.cst (AV.int .i64 0)), []⟩]
  (.seq [2, 12, 13, 14, 33, 34, 35, 36, 37, 38, 39, 40, 41, 42, 43, 44, 45, 46, 47, 48, 49, 50, 51, 52, 53, 54, 55, 56, 57, 58, 59, 60, 61, 62, 63, 64, 65, 66, 67] []
  (.block 0 (.loop [2, 12, 13, 14, 33, 34, 35, 36, 37, 38, 39, 40, 41, 42, 43, 44, 45, 46, 47, 48, 49, 50, 51, 52, 53, 54, 55, 56, 57, 58, 59, 60, 61, 62, 63, 64, 65, 66, 67] [2, 12]
    (.ops [⟨(some 33), none, .mov (.tmp 12), []⟩,
       ⟨(some 34), none, .mov (.tmp 3), []⟩,
       ⟨(some 35), none, .len (.tmp 34), []⟩,
       ⟨(some 36), none, .bin .lss (.tmp 33) (.tmp 35), []⟩]
     (.seq [] []
     (.cond (.tmp 36)
      .skip
      (.exit 0))
     (.seq [2, 13, 14, 39, 40, 41, 42, 43, 44, 45, 46, 47, 48, 49, 50, 51, 52, 53, 54, 55, 56, 57, 58, 59, 60, 61, 62, 63, 64, 65, 66, 67] [2]
     (.block 1 (.ops [⟨(some 39), none, .load (some 32) (.tmp 4), []⟩,
         ⟨(some 40), none, .load (some 12) (.tmp 5), []⟩,
         ⟨(some 41), none, .mov (.tmp 2), []⟩,
         ⟨(some 42), none, .call 25 [(.tmp 39), (.tmp 40), (.tmp 41)], []⟩,
         ⟨(some 13), none, .alloc (List.replicate 64 (.int .u8 0)), []⟩,
         ⟨none, none, .store 64 (.tmp 13) (.tmp 42), []⟩]
       (.ops [⟨(some 43), none, .mov (.tmp 12), []⟩,
         ⟨(some 14), none, .mov (.tmp 43), []⟩]
       (.seq [14, 44, 45, 46, 47, 48, 49, 50, 51, 52, 53, 54, 55, 56, 57, 58, 59, 60, 61, 62, 63, 64, 65] []
       (.block 2 (.loop [14, 44, 45, 46, 47, 48, 49, 50, 51, 52, 53, 54, 55, 56, 57, 58, 59, 60, 61, 62, 63, 64, 65] [14]
         (.ops [⟨(some 44), none, .mov (.tmp 14), []⟩,
            ⟨(some 45), none, .mov (.tmp 12), []⟩,
            ⟨(some 46), none, .bin .add (.tmp 45) (.cst (AV.int .i64 64)), []⟩,
            ⟨(some 47), none, .mov (.tmp 3), []⟩,
            ⟨(some 48), none, .len (.tmp 47), []⟩,
            ⟨(some 49), none, .min (.tmp 46) [(.tmp 48)], []⟩,
            ⟨(some 50), none, .bin .lss (.tmp 44) (.tmp 49), []⟩]
          (.seq [] []
          (.cond (.tmp 50)
           .skip
           (.exit 2))
          (.seq [53, 54, 55, 56, 57, 58, 59, 60, 61, 62, 63, 64, 65] []
          (.block 3 (.ops [⟨(some 53), none, .mov (.tmp 11), []⟩,
              ⟨(some 54), none, .mov (.tmp 14), []⟩,
              ⟨(some 55), none, .mov (.tmp 3), []⟩,
              ⟨(some 56), none, .mov (.tmp 14), []⟩,
              ⟨(some 57), none, .idxS 1 (.tmp 55) (.tmp 56), []⟩,
              ⟨(some 58), none, .load none (.tmp 57), []⟩,
              ⟨(some 59), none, .mov (.tmp 14), []⟩,
              ⟨(some 60), none, .mov (.tmp 12), []⟩,
              ⟨(some 61), none, .bin .sub (.tmp 59) (.tmp 60), []⟩,
              ⟨(some 62), none, .idxP 64 1 (.tmp 13) (.tmp 61), []⟩,
              ⟨(some 63), none, .load none (.tmp 62), []⟩,
              ⟨(some 64), none, .bin .xor (.tmp 58) (.tmp 63), []⟩,
              ⟨(some 65), none, .idxS 1 (.tmp 53) (.tmp 54), []⟩,
              ⟨none, none, .store 1 (.tmp 65) (.tmp 64), []⟩]
            .skip))
          (.ops [⟨(some 51), none, .mov (.tmp 14), []⟩,
            ⟨(some 52), none, .bin .add (.tmp 51) (.cst (AV.int .i64 1)), []⟩,
            ⟨(some 14), none, .mov (.tmp 52), []⟩]
          .skip))))))
       (.ops [⟨(some 66), none, .mov (.tmp 2), []⟩,
         ⟨(some 67), none, .bin .add (.tmp 66) (.cst (AV.int .u32 1)), []⟩,
         ⟨(some 2), none, .mov (.tmp 67), []⟩]
       .skip)))))
     (.ops [⟨(some 37), none, .mov (.tmp 12), []⟩,
       ⟨(some 38), none, .bin .add (.tmp 37) (.cst (AV.int .i64 64)), []⟩,
       ⟨(some 12), none, .mov (.tmp 38), []⟩]
     .skip))))))
  (.ops [⟨(some 68), none, .mov (.tmp 11), []⟩,
    ⟨(some 8), none, .mov (.tmp 68), []⟩,
    ⟨(some 9), none, .mov (.cst (AV.int .i64 0)), []⟩]
  .ret)))))))) }
noncomputable def chacha_Xor_g : List (Nat × Fn) := [(25, chacha_Block)]
theorem chacha_Xor_eq : denFn (fnsOf chacha_Xor_g) chacha_Xor_c = chacha_Xor := by kernel_rfl
def aditlaw02_alive_c : CFn := { keep := [0], res := [.tmp 0], body := (.ops [⟨(some 0), none, .mov (.cst (AV.bool false)), []⟩]
  (.ops [⟨(some 4), none, .build (List.replicate 32 (.int .u8 0)) [], []⟩,
    ⟨(some 5), none, .build (List.replicate 12 (.int .u8 0)) [], []⟩,
    ⟨(some 6), none, .call 25 [(.tmp 4), (.tmp 5), (.cst (AV.int .u32 0))], []⟩,
    ⟨(some 1), none, .alloc (List.replicate 64 (.int .u8 0)), []⟩,
    ⟨none, none, .store 64 (.tmp 1) (.tmp 6), []⟩]
  (.ops [⟨(some 8), none, .build (List.replicate 32 (.int .u8 0)) [], []⟩,
    ⟨(some 9), none, .build (List.replicate 12 (.int .u8 0)) [], []⟩,
    ⟨(some 10), none, .mkSl [.int .u8 0] 1 (.cst (AV.int .i64 65)) (.cst (AV.int .i64 65)), []⟩,
    ⟨(some 11), none, .call 23 [(.tmp 8), (.tmp 9), (.cst (AV.int .u32 4294967295)), (.tmp 10)], []⟩,
    ⟨(some 7), none, .mov (.tmp 11), []⟩,
    ⟨(some 12), none, .ext 0 (.tmp 7), []⟩,
    ⟨(some 13), none, .ext 1 (.tmp 7), []⟩,
    ⟨(some 2), none, .mov (.tmp 12), []⟩,
    ⟨(some 3), none, .mov (.tmp 13), []⟩]
  (.ops [⟨(some 14), none, .idxP 64 1 (.tmp 1) (.cst (AV.int .i64 0)), []⟩,
    ⟨(some 15), none, .load none (.tmp 14), []⟩,
    ⟨(some 16), none, .bin .eql (.tmp 15) (.cst (AV.int .u8 118)), []⟩,
    ⟨(some 17), none, .mov (.tmp 16), []⟩,
    ⟨(some 18), some (17, true), .idxP 64 1 (.tmp 1) (.cst (AV.int .i64 1)), []⟩,
    ⟨(some 19), some (17, true), .load none (.tmp 18), []⟩,
    ⟨(some 20), some (17, true), .bin .eql (.tmp 19) (.cst (AV.int .u8 184)), []⟩,
    ⟨(some 21), none, .pick (.tmp 17) (.tmp 20) (.cst (AV.bool false)), []⟩,
    ⟨(some 22), none, .mov (.tmp 21), []⟩,
    ⟨(some 23), some (22, true), .idxP 64 1 (.tmp 1) (.cst (AV.int .i64 2)), []⟩,
    ⟨(some 24), some (22, true), .load none (.tmp 23), []⟩,
    ⟨(some 25), some (22, true), .bin .eql (.tmp 24) (.cst (AV.int .u8 224)), []⟩,
    ⟨(some 26), none, .pick (.tmp 22) (.tmp 25) (.cst (AV.bool false)), []⟩,
    ⟨(some 27), none, .mov (.tmp 26), []⟩,
    ⟨(some 28), some (27, true), .idxP 64 1 (.tmp 1) (.cst (AV.int .i64 3)), []⟩,
    ⟨(some 29), some (27, true), .load none (.tmp 28), []⟩,
    ⟨(some 30), some (27, true), .bin .eql (.tmp 29) (.cst (AV.int .u8 173)), []⟩,
    ⟨(some 31), none, .pick (.tmp 27) (.tmp 30) (.cst (AV.bool false)), []⟩,
    ⟨(some 32), none, .mov (.tmp 31), []⟩,
    ⟨(some 33), some (32, true), .mov (.tmp 3), []⟩,
    ⟨(some 34), some (32, true), .bin .eql (.tmp 33) (.cst (AV.int .i64 2)), []⟩,
    ⟨(some 35), none, .pick (.tmp 32) (.tmp 34) (.cst (AV.bool false)), []⟩,
    ⟨(some 0), none, .mov (.tmp 35), []⟩]
  .ret)))) }
noncomputable def aditlaw02_alive_g : List (Nat × Fn) := [(23, chacha_Xor), (25, chacha_Block)]
theorem aditlaw02_alive_eq : denFn (fnsOf aditlaw02_alive_g) aditlaw02_alive_c = aditlaw02_alive := by kernel_rfl
def aditref01_Bytes_c : CFn := { keep := [4], res := [.tmp 0], body := (.ops [⟨(some 4), none, .mov (.cst (AV.nsl)), []⟩]
  (.ops [⟨(some 5), none, .mov (.cst (AV.nsl)), []⟩]
  (.ops [⟨(some 6), none, .mov (.cst (AV.int .i64 0)), []⟩]
  (.seq [0, 5, 6, 7, 8, 9, 10, 11, 12, 13, 14, 15, 16, 17, 18, 19] [5]
  (.block 0 (.loop [0, 5, 6, 7, 8, 9, 10, 11, 12, 13, 14, 15, 16, 17, 18, 19] [0, 5, 6]
    (.ops [⟨(some 7), none, .mov (.tmp 6), []⟩,
       ⟨(some 8), none, .mov (.tmp 1), []⟩,
       ⟨(some 9), none, .bin .lss (.tmp 7) (.tmp 8), []⟩]
     (.seq [] []
     (.cond (.tmp 9)
      .skip
      (.exit 0))
     (.seq [0, 5, 12, 13, 14, 15, 16, 17, 18, 19] [0, 5]
     (.block 1 (.ops [⟨(some 12), none, .mov (.tmp 5), []⟩,
         ⟨(some 13), none, .mov (.tmp 0), []⟩,
         ⟨(some 14), none, .bin .rem (.tmp 13) (.cst (AV.int .u64 256)), []⟩,
         ⟨(some 15), none, .conv .u8 (.tmp 14), []⟩,
         ⟨(some 16), none, .buildSl [.int .u8 0] 1 1 [(0, 1, (.tmp 15))], []⟩,
         ⟨(some 17), none, .append 1 (.tmp 12) (.tmp 16), []⟩,
         ⟨(some 5), none, .mov (.tmp 17), []⟩]
       (.ops [⟨(some 18), none, .mov (.tmp 0), []⟩,
         ⟨(some 19), none, .bin .quo (.tmp 18) (.cst (AV.int .u64 256)), []⟩,
         ⟨(some 0), none, .mov (.tmp 19), []⟩]
       .skip)))
     (.ops [⟨(some 10), none, .mov (.tmp 6), []⟩,
       ⟨(some 11), none, .bin .add (.tmp 10) (.cst (AV.int .i64 1)), []⟩,
       ⟨(some 6), none, .mov (.tmp 11), []⟩]
     .skip))))))
  (.ops [⟨(some 20), none, .mov (.tmp 5), []⟩,
    ⟨(some 4), none, .mov (.tmp 20), []⟩]
  .ret))))) }
noncomputable def aditref01_Bytes_g : List (Nat × Fn) := []
theorem aditref01_Bytes_eq : denFn (fnsOf aditref01_Bytes_g) aditref01_Bytes_c = aditref01_Bytes := by kernel_rfl
def aditref01_Least_c : CFn := { keep := [2], res := [.tmp 0], body := (.ops [⟨(some 2), none, .mov (.cst (AV.int .u64 0)), []⟩]
  (.ops [⟨(some 3), none, .mov (.cst (AV.int .u64 0)), []⟩]
  (.ops [⟨(some 5), none, .mov (.tmp 0), []⟩,
    ⟨(some 6), none, .len (.tmp 5), []⟩,
    ⟨(some 7), none, .bin .sub (.tmp 6) (.cst (AV.int .i64 1)), []⟩,
    ⟨(some 4), none, .mov (.tmp 7), []⟩]
  (.seq [3, 4, 8, 9, 10, 11, 12, 13, 14, 15, 16, 17, 18, 19] [3]
  (.block 0 (.loop [3, 4, 8, 9, 10, 11, 12, 13, 14, 15, 16, 17, 18, 19] [3, 4]
    (.ops [⟨(some 8), none, .mov (.tmp 4), []⟩,
       ⟨(some 9), none, .bin .geq (.tmp 8) (.cst (AV.int .i64 0)), []⟩]
     (.seq [] []
     (.cond (.tmp 9)
      .skip
      (.exit 0))
     (.seq [3, 12, 13, 14, 15, 16, 17, 18, 19] [3]
     (.block 1 (.ops [⟨(some 12), none, .mov (.tmp 3), []⟩,
         ⟨(some 13), none, .bin .mul (.cst (AV.int .u64 256)) (.tmp 12), []⟩,
         ⟨(some 14), none, .mov (.tmp 0), []⟩,
         ⟨(some 15), none, .mov (.tmp 4), []⟩,
         ⟨(some 16), none, .idxS 1 (.tmp 14) (.tmp 15), []⟩,
         ⟨(some 17), none, .load none (.tmp 16), []⟩,
         ⟨(some 18), none, .conv .u64 (.tmp 17), []⟩,
         ⟨(some 19), none, .bin .add (.tmp 13) (.tmp 18), []⟩,
         ⟨(some 3), none, .mov (.tmp 19), []⟩]
       .skip))
     (.ops [⟨(some 10), none, .mov (.tmp 4), []⟩,
       ⟨(some 11), none, .bin .sub (.tmp 10) (.cst (AV.int .i64 1)), []⟩,
       ⟨(some 4), none, .mov (.tmp 11), []⟩]
     .skip))))))
  (.ops [⟨(some 20), none, .mov (.tmp 3), []⟩,
    ⟨(some 2), none, .mov (.tmp 20), []⟩]
  .ret))))) }
noncomputable def aditref01_Least_g : List (Nat × Fn) := []
theorem aditref01_Least_eq : denFn (fnsOf aditref01_Least_g) aditref01_Least_c = aditref01_Least := by kernel_rfl
def aditref02_numbers_c : CFn := { keep := [2], res := [.tmp 0], body := (.ops [⟨(some 2), none, .mov (.cst (AV.nsl)), []⟩]
  (.ops [⟨(some 3), none, .mov (.cst (AV.nsl)), []⟩]
  (.ops [⟨(some 4), none, .mov (.cst (AV.int .i64 0)), []⟩]
  (.seq [3, 4, 5, 6, 7, 8, 9, 10, 11, 12, 13, 14, 15, 16, 17, 18, 19, 20, 21] [3]
  (.block 0 (.loop [3, 4, 5, 6, 7, 8, 9, 10, 11, 12, 13, 14, 15, 16, 17, 18, 19, 20, 21] [3, 4]
    (.ops [⟨(some 5), none, .mov (.tmp 4), []⟩,
       ⟨(some 6), none, .bin .add (.tmp 5) (.cst (AV.int .i64 4)), []⟩,
       ⟨(some 7), none, .mov (.tmp 0), []⟩,
       ⟨(some 8), none, .len (.tmp 7), []⟩,
       ⟨(some 9), none, .bin .leq (.tmp 6) (.tmp 8), []⟩]
     (.seq [] []
     (.cond (.tmp 9)
      .skip
      (.exit 0))
     (.seq [3, 12, 13, 14, 15, 16, 17, 18, 19, 20, 21] [3]
     (.block 1 (.ops [⟨(some 12), none, .mov (.tmp 3), []⟩,
         ⟨(some 13), none, .mov (.tmp 0), []⟩,
         ⟨(some 14), none, .mov (.tmp 4), []⟩,
         ⟨(some 15), none, .mov (.tmp 4), []⟩,
         ⟨(some 16), none, .bin .add (.tmp 15) (.cst (AV.int .i64 4)), []⟩,
         ⟨(some 17), none, .slcS 1 (.tmp 13) (some (.tmp 14)) (some (.tmp 16)) none, []⟩,
         ⟨(some 18), none, .call 45 [(.tmp 17)], []⟩,
         ⟨(some 19), none, .conv .u32 (.tmp 18), []⟩,
         ⟨(some 20), none, .buildSl [.int .u32 0] 1 1 [(0, 1, (.tmp 19))], []⟩,
         ⟨(some 21), none, .append 1 (.tmp 12) (.tmp 20), []⟩,
         ⟨(some 3), none, .mov (.tmp 21), []⟩]
       .skip))
     (.ops [⟨(some 10), none, .mov (.tmp 4), []⟩,
       ⟨(some 11), none, .bin .add (.tmp 10) (.cst (AV.int .i64 4)), []⟩,
       ⟨(some 4), none, .mov (.tmp 11), []⟩]
     .skip))))))
  (.ops [⟨(some 22), none, .mov (.tmp 3), []⟩,
    ⟨(some 2), none, .mov (.tmp 22), []⟩]
  .ret))))) }
noncomputable def aditref02_numbers_g : List (Nat × Fn) := [(45, aditref01_Least)]
theorem aditref02_numbers_eq : denFn (fnsOf aditref02_numbers_g) aditref02_numbers_c = aditref02_numbers := by kernel_rfl
def aditref02_First_c : CFn := { keep := [4], res := [.tmp 0], body := (.ops [⟨(some 4), none, .mov (.cst (AV.nsl)), []⟩]
  (.ops [⟨(some 6), none, .buildSl [.int .u32 0] 4 1 [(0, 1, (.cst (AV.int .u32 1634760805))), (1, 1, (.cst (AV.int .u32 857760878))), (2, 1, (.cst (AV.int .u32 2036477234))), (3, 1, (.cst (AV.int .u32 1797285236)))], []⟩,
    ⟨(some 5), none, .mov (.tmp 6), []⟩]
  (.ops [⟨(some 7), none, .mov (.tmp 5), []⟩,
    ⟨(some 8), none, .mov (.tmp 0), []⟩,
    ⟨(some 9), none, .call 41 [(.tmp 8)], []⟩,
    ⟨(some 10), none, .append 1 (.tmp 7) (.tmp 9), []⟩,
    ⟨(some 5), none, .mov (.tmp 10), []⟩]
  (.ops [⟨(some 11), none, .mov (.tmp 5), []⟩,
    ⟨(some 12), none, .mov (.tmp 1), []⟩,
    ⟨(some 13), none, .call 41 [(.tmp 12)], []⟩,
    ⟨(some 14), none, .append 1 (.tmp 11) (.tmp 13), []⟩,
    ⟨(some 4), none, .mov (.tmp 14), []⟩]
  .ret)))) }
noncomputable def aditref02_First_g : List (Nat × Fn) := [(41, aditref02_numbers)]
theorem aditref02_First_eq : denFn (fnsOf aditref02_First_g) aditref02_First_c = aditref02_First := by kernel_rfl
def aditref01_Rotate_c : CFn := { keep := [4], res := [.tmp 0], body := (.ops [⟨(some 4), none, .mov (.cst (AV.int .u32 0)), []⟩]
  (.ops [⟨(some 7), none, .mov (.tmp 1), []⟩,
    ⟨(some 8), none, .bin .rem (.tmp 7) (.cst (AV.int .i64 32)), []⟩,
    ⟨(some 1), none, .mov (.tmp 8), []⟩]
  (.ops [⟨(some 9), none, .mov (.tmp 1), []⟩,
    ⟨(some 10), none, .bin .lss (.tmp 9) (.cst (AV.int .i64 0)), []⟩]
  (.seq [1, 11, 12] [1]
  (.cond (.tmp 10)
   (.ops [⟨(some 11), none, .mov (.tmp 1), []⟩,
      ⟨(some 12), none, .bin .add (.tmp 11) (.cst (AV.int .i64 32)), []⟩,
      ⟨(some 1), none, .mov (.tmp 12), []⟩]
    .skip)
   .skip)
  (.ops [⟨(some 5), none, .mov (.cst (AV.int .i64 0)), []⟩]
  (.seq [0, 5, 6, 13, 14, 15, 16, 17, 18, 19, 20, 21, 22, 23] [0]
  (.block 0 (.loop [0, 5, 6, 13, 14, 15, 16, 17, 18, 19, 20, 21, 22, 23] [0, 5]
    (.ops [⟨(some 13), none, .mov (.tmp 5), []⟩,
       ⟨(some 14), none, .mov (.tmp 1), []⟩,
       ⟨(some 15), none, .bin .lss (.tmp 13) (.tmp 14), []⟩]
     (.seq [] []
     (.cond (.tmp 15)
      .skip
      (.exit 0))
     (.seq [0, 6, 18, 19, 20, 21, 22, 23] [0]
     (.block 1 (.ops [⟨(some 18), none, .mov (.tmp 0), []⟩,
         ⟨(some 19), none, .bin .quo (.tmp 18) (.cst (AV.int .u32 2147483648)), []⟩,
         ⟨(some 6), none, .mov (.tmp 19), []⟩]
       (.ops [⟨(some 20), none, .mov (.tmp 0), []⟩,
         ⟨(some 21), none, .bin .mul (.cst (AV.int .u32 2)) (.tmp 20), []⟩,
         ⟨(some 22), none, .mov (.tmp 6), []⟩,
         ⟨(some 23), none, .bin .add (.tmp 21) (.tmp 22), []⟩,
         ⟨(some 0), none, .mov (.tmp 23), []⟩]
       .skip)))
     (.ops [⟨(some 16), none, .mov (.tmp 5), []⟩,
       ⟨(some 17), none, .bin .add (.tmp 16) (.cst (AV.int .i64 1)), []⟩,
       ⟨(some 5), none, .mov (.tmp 17), []⟩]
     .skip))))))
  (.ops [⟨(some 24), none, .mov (.tmp 0), []⟩,
    ⟨(some 4), none, .mov (.tmp 24), []⟩]
  .ret))))))) }
noncomputable def aditref01_Rotate_g : List (Nat × Fn) := []
theorem aditref01_Rotate_eq : denFn (fnsOf aditref01_Rotate_g) aditref01_Rotate_c = aditref01_Rotate := by kernel_rfl
def aditref02_quarter_c : CFn := { keep := [], res := [], body := (.ops [⟨(some 10), none, .mov (.tmp 0), []⟩,
    ⟨(some 11), none, .mov (.tmp 1), []⟩,
    ⟨(some 12), none, .mov (.tmp 0), []⟩,
    ⟨(some 13), none, .mov (.tmp 1), []⟩,
    ⟨(some 14), none, .idxS 1 (.tmp 12) (.tmp 13), []⟩,
    ⟨(some 15), none, .load none (.tmp 14), []⟩,
    ⟨(some 16), none, .mov (.tmp 0), []⟩,
    ⟨(some 17), none, .mov (.tmp 2), []⟩,
    ⟨(some 18), none, .idxS 1 (.tmp 16) (.tmp 17), []⟩,
    ⟨(some 19), none, .load none (.tmp 18), []⟩,
    ⟨(some 20), none, .bin .add (.tmp 15) (.tmp 19), []⟩,
    ⟨(some 21), none, .idxS 1 (.tmp 10) (.tmp 11), []⟩,
    ⟨none, none, .store 1 (.tmp 21) (.tmp 20), []⟩]
  (.ops [⟨(some 22), none, .mov (.tmp 0), []⟩,
    ⟨(some 23), none, .mov (.tmp 4), []⟩,
    ⟨(some 24), none, .mov (.tmp 0), []⟩,
    ⟨(some 25), none, .mov (.tmp 4), []⟩,
    ⟨(some 26), none, .idxS 1 (.tmp 24) (.tmp 25), []⟩,
    ⟨(some 27), none, .load none (.tmp 26), []⟩,
    ⟨(some 28), none, .mov (.tmp 0), []⟩,
    ⟨(some 29), none, .mov (.tmp 1), []⟩,
    ⟨(some 30), none, .idxS 1 (.tmp 28) (.tmp 29), []⟩,
    ⟨(some 31), none, .load none (.tmp 30), []⟩,
    ⟨(some 32), none, .bin .xor (.tmp 27) (.tmp 31), []⟩,
    ⟨(some 33), none, .call 46 [(.tmp 32), (.cst (AV.int .i64 16))], []⟩,
    ⟨(some 34), none, .idxS 1 (.tmp 22) (.tmp 23), []⟩,
    ⟨none, none, .store 1 (.tmp 34) (.tmp 33), []⟩]
  (.ops [⟨(some 35), none, .mov (.tmp 0), []⟩,
    ⟨(some 36), none, .mov (.tmp 3), []⟩,
    ⟨(some 37), none, .mov (.tmp 0), []⟩,
    ⟨(some 38), none, .mov (.tmp 3), []⟩,
    ⟨(some 39), none, .idxS 1 (.tmp 37) (.tmp 38), []⟩,
    ⟨(some 40), none, .load none (.tmp 39), []⟩,
    ⟨(some 41), none, .mov (.tmp 0), []⟩,
    ⟨(some 42), none, .mov (.tmp 4), []⟩,
    ⟨(some 43), none, .idxS 1 (.tmp 41) (.tmp 42), []⟩,
    ⟨(some 44), none, .load none (.tmp 43), []⟩,
    ⟨(some 45), none, .bin .add (.tmp 40) (.tmp 44), []⟩,
    ⟨(some 46), none, .idxS 1 (.tmp 35) (.tmp 36), []⟩,
    ⟨none, none, .store 1 (.tmp 46) (.tmp 45), []⟩]
  (.ops [⟨(some 47), none, .mov (.tmp 0), []⟩,
    ⟨(some 48), none, .mov (.tmp 2), []⟩,
    ⟨(some 49), none, .mov (.tmp 0), []⟩,
    ⟨(some 50), none, .mov (.tmp 2), []⟩,
    ⟨(some 51), none, .idxS 1 (.tmp 49) (.tmp 50), []⟩,
    ⟨(some 52), none, .load none (.tmp 51), []⟩,
    ⟨(some 53), none, .mov (.tmp 0), []⟩,
    ⟨(some 54), none, .mov (.tmp 3), []⟩,
    ⟨(some 55), none, .idxS 1 (.tmp 53) (.tmp 54), []⟩,
    ⟨(some 56), none, .load none (.tmp 55), []⟩,
    ⟨(some 57), none, .bin .xor (.tmp 52) (.tmp 56), []⟩,
    ⟨(some 58), none, .call 46 [(.tmp 57), (.cst (AV.int .i64 12))], []⟩,
    ⟨(some 59), none, .idxS 1 (.tmp 47) (.tmp 48), []⟩,
    ⟨none, none, .store 1 (.tmp 59) (.tmp 58), []⟩]
  (.ops [⟨(some 60), none, .mov (.tmp 0), []⟩,
    ⟨(some 61), none, .mov (.tmp 1), []⟩,
    ⟨(some 62), none, .mov (.tmp 0), []⟩,
    ⟨(some 63), none, .mov (.tmp 1), []⟩,
    ⟨(some 64), none, .idxS 1 (.tmp 62) (.tmp 63), []⟩,
    ⟨(some 65), none, .load none (.tmp 64), []⟩,
    ⟨(some 66), none, .mov (.tmp 0), []⟩,
    ⟨(some 67), none, .mov (.tmp 2), []⟩,
    ⟨(some 68), none, .idxS 1 (.tmp 66) (.tmp 67), []⟩,
    ⟨(some 69), none, .load none (.tmp 68), []⟩,
    ⟨(some 70), none, .bin .add (.tmp 65) (.tmp 69), []⟩,
    ⟨(some 71), none, .idxS 1 (.tmp 60) (.tmp 61), []⟩,
    ⟨none, none, .store 1 (.tmp 71) (.tmp 70), []⟩]
  (.ops [⟨(some 72), none, .mov (.tmp 0), []⟩,
    ⟨(some 73), none, .mov (.tmp 4), []⟩,
    ⟨(some 74), none, .mov (.tmp 0), []⟩,
    ⟨(some 75), none, .mov (.tmp 4), []⟩,
    ⟨(some 76), none, .idxS 1 (.tmp 74) (.tmp 75), []⟩,
    ⟨(some 77), none, .load none (.tmp 76), []⟩,
    ⟨(some 78), none, .mov (.tmp 0), []⟩,
    ⟨(some 79), none, .mov (.tmp 1), []⟩,
    ⟨(some 80), none, .idxS 1 (.tmp 78) (.tmp 79), []⟩,
    ⟨(some 81), none, .load none (.tmp 80), []⟩,
    ⟨(some 82), none, .bin .xor (.tmp 77) (.tmp 81), []⟩,
    ⟨(some 83), none, .call 46 [(.tmp 82), (.cst (AV.int .i64 8))], []⟩,
    ⟨(some 84), none, .idxS 1 (.tmp 72) (.tmp 73), []⟩,
    ⟨none, none, .store 1 (.tmp 84) (.tmp 83), []⟩]
  (.ops [⟨(some 85), none, .mov (.tmp 0), []⟩,
    ⟨(some 86), none, .mov (.tmp 3), []⟩,
    ⟨(some 87), none, .mov (.tmp 0), []⟩,
    ⟨(some 88), none, .mov (.tmp 3), []⟩,
    ⟨(some 89), none, .idxS 1 (.tmp 87) (.tmp 88), []⟩,
    ⟨(some 90), none, .load none (.tmp 89), []⟩,
    ⟨(some 91), none, .mov (.tmp 0), []⟩,
    ⟨(some 92), none, .mov (.tmp 4), []⟩,
    ⟨(some 93), none, .idxS 1 (.tmp 91) (.tmp 92), []⟩,
    ⟨(some 94), none, .load none (.tmp 93), []⟩,
    ⟨(some 95), none, .bin .add (.tmp 90) (.tmp 94), []⟩,
    ⟨(some 96), none, .idxS 1 (.tmp 85) (.tmp 86), []⟩,
    ⟨none, none, .store 1 (.tmp 96) (.tmp 95), []⟩]
  (.ops [⟨(some 97), none, .mov (.tmp 0), []⟩,
    ⟨(some 98), none, .mov (.tmp 2), []⟩,
    ⟨(some 99), none, .mov (.tmp 0), []⟩,
    ⟨(some 100), none, .mov (.tmp 2), []⟩,
    ⟨(some 101), none, .idxS 1 (.tmp 99) (.tmp 100), []⟩,
    ⟨(some 102), none, .load none (.tmp 101), []⟩,
    ⟨(some 103), none, .mov (.tmp 0), []⟩,
    ⟨(some 104), none, .mov (.tmp 3), []⟩,
    ⟨(some 105), none, .idxS 1 (.tmp 103) (.tmp 104), []⟩,
    ⟨(some 106), none, .load none (.tmp 105), []⟩,
    ⟨(some 107), none, .bin .xor (.tmp 102) (.tmp 106), []⟩,
    ⟨(some 108), none, .call 46 [(.tmp 107), (.cst (AV.int .i64 7))], []⟩,
    ⟨(some 109), none, .idxS 1 (.tmp 97) (.tmp 98), []⟩,
    ⟨none, none, .store 1 (.tmp 109) (.tmp 108), []⟩]
  .skip)))))))) }
noncomputable def aditref02_quarter_g : List (Nat × Fn) := [(46, aditref01_Rotate)]
theorem aditref02_quarter_eq : denFn (fnsOf aditref02_quarter_g) aditref02_quarter_c = aditref02_quarter := by kernel_rfl
def aditref02_two_c : CFn := { keep := [], res := [], body := (.ops [⟨(some 2), none, .mov (.tmp 0), []⟩,
    ⟨(some 3), none, .call 42 [(.tmp 2), (.cst (AV.int .i64 0)), (.cst (AV.int .i64 4)), (.cst (AV.int .i64 8)), (.cst (AV.int .i64 12))], []⟩]
  (.ops [⟨(some 4), none, .mov (.tmp 0), []⟩,
    ⟨(some 5), none, .call 42 [(.tmp 4), (.cst (AV.int .i64 1)), (.cst (AV.int .i64 5)), (.cst (AV.int .i64 9)), (.cst (AV.int .i64 13))], []⟩]
  (.ops [⟨(some 6), none, .mov (.tmp 0), []⟩,
    ⟨(some 7), none, .call 42 [(.tmp 6), (.cst (AV.int .i64 2)), (.cst (AV.int .i64 6)), (.cst (AV.int .i64 10)), (.cst (AV.int .i64 14))], []⟩]
  (.ops [⟨(some 8), none, .mov (.tmp 0), []⟩,
    ⟨(some 9), none, .call 42 [(.tmp 8), (.cst (AV.int .i64 3)), (.cst (AV.int .i64 7)), (.cst (AV.int .i64 11)), (.cst (AV.int .i64 15))], []⟩]
  (.ops [⟨(some 10), none, .mov (.tmp 0), []⟩,
    ⟨(some 11), none, .call 42 [(.tmp 10), (.cst (AV.int .i64 0)), (.cst (AV.int .i64 5)), (.cst (AV.int .i64 10)), (.cst (AV.int .i64 15))], []⟩]
  (.ops [⟨(some 12), none, .mov (.tmp 0), []⟩,
    ⟨(some 13), none, .call 42 [(.tmp 12), (.cst (AV.int .i64 1)), (.cst (AV.int .i64 6)), (.cst (AV.int .i64 11)), (.cst (AV.int .i64 12))], []⟩]
  (.ops [⟨(some 14), none, .mov (.tmp 0), []⟩,
    ⟨(some 15), none, .call 42 [(.tmp 14), (.cst (AV.int .i64 2)), (.cst (AV.int .i64 7)), (.cst (AV.int .i64 8)), (.cst (AV.int .i64 13))], []⟩]
  (.ops [⟨(some 16), none, .mov (.tmp 0), []⟩,
    ⟨(some 17), none, .call 42 [(.tmp 16), (.cst (AV.int .i64 3)), (.cst (AV.int .i64 4)), (.cst (AV.int .i64 9)), (.cst (AV.int .i64 14))], []⟩]
  .skip)))))))) }
noncomputable def aditref02_two_g : List (Nat × Fn) := [(42, aditref02_quarter)]
theorem aditref02_two_eq : denFn (fnsOf aditref02_two_g) aditref02_two_c = aditref02_two := by kernel_rfl
def aditref02_bytes_c : CFn := { keep := [2], res := [.tmp 0], body := (.ops [⟨(some 2), none, .mov (.cst (AV.nsl)), []⟩]
  (.ops [⟨(some 3), none, .mov (.cst (AV.nsl)), []⟩]
  (.ops [⟨(some 4), none, .mov (.cst (AV.int .i64 0)), []⟩]
  (.seq [3, 4, 5, 6, 7, 8, 9, 10, 11, 12, 13, 14, 15, 16, 17, 18] [3]
  (.block 0 (.loop [3, 4, 5, 6, 7, 8, 9, 10, 11, 12, 13, 14, 15, 16, 17, 18] [3, 4]
    (.ops [⟨(some 5), none, .mov (.tmp 4), []⟩,
       ⟨(some 6), none, .mov (.tmp 0), []⟩,
       ⟨(some 7), none, .len (.tmp 6), []⟩,
       ⟨(some 8), none, .bin .lss (.tmp 5) (.tmp 7), []⟩]
     (.seq [] []
     (.cond (.tmp 8)
      .skip
      (.exit 0))
     (.seq [3, 11, 12, 13, 14, 15, 16, 17, 18] [3]
     (.block 1 (.ops [⟨(some 11), none, .mov (.tmp 3), []⟩,
         ⟨(some 12), none, .mov (.tmp 0), []⟩,
         ⟨(some 13), none, .mov (.tmp 4), []⟩,
         ⟨(some 14), none, .idxS 1 (.tmp 12) (.tmp 13), []⟩,
         ⟨(some 15), none, .load none (.tmp 14), []⟩,
         ⟨(some 16), none, .conv .u64 (.tmp 15), []⟩,
         ⟨(some 17), none, .call 35 [(.tmp 16), (.cst (AV.int .i64 4))], []⟩,
         ⟨(some 18), none, .append 1 (.tmp 11) (.tmp 17), []⟩,
         ⟨(some 3), none, .mov (.tmp 18), []⟩]
       .skip))
     (.ops [⟨(some 9), none, .mov (.tmp 4), []⟩,
       ⟨(some 10), none, .bin .add (.tmp 9) (.cst (AV.int .i64 1)), []⟩,
       ⟨(some 4), none, .mov (.tmp 10), []⟩]
     .skip))))))
  (.ops [⟨(some 19), none, .mov (.tmp 3), []⟩,
    ⟨(some 2), none, .mov (.tmp 19), []⟩]
  .ret))))) }
noncomputable def aditref02_bytes_g : List (Nat × Fn) := [(35, aditref01_Bytes)]
theorem aditref02_bytes_eq : denFn (fnsOf aditref02_bytes_g) aditref02_bytes_c = aditref02_bytes := by kernel_rfl
def aditref02_Block_c : CFn := { keep := [6], res := [.tmp 0], body := (.ops [⟨(some 6), none, .mov (.cst (AV.nsl)), []⟩]
  (.ops [⟨(some 12), none, .mov (.tmp 2), []⟩,
    ⟨(some 13), none, .call 35 [(.tmp 12), (.cst (AV.int .i64 4))], []⟩,
    ⟨(some 14), none, .mov (.tmp 1), []⟩,
    ⟨(some 15), none, .append 1 (.tmp 13) (.tmp 14), []⟩,
    ⟨(some 7), none, .mov (.tmp 15), []⟩]
  (.ops [⟨(some 16), none, .mov (.tmp 0), []⟩,
    ⟨(some 17), none, .mov (.tmp 7), []⟩,
    ⟨(some 18), none, .call 36 [(.tmp 16), (.tmp 17)], []⟩,
    ⟨(some 8), none, .mov (.tmp 18), []⟩]
  (.ops [⟨(some 19), none, .mov (.tmp 0), []⟩,
    ⟨(some 20), none, .mov (.tmp 7), []⟩,
    ⟨(some 21), none, .call 36 [(.tmp 19), (.tmp 20)], []⟩,
    ⟨(some 9), none, .mov (.tmp 21), []⟩]
  (.ops [⟨(some 10), none, .mov (.cst (AV.int .i64 0)), []⟩]
  (.seq [10, 22, 23, 24, 25, 26, 27] []
  (.block 0 (.loop [10, 22, 23, 24, 25, 26, 27] [10]
    (.ops [⟨(some 22), none, .mov (.tmp 10), []⟩,
       ⟨(some 23), none, .bin .lss (.tmp 22) (.cst (AV.int .i64 10)), []⟩]
     (.seq [] []
     (.cond (.tmp 23)
      .skip
      (.exit 0))
     (.seq [26, 27] []
     (.block 1 (.ops [⟨(some 26), none, .mov (.tmp 8), []⟩,
         ⟨(some 27), none, .call 37 [(.tmp 26)], []⟩]
       .skip))
     (.ops [⟨(some 24), none, .mov (.tmp 10), []⟩,
       ⟨(some 25), none, .bin .add (.tmp 24) (.cst (AV.int .i64 1)), []⟩,
       ⟨(some 10), none, .mov (.tmp 25), []⟩]
     .skip))))))
  (.ops [⟨(some 11), none, .mov (.cst (AV.int .i64 0)), []⟩]
  (.seq [11, 28, 29, 30, 31, 32, 33, 34, 35, 36, 37, 38, 39, 40, 41, 42, 43] []
  (.block 2 (.loop [11, 28, 29, 30, 31, 32, 33, 34, 35, 36, 37, 38, 39, 40, 41, 42, 43] [11]
    (.ops [⟨(some 28), none, .mov (.tmp 11), []⟩,
       ⟨(some 29), none, .bin .lss (.tmp 28) (.cst (AV.int .i64 16)), []⟩]
     (.seq [] []
     (.cond (.tmp 29)
      .skip
      (.exit 2))
     (.seq [32, 33, 34, 35, 36, 37, 38, 39, 40, 41, 42, 43] []
     (.block 3 (.ops [⟨(some 32), none, .mov (.tmp 8), []⟩,
         ⟨(some 33), none, .mov (.tmp 11), []⟩,
         ⟨(some 34), none, .mov (.tmp 8), []⟩,
         ⟨(some 35), none, .mov (.tmp 11), []⟩,
         ⟨(some 36), none, .idxS 1 (.tmp 34) (.tmp 35), []⟩,
         ⟨(some 37), none, .load none (.tmp 36), []⟩,
         ⟨(some 38), none, .mov (.tmp 9), []⟩,
         ⟨(some 39), none, .mov (.tmp 11), []⟩,
         ⟨(some 40), none, .idxS 1 (.tmp 38) (.tmp 39), []⟩,
         ⟨(some 41), none, .load none (.tmp 40), []⟩,
         ⟨(some 42), none, .bin .add (.tmp 37) (.tmp 41), []⟩,
         ⟨(some 43), none, .idxS 1 (.tmp 32) (.tmp 33), []⟩,
         ⟨none, none, .store 1 (.tmp 43) (.tmp 42), []⟩]
       .skip))
     (.ops [⟨(some 30), none, .mov (.tmp 11), []⟩,
       ⟨(some 31), none, .bin .add (.tmp 30) (.cst (AV.int .i64 1)), []⟩,
       ⟨(some 11), none, .mov (.tmp 31), []⟩]
     .skip))))))
  (.ops [⟨(some 44), none, .mov (.tmp 8), []⟩,
    ⟨(some 45), none, .call 38 [(.tmp 44)], []⟩,
    ⟨(some 6), none, .mov (.tmp 45), []⟩]
  .ret))))))))) }
noncomputable def aditref02_Block_g : List (Nat × Fn) := [(35, aditref01_Bytes), (36, aditref02_First), (37, aditref02_two), (38, aditref02_bytes)]
theorem aditref02_Block_eq : denFn (fnsOf aditref02_Block_g) aditref02_Block_c = aditref02_Block := by kernel_rfl
def aditref02_Derive_c : CFn := { keep := [4], res := [.tmp 0], body := (.ops [⟨(some 4), none, .mov (.cst (AV.nsl)), []⟩]
  (.ops [⟨(some 7), none, .mov (.tmp 0), []⟩,
    ⟨(some 8), none, .mov (.tmp 1), []⟩,
    ⟨(some 9), none, .call 36 [(.tmp 7), (.tmp 8)], []⟩,
    ⟨(some 5), none, .mov (.tmp 9), []⟩]
  (.ops [⟨(some 6), none, .mov (.cst (AV.int .i64 0)), []⟩]
  (.seq [6, 10, 11, 12, 13, 14, 15] []
  (.block 0 (.loop [6, 10, 11, 12, 13, 14, 15] [6]
    (.ops [⟨(some 10), none, .mov (.tmp 6), []⟩,
       ⟨(some 11), none, .bin .lss (.tmp 10) (.cst (AV.int .i64 10)), []⟩]
     (.seq [] []
     (.cond (.tmp 11)
      .skip
      (.exit 0))
     (.seq [14, 15] []
     (.block 1 (.ops [⟨(some 14), none, .mov (.tmp 5), []⟩,
         ⟨(some 15), none, .call 37 [(.tmp 14)], []⟩]
       .skip))
     (.ops [⟨(some 12), none, .mov (.tmp 6), []⟩,
       ⟨(some 13), none, .bin .add (.tmp 12) (.cst (AV.int .i64 1)), []⟩,
       ⟨(some 6), none, .mov (.tmp 13), []⟩]
     .skip))))))
  (.ops [⟨(some 16), none, .mov (.tmp 5), []⟩,
    ⟨(some 17), none, .slcS 1 (.tmp 16) none (some (.cst (AV.int .i64 4))) none, []⟩,
    ⟨(some 18), none, .call 38 [(.tmp 17)], []⟩,
    ⟨(some 19), none, .mov (.tmp 5), []⟩,
    ⟨(some 20), none, .slcS 1 (.tmp 19) (some (.cst (AV.int .i64 12))) none none, []⟩,
    ⟨(some 21), none, .call 38 [(.tmp 20)], []⟩,
    ⟨(some 22), none, .append 1 (.tmp 18) (.tmp 21), []⟩,
    ⟨(some 4), none, .mov (.tmp 22), []⟩]
  .ret))))) }
noncomputable def aditref02_Derive_g : List (Nat × Fn) := [(36, aditref02_First), (37, aditref02_two), (38, aditref02_bytes)]
theorem aditref02_Derive_eq : denFn (fnsOf aditref02_Derive_g) aditref02_Derive_c = aditref02_Derive := by kernel_rfl
def aditlaw02_ChachaBlocks_c : CFn := { keep := [8], res := [.tmp 0], body := (.ops [⟨(some 4), none, .box (.tmp 0), []⟩,
    ⟨(some 5), none, .box (.tmp 1), []⟩,
    ⟨(some 7), none, .box (.tmp 3), []⟩,
    ⟨(some 8), none, .mov (.cst (AV.bool false)), []⟩]
  (.ops [⟨(some 11), none, .load (some 32) (.tmp 4), []⟩,
    ⟨(some 12), none, .load (some 12) (.tmp 5), []⟩,
    ⟨(some 13), none, .mov (.tmp 2), []⟩,
    ⟨(some 14), none, .call 25 [(.tmp 11), (.tmp 12), (.tmp 13)], []⟩,
    ⟨(some 9), none, .alloc (List.replicate 64 (.int .u8 0)), []⟩,
    ⟨none, none, .store 64 (.tmp 9) (.tmp 14), []⟩]
  (.ops [⟨(some 15), none, .load (some 32) (.tmp 4), []⟩,
    ⟨(some 16), none, .load (some 16) (.tmp 7), []⟩,
    ⟨(some 17), none, .call 26 [(.tmp 15), (.tmp 16)], []⟩,
    ⟨(some 10), none, .alloc (List.replicate 32 (.int .u8 0)), []⟩,
    ⟨none, none, .store 32 (.tmp 10) (.tmp 17), []⟩]
  (.ops [⟨(some 18), none, .call 22 [], []⟩,
    ⟨(some 19), none, .mov (.tmp 18), []⟩,
    ⟨(some 20), some (19, true), .slcP 64 1 (.tmp 9) none none none, []⟩,
    ⟨(some 21), some (19, true), .toStr (.tmp 20), []⟩,
    ⟨(some 22), some (19, true), .slcP 32 1 (.tmp 4) none none none, []⟩,
    ⟨(some 23), some (19, true), .slcP 12 1 (.tmp 5) none none none, []⟩,
    ⟨(some 24), some (19, true), .mov (.tmp 2), []⟩,
    ⟨(some 25), some (19, true), .conv .u64 (.tmp 24), []⟩,
    ⟨(some 26), some (19, true), .call 27 [(.tmp 22), (.tmp 23), (.tmp 25)], [(.toStr (.tmp 20), 21)]⟩,
    ⟨(some 27), some (19, true), .toStr (.tmp 26), []⟩,
    ⟨(some 28), some (19, true), .bin .eql (.tmp 21) (.tmp 27), []⟩,
    ⟨(some 29), none, .pick (.tmp 19) (.tmp 28) (.cst (AV.bool false)), []⟩,
    ⟨(some 30), none, .mov (.tmp 29), []⟩,
    ⟨(some 31), some (30, true), .slcP 32 1 (.tmp 10) none none none, []⟩,
    ⟨(some 32), some (30, true), .toStr (.tmp 31), []⟩,
    ⟨(some 33), some (30, true), .slcP 32 1 (.tmp 4) none none none, []⟩,
    ⟨(some 34), some (30, true), .slcP 16 1 (.tmp 7) none none none, []⟩,
    ⟨(some 35), some (30, true), .call 28 [(.tmp 33), (.tmp 34)], [(.toStr (.tmp 31), 32)]⟩,
    ⟨(some 36), some (30, true), .toStr (.tmp 35), []⟩,
    ⟨(some 37), some (30, true), .bin .eql (.tmp 32) (.tmp 36), []⟩,
    ⟨(some 38), none, .pick (.tmp 30) (.tmp 37) (.cst (AV.bool false)), []⟩,
    ⟨(some 8), none, .mov (.tmp 38), []⟩]
  .ret)))) }
noncomputable def aditlaw02_ChachaBlocks_g : List (Nat × Fn) := [(22, aditlaw02_alive), (25, chacha_Block), (26, chacha_Derive), (27, aditref02_Block), (28, aditref02_Derive)]
theorem aditlaw02_ChachaBlocks_eq : denFn (fnsOf aditlaw02_ChachaBlocks_g) aditlaw02_ChachaBlocks_c = aditlaw02_ChachaBlocks := by kernel_rfl
end Go.Sx.ChachaBlocksQ
