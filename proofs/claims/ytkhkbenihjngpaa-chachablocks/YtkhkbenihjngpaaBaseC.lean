import Derived.Test.YtkhkbenihjngpaaBaseB
import Derived.Test.YtkhkbenihjngpaaBaseA
set_option linter.all false
namespace Option
def bd {α β : Type} (x : Option α) (f : α → Option β) : Option β := x.bind f
@[simp] theorem bd_some {α β : Type} (x : α) (f : α → Option β) : (some x).bd f = f x := (rfl)
@[simp] theorem bd_none {α β : Type} (f : α → Option β) : (none : Option α).bd f = none := (rfl)
theorem bd_eq {α β : Type} (x : Option α) (f : α → Option β) : x.bd f = x.bind f := (rfl)
end Option
namespace Go.Sx
open Go
def u8 (x : UInt8) : AV := .int .u8 (x.toNat : Int)
def u16 (x : UInt16) : AV := .int .u16 (x.toNat : Int)
def u32 (x : UInt32) : AV := .int .u32 (x.toNat : Int)
def u64 (x : UInt64) : AV := .int .u64 (x.toNat : Int)
abbrev i64 (x : Int) : AV := .int .i64 x
theorem wrap_u8 (n : Int) : IntKind.u8.wrap n = n % 256 := by
  simp [IntKind.wrap, IntKind.signed, IntKind.bits]
theorem wrap_u8_toNat (x : UInt8) : IntKind.u8.wrap (x.toNat : Int) = (x.toNat : Int) := by
  rw [wrap_u8]; have := x.toNat_lt; omega
@[simp] theorem bin_add_u8 (x y : UInt8) : AV.bin .add (u8 x) (u8 y) = some (u8 (x + y)) := by
  try unfold u8
  simp [AV.bin, intBin, wrap_u8, UInt8.toNat_add]
@[simp] theorem bin_sub_u8 (x y : UInt8) : AV.bin .sub (u8 x) (u8 y) = some (u8 (x - y)) := by
  try unfold u8
  have := y.toNat_lt; have := x.toNat_lt
  simp [AV.bin, intBin, wrap_u8, UInt8.toNat_sub]; omega
@[simp] theorem bin_mul_u8 (x y : UInt8) : AV.bin .mul (u8 x) (u8 y) = some (u8 (x * y)) := by
  try unfold u8
  simp [AV.bin, intBin, wrap_u8, UInt8.toNat_mul]
theorem ofInt_u8 (x : UInt8) : BitVec.ofInt IntKind.u8.bits (x.toNat : Int) = x.toBitVec := by
  show BitVec.ofInt 8 (x.toNat : Int) = x.toBitVec
  simp
@[simp] theorem bin_and_u8 (x y : UInt8) : AV.bin .and (u8 x) (u8 y) = some (u8 (x &&& y)) := by
  try unfold u8
  have h : ((BitVec.ofInt IntKind.u8.bits (x.toNat : Int) &&& BitVec.ofInt IntKind.u8.bits (y.toNat : Int)).toNat : Int) = ((x &&& y).toNat : Int) := by
    rw [ofInt_u8, ofInt_u8]; rfl
  simp only [AV.bin, intBin, ne_eq, not_true_eq_false, if_false, h, wrap_u8_toNat]
@[simp] theorem bin_or_u8 (x y : UInt8) : AV.bin .or (u8 x) (u8 y) = some (u8 (x ||| y)) := by
  try unfold u8
  have h : ((BitVec.ofInt IntKind.u8.bits (x.toNat : Int) ||| BitVec.ofInt IntKind.u8.bits (y.toNat : Int)).toNat : Int) = ((x ||| y).toNat : Int) := by
    rw [ofInt_u8, ofInt_u8]; rfl
  simp only [AV.bin, intBin, ne_eq, not_true_eq_false, if_false, h, wrap_u8_toNat]
@[simp] theorem bin_xor_u8 (x y : UInt8) : AV.bin .xor (u8 x) (u8 y) = some (u8 (x ^^^ y)) := by
  try unfold u8
  have h : ((BitVec.ofInt IntKind.u8.bits (x.toNat : Int) ^^^ BitVec.ofInt IntKind.u8.bits (y.toNat : Int)).toNat : Int) = ((x ^^^ y).toNat : Int) := by
    rw [ofInt_u8, ofInt_u8]; rfl
  simp only [AV.bin, intBin, ne_eq, not_true_eq_false, if_false, h, wrap_u8_toNat]
@[simp] theorem bin_andNot_u8 (x y : UInt8) : AV.bin .andNot (u8 x) (u8 y) = some (u8 (x &&& ~~~ y)) := by
  try unfold u8
  have h : ((BitVec.ofInt IntKind.u8.bits (x.toNat : Int) &&& ~~~ BitVec.ofInt IntKind.u8.bits (y.toNat : Int)).toNat : Int) = ((x &&& ~~~ y).toNat : Int) := by
    rw [ofInt_u8, ofInt_u8]; rfl
  simp only [AV.bin, intBin, ne_eq, not_true_eq_false, if_false, h, wrap_u8_toNat]
theorem bin_shl_u8 (x : UInt8) (kk : IntKind) (n : Nat) (h : n < 8) : AV.bin .shl (u8 x) (.int kk (n : Int)) = some (u8 (x <<< UInt8.ofNat n)) := by
  try unfold u8
  have h1 : Nat.min n 8 = n := Nat.min_eq_left (by omega)
  have h2 : (x <<< UInt8.ofNat n).toNat = x.toNat * 2 ^ n % 256 := by
    rw [UInt8.toNat_shiftLeft, UInt8.toNat_ofNat', Nat.shiftLeft_eq]
    congr 3; omega
  simp only [AV.bin, intBin, IntKind.bits, wrap_u8, Int.toNat_natCast, h1]
  rw [if_neg (by omega)]
  congr 2; rw [h2, Int.natCast_emod, Int.natCast_mul, Int.natCast_pow]; rfl
theorem bin_shr_u8 (x : UInt8) (kk : IntKind) (n : Nat) (h : n < 8) : AV.bin .shr (u8 x) (.int kk (n : Int)) = some (u8 (x >>> UInt8.ofNat n)) := by
  try unfold u8
  have h1 : Nat.min n 8 = n := Nat.min_eq_left (by omega)
  have h2 : (x >>> UInt8.ofNat n).toNat = x.toNat / 2 ^ n := by
    rw [UInt8.toNat_shiftRight, UInt8.toNat_ofNat', Nat.shiftRight_eq_div_pow]
    congr 2; omega
  simp only [AV.bin, intBin, IntKind.bits, Int.toNat_natCast, h1]
  rw [if_neg (by omega)]
  congr 2
  rw [Int.fdiv_eq_ediv_of_nonneg _ (by exact_mod_cast Nat.zero_le (2 ^ n)), h2]
  push_cast; rfl
@[simp] theorem bin_eql_u8 (x y : UInt8) : AV.bin .eql (u8 x) (u8 y) = some (.bool (x == y)) := by
  try unfold u8
  simp only [AV.bin, intBin, ne_eq, not_true_eq_false, if_false]
  congr 2
  rw [Bool.eq_iff_iff]; simp [← UInt8.toNat_inj]; try omega
@[simp] theorem bin_neq_u8 (x y : UInt8) : AV.bin .neq (u8 x) (u8 y) = some (.bool (x != y)) := by
  try unfold u8
  simp only [AV.bin, intBin, ne_eq, not_true_eq_false, if_false]
  congr 2
  rw [Bool.eq_iff_iff]; simp [← UInt8.toNat_inj]; try omega
@[simp] theorem bin_lss_u8 (x y : UInt8) : AV.bin .lss (u8 x) (u8 y) = some (.bool (decide (x < y))) := by
  try unfold u8
  simp only [AV.bin, intBin, ne_eq, not_true_eq_false, if_false]
  congr 2
  rw [Bool.eq_iff_iff]; simp [UInt8.lt_iff_toNat_lt]
@[simp] theorem bin_leq_u8 (x y : UInt8) : AV.bin .leq (u8 x) (u8 y) = some (.bool (decide (x ≤ y))) := by
  try unfold u8
  simp only [AV.bin, intBin, ne_eq, not_true_eq_false, if_false]
  congr 2
  rw [Bool.eq_iff_iff]; simp [UInt8.le_iff_toNat_le]
@[simp] theorem bin_gtr_u8 (x y : UInt8) : AV.bin .gtr (u8 x) (u8 y) = some (.bool (decide (x > y))) := by
  try unfold u8
  simp only [AV.bin, intBin, ne_eq, not_true_eq_false, if_false]
  congr 2
  rw [Bool.eq_iff_iff]; simp [UInt8.lt_iff_toNat_lt]
@[simp] theorem bin_geq_u8 (x y : UInt8) : AV.bin .geq (u8 x) (u8 y) = some (.bool (decide (x ≥ y))) := by
  try unfold u8
  simp only [AV.bin, intBin, ne_eq, not_true_eq_false, if_false]
  congr 2
  rw [Bool.eq_iff_iff]; simp [UInt8.le_iff_toNat_le]
@[simp] theorem un_xor_u8 (x : UInt8) : AV.un .xor (u8 x) = some (u8 (~~~ x)) := by
  try unfold u8
  have h : ((BitVec.ofInt IntKind.u8.bits (if IntKind.u8.signed then -1 else IntKind.u8.max) ^^^ BitVec.ofInt IntKind.u8.bits (x.toNat : Int)).toNat : Int) = ((~~~ x).toNat : Int) := by
    rw [ofInt_u8]
    show ((BitVec.ofInt 8 255 ^^^ x.toBitVec).toNat : Int) = (((~~~ x).toBitVec).toNat : Int)
    rw [UInt8.toBitVec_not, show BitVec.ofInt 8 255 = BitVec.allOnes 8 from by decide, BitVec.allOnes_xor]
  simp only [AV.un, h, wrap_u8_toNat]
@[simp] theorem conv_u8_i64 (n : Nat) : AV.conv .u8 (.int .i64 (n : Int)) = some (u8 (UInt8.ofNat n)) := by
  try unfold u8
  simp only [AV.conv, wrap_u8]
  congr 2
theorem conv_u8_any (kk : IntKind) (n : Int) : AV.conv .u8 (.int kk n) = some (u8 (UInt8.ofNat (n % 256).toNat)) := by
  try unfold u8
  simp only [AV.conv, wrap_u8]
  congr 2; rw [UInt8.toNat_ofNat']; omega
theorem wrap_u32 (n : Int) : IntKind.u32.wrap n = n % 4294967296 := by
  simp [IntKind.wrap, IntKind.signed, IntKind.bits]
theorem wrap_u32_toNat (x : UInt32) : IntKind.u32.wrap (x.toNat : Int) = (x.toNat : Int) := by
  rw [wrap_u32]; have := x.toNat_lt; omega
@[simp] theorem bin_add_u32 (x y : UInt32) : AV.bin .add (u32 x) (u32 y) = some (u32 (x + y)) := by
  try unfold u32
  simp [AV.bin, intBin, wrap_u32, UInt32.toNat_add]
@[simp] theorem bin_sub_u32 (x y : UInt32) : AV.bin .sub (u32 x) (u32 y) = some (u32 (x - y)) := by
  try unfold u32
  have := y.toNat_lt; have := x.toNat_lt
  simp [AV.bin, intBin, wrap_u32, UInt32.toNat_sub]; omega
@[simp] theorem bin_mul_u32 (x y : UInt32) : AV.bin .mul (u32 x) (u32 y) = some (u32 (x * y)) := by
  try unfold u32
  simp [AV.bin, intBin, wrap_u32, UInt32.toNat_mul]
theorem ofInt_u32 (x : UInt32) : BitVec.ofInt IntKind.u32.bits (x.toNat : Int) = x.toBitVec := by
  show BitVec.ofInt 32 (x.toNat : Int) = x.toBitVec
  simp
@[simp] theorem bin_and_u32 (x y : UInt32) : AV.bin .and (u32 x) (u32 y) = some (u32 (x &&& y)) := by
  try unfold u32
  have h : ((BitVec.ofInt IntKind.u32.bits (x.toNat : Int) &&& BitVec.ofInt IntKind.u32.bits (y.toNat : Int)).toNat : Int) = ((x &&& y).toNat : Int) := by
    rw [ofInt_u32, ofInt_u32]; rfl
  simp only [AV.bin, intBin, ne_eq, not_true_eq_false, if_false, h, wrap_u32_toNat]
@[simp] theorem bin_or_u32 (x y : UInt32) : AV.bin .or (u32 x) (u32 y) = some (u32 (x ||| y)) := by
  try unfold u32
  have h : ((BitVec.ofInt IntKind.u32.bits (x.toNat : Int) ||| BitVec.ofInt IntKind.u32.bits (y.toNat : Int)).toNat : Int) = ((x ||| y).toNat : Int) := by
    rw [ofInt_u32, ofInt_u32]; rfl
  simp only [AV.bin, intBin, ne_eq, not_true_eq_false, if_false, h, wrap_u32_toNat]
@[simp] theorem bin_xor_u32 (x y : UInt32) : AV.bin .xor (u32 x) (u32 y) = some (u32 (x ^^^ y)) := by
  try unfold u32
  have h : ((BitVec.ofInt IntKind.u32.bits (x.toNat : Int) ^^^ BitVec.ofInt IntKind.u32.bits (y.toNat : Int)).toNat : Int) = ((x ^^^ y).toNat : Int) := by
    rw [ofInt_u32, ofInt_u32]; rfl
  simp only [AV.bin, intBin, ne_eq, not_true_eq_false, if_false, h, wrap_u32_toNat]
@[simp] theorem bin_andNot_u32 (x y : UInt32) : AV.bin .andNot (u32 x) (u32 y) = some (u32 (x &&& ~~~ y)) := by
  try unfold u32
  have h : ((BitVec.ofInt IntKind.u32.bits (x.toNat : Int) &&& ~~~ BitVec.ofInt IntKind.u32.bits (y.toNat : Int)).toNat : Int) = ((x &&& ~~~ y).toNat : Int) := by
    rw [ofInt_u32, ofInt_u32]; rfl
  simp only [AV.bin, intBin, ne_eq, not_true_eq_false, if_false, h, wrap_u32_toNat]
theorem bin_shl_u32 (x : UInt32) (kk : IntKind) (n : Nat) (h : n < 32) : AV.bin .shl (u32 x) (.int kk (n : Int)) = some (u32 (x <<< UInt32.ofNat n)) := by
  try unfold u32
  have h1 : Nat.min n 32 = n := Nat.min_eq_left (by omega)
  have h2 : (x <<< UInt32.ofNat n).toNat = x.toNat * 2 ^ n % 4294967296 := by
    rw [UInt32.toNat_shiftLeft, UInt32.toNat_ofNat', Nat.shiftLeft_eq]
    congr 3; omega
  simp only [AV.bin, intBin, IntKind.bits, wrap_u32, Int.toNat_natCast, h1]
  rw [if_neg (by omega)]
  congr 2; rw [h2, Int.natCast_emod, Int.natCast_mul, Int.natCast_pow]; rfl
theorem bin_shr_u32 (x : UInt32) (kk : IntKind) (n : Nat) (h : n < 32) : AV.bin .shr (u32 x) (.int kk (n : Int)) = some (u32 (x >>> UInt32.ofNat n)) := by
  try unfold u32
  have h1 : Nat.min n 32 = n := Nat.min_eq_left (by omega)
  have h2 : (x >>> UInt32.ofNat n).toNat = x.toNat / 2 ^ n := by
    rw [UInt32.toNat_shiftRight, UInt32.toNat_ofNat', Nat.shiftRight_eq_div_pow]
    congr 2; omega
  simp only [AV.bin, intBin, IntKind.bits, Int.toNat_natCast, h1]
  rw [if_neg (by omega)]
  congr 2
  rw [Int.fdiv_eq_ediv_of_nonneg _ (by exact_mod_cast Nat.zero_le (2 ^ n)), h2]
  push_cast; rfl
@[simp] theorem bin_eql_u32 (x y : UInt32) : AV.bin .eql (u32 x) (u32 y) = some (.bool (x == y)) := by
  try unfold u32
  simp only [AV.bin, intBin, ne_eq, not_true_eq_false, if_false]
  congr 2
  rw [Bool.eq_iff_iff]; simp [← UInt32.toNat_inj]; try omega
@[simp] theorem bin_neq_u32 (x y : UInt32) : AV.bin .neq (u32 x) (u32 y) = some (.bool (x != y)) := by
  try unfold u32
  simp only [AV.bin, intBin, ne_eq, not_true_eq_false, if_false]
  congr 2
  rw [Bool.eq_iff_iff]; simp [← UInt32.toNat_inj]; try omega
@[simp] theorem bin_lss_u32 (x y : UInt32) : AV.bin .lss (u32 x) (u32 y) = some (.bool (decide (x < y))) := by
  try unfold u32
  simp only [AV.bin, intBin, ne_eq, not_true_eq_false, if_false]
  congr 2
  rw [Bool.eq_iff_iff]; simp [UInt32.lt_iff_toNat_lt]
@[simp] theorem bin_leq_u32 (x y : UInt32) : AV.bin .leq (u32 x) (u32 y) = some (.bool (decide (x ≤ y))) := by
  try unfold u32
  simp only [AV.bin, intBin, ne_eq, not_true_eq_false, if_false]
  congr 2
  rw [Bool.eq_iff_iff]; simp [UInt32.le_iff_toNat_le]
@[simp] theorem bin_gtr_u32 (x y : UInt32) : AV.bin .gtr (u32 x) (u32 y) = some (.bool (decide (x > y))) := by
  try unfold u32
  simp only [AV.bin, intBin, ne_eq, not_true_eq_false, if_false]
  congr 2
  rw [Bool.eq_iff_iff]; simp [UInt32.lt_iff_toNat_lt]
@[simp] theorem bin_geq_u32 (x y : UInt32) : AV.bin .geq (u32 x) (u32 y) = some (.bool (decide (x ≥ y))) := by
  try unfold u32
  simp only [AV.bin, intBin, ne_eq, not_true_eq_false, if_false]
  congr 2
  rw [Bool.eq_iff_iff]; simp [UInt32.le_iff_toNat_le]
@[simp] theorem un_xor_u32 (x : UInt32) : AV.un .xor (u32 x) = some (u32 (~~~ x)) := by
  try unfold u32
  have h : ((BitVec.ofInt IntKind.u32.bits (if IntKind.u32.signed then -1 else IntKind.u32.max) ^^^ BitVec.ofInt IntKind.u32.bits (x.toNat : Int)).toNat : Int) = ((~~~ x).toNat : Int) := by
    rw [ofInt_u32]
    show ((BitVec.ofInt 32 4294967295 ^^^ x.toBitVec).toNat : Int) = (((~~~ x).toBitVec).toNat : Int)
    rw [UInt32.toBitVec_not, show BitVec.ofInt 32 4294967295 = BitVec.allOnes 32 from by decide, BitVec.allOnes_xor]
  simp only [AV.un, h, wrap_u32_toNat]
@[simp] theorem conv_u32_i64 (n : Nat) : AV.conv .u32 (.int .i64 (n : Int)) = some (u32 (UInt32.ofNat n)) := by
  try unfold u32
  simp only [AV.conv, wrap_u32]
  congr 2
theorem conv_u32_any (kk : IntKind) (n : Int) : AV.conv .u32 (.int kk n) = some (u32 (UInt32.ofNat (n % 4294967296).toNat)) := by
  try unfold u32
  simp only [AV.conv, wrap_u32]
  congr 2; rw [UInt32.toNat_ofNat']; omega
theorem wrap_u64 (n : Int) : IntKind.u64.wrap n = n % 18446744073709551616 := by
  simp [IntKind.wrap, IntKind.signed, IntKind.bits]
theorem wrap_u64_toNat (x : UInt64) : IntKind.u64.wrap (x.toNat : Int) = (x.toNat : Int) := by
  rw [wrap_u64]; have := x.toNat_lt; omega
@[simp] theorem bin_add_u64 (x y : UInt64) : AV.bin .add (u64 x) (u64 y) = some (u64 (x + y)) := by
  try unfold u64
  simp [AV.bin, intBin, wrap_u64, UInt64.toNat_add]
@[simp] theorem bin_sub_u64 (x y : UInt64) : AV.bin .sub (u64 x) (u64 y) = some (u64 (x - y)) := by
  try unfold u64
  have := y.toNat_lt; have := x.toNat_lt
  simp [AV.bin, intBin, wrap_u64, UInt64.toNat_sub]; omega
@[simp] theorem bin_mul_u64 (x y : UInt64) : AV.bin .mul (u64 x) (u64 y) = some (u64 (x * y)) := by
  try unfold u64
  simp [AV.bin, intBin, wrap_u64, UInt64.toNat_mul]
theorem ofInt_u64 (x : UInt64) : BitVec.ofInt IntKind.u64.bits (x.toNat : Int) = x.toBitVec := by
  show BitVec.ofInt 64 (x.toNat : Int) = x.toBitVec
  simp
@[simp] theorem bin_and_u64 (x y : UInt64) : AV.bin .and (u64 x) (u64 y) = some (u64 (x &&& y)) := by
  try unfold u64
  have h : ((BitVec.ofInt IntKind.u64.bits (x.toNat : Int) &&& BitVec.ofInt IntKind.u64.bits (y.toNat : Int)).toNat : Int) = ((x &&& y).toNat : Int) := by
    rw [ofInt_u64, ofInt_u64]; rfl
  simp only [AV.bin, intBin, ne_eq, not_true_eq_false, if_false, h, wrap_u64_toNat]
@[simp] theorem bin_or_u64 (x y : UInt64) : AV.bin .or (u64 x) (u64 y) = some (u64 (x ||| y)) := by
  try unfold u64
  have h : ((BitVec.ofInt IntKind.u64.bits (x.toNat : Int) ||| BitVec.ofInt IntKind.u64.bits (y.toNat : Int)).toNat : Int) = ((x ||| y).toNat : Int) := by
    rw [ofInt_u64, ofInt_u64]; rfl
  simp only [AV.bin, intBin, ne_eq, not_true_eq_false, if_false, h, wrap_u64_toNat]
@[simp] theorem bin_xor_u64 (x y : UInt64) : AV.bin .xor (u64 x) (u64 y) = some (u64 (x ^^^ y)) := by
  try unfold u64
  have h : ((BitVec.ofInt IntKind.u64.bits (x.toNat : Int) ^^^ BitVec.ofInt IntKind.u64.bits (y.toNat : Int)).toNat : Int) = ((x ^^^ y).toNat : Int) := by
    rw [ofInt_u64, ofInt_u64]; rfl
  simp only [AV.bin, intBin, ne_eq, not_true_eq_false, if_false, h, wrap_u64_toNat]
@[simp] theorem bin_andNot_u64 (x y : UInt64) : AV.bin .andNot (u64 x) (u64 y) = some (u64 (x &&& ~~~ y)) := by
  try unfold u64
  have h : ((BitVec.ofInt IntKind.u64.bits (x.toNat : Int) &&& ~~~ BitVec.ofInt IntKind.u64.bits (y.toNat : Int)).toNat : Int) = ((x &&& ~~~ y).toNat : Int) := by
    rw [ofInt_u64, ofInt_u64]; rfl
  simp only [AV.bin, intBin, ne_eq, not_true_eq_false, if_false, h, wrap_u64_toNat]
theorem bin_shl_u64 (x : UInt64) (kk : IntKind) (n : Nat) (h : n < 64) : AV.bin .shl (u64 x) (.int kk (n : Int)) = some (u64 (x <<< UInt64.ofNat n)) := by
  try unfold u64
  have h1 : Nat.min n 64 = n := Nat.min_eq_left (by omega)
  have h2 : (x <<< UInt64.ofNat n).toNat = x.toNat * 2 ^ n % 18446744073709551616 := by
    rw [UInt64.toNat_shiftLeft, UInt64.toNat_ofNat', Nat.shiftLeft_eq]
    congr 3; omega
  simp only [AV.bin, intBin, IntKind.bits, wrap_u64, Int.toNat_natCast, h1]
  rw [if_neg (by omega)]
  congr 2; rw [h2, Int.natCast_emod, Int.natCast_mul, Int.natCast_pow]; rfl
theorem bin_shr_u64 (x : UInt64) (kk : IntKind) (n : Nat) (h : n < 64) : AV.bin .shr (u64 x) (.int kk (n : Int)) = some (u64 (x >>> UInt64.ofNat n)) := by
  try unfold u64
  have h1 : Nat.min n 64 = n := Nat.min_eq_left (by omega)
  have h2 : (x >>> UInt64.ofNat n).toNat = x.toNat / 2 ^ n := by
    rw [UInt64.toNat_shiftRight, UInt64.toNat_ofNat', Nat.shiftRight_eq_div_pow]
    congr 2; omega
  simp only [AV.bin, intBin, IntKind.bits, Int.toNat_natCast, h1]
  rw [if_neg (by omega)]
  congr 2
  rw [Int.fdiv_eq_ediv_of_nonneg _ (by exact_mod_cast Nat.zero_le (2 ^ n)), h2]
  push_cast; rfl
@[simp] theorem bin_eql_u64 (x y : UInt64) : AV.bin .eql (u64 x) (u64 y) = some (.bool (x == y)) := by
  try unfold u64
  simp only [AV.bin, intBin, ne_eq, not_true_eq_false, if_false]
  congr 2
  rw [Bool.eq_iff_iff]; simp [← UInt64.toNat_inj]; try omega
@[simp] theorem bin_neq_u64 (x y : UInt64) : AV.bin .neq (u64 x) (u64 y) = some (.bool (x != y)) := by
  try unfold u64
  simp only [AV.bin, intBin, ne_eq, not_true_eq_false, if_false]
  congr 2
  rw [Bool.eq_iff_iff]; simp [← UInt64.toNat_inj]; try omega
@[simp] theorem bin_lss_u64 (x y : UInt64) : AV.bin .lss (u64 x) (u64 y) = some (.bool (decide (x < y))) := by
  try unfold u64
  simp only [AV.bin, intBin, ne_eq, not_true_eq_false, if_false]
  congr 2
  rw [Bool.eq_iff_iff]; simp [UInt64.lt_iff_toNat_lt]
@[simp] theorem bin_leq_u64 (x y : UInt64) : AV.bin .leq (u64 x) (u64 y) = some (.bool (decide (x ≤ y))) := by
  try unfold u64
  simp only [AV.bin, intBin, ne_eq, not_true_eq_false, if_false]
  congr 2
  rw [Bool.eq_iff_iff]; simp [UInt64.le_iff_toNat_le]
@[simp] theorem bin_gtr_u64 (x y : UInt64) : AV.bin .gtr (u64 x) (u64 y) = some (.bool (decide (x > y))) := by
  try unfold u64
  simp only [AV.bin, intBin, ne_eq, not_true_eq_false, if_false]
  congr 2
  rw [Bool.eq_iff_iff]; simp [UInt64.lt_iff_toNat_lt]
@[simp] theorem bin_geq_u64 (x y : UInt64) : AV.bin .geq (u64 x) (u64 y) = some (.bool (decide (x ≥ y))) := by
  try unfold u64
  simp only [AV.bin, intBin, ne_eq, not_true_eq_false, if_false]
  congr 2
  rw [Bool.eq_iff_iff]; simp [UInt64.le_iff_toNat_le]
@[simp] theorem un_xor_u64 (x : UInt64) : AV.un .xor (u64 x) = some (u64 (~~~ x)) := by
  try unfold u64
  have h : ((BitVec.ofInt IntKind.u64.bits (if IntKind.u64.signed then -1 else IntKind.u64.max) ^^^ BitVec.ofInt IntKind.u64.bits (x.toNat : Int)).toNat : Int) = ((~~~ x).toNat : Int) := by
    rw [ofInt_u64]
    show ((BitVec.ofInt 64 18446744073709551615 ^^^ x.toBitVec).toNat : Int) = (((~~~ x).toBitVec).toNat : Int)
    rw [UInt64.toBitVec_not, show BitVec.ofInt 64 18446744073709551615 = BitVec.allOnes 64 from by decide, BitVec.allOnes_xor]
  simp only [AV.un, h, wrap_u64_toNat]
@[simp] theorem conv_u64_i64 (n : Nat) : AV.conv .u64 (.int .i64 (n : Int)) = some (u64 (UInt64.ofNat n)) := by
  try unfold u64
  simp only [AV.conv, wrap_u64]
  congr 2
theorem conv_u64_any (kk : IntKind) (n : Int) : AV.conv .u64 (.int kk n) = some (u64 (UInt64.ofNat (n % 18446744073709551616).toNat)) := by
  try unfold u64
  simp only [AV.conv, wrap_u64]
  congr 2; rw [UInt64.toNat_ofNat']; omega
@[simp] theorem conv_u8_u8 (x : UInt8) : AV.conv .u8 (u8 x) = some (u8 (UInt8.ofNat x.toNat)) := by
  try unfold u8
  simp only [AV.conv, wrap_u8]
  congr 2
@[simp] theorem conv_u32_u8 (x : UInt8) : AV.conv .u32 (u8 x) = some (u32 (UInt32.ofNat x.toNat)) := by
  try unfold u8
  try unfold u32
  simp only [AV.conv, wrap_u32]
  congr 2
@[simp] theorem conv_u64_u8 (x : UInt8) : AV.conv .u64 (u8 x) = some (u64 (UInt64.ofNat x.toNat)) := by
  try unfold u8
  try unfold u64
  simp only [AV.conv, wrap_u64]
  congr 2
@[simp] theorem conv_u8_u32 (x : UInt32) : AV.conv .u8 (u32 x) = some (u8 (UInt8.ofNat x.toNat)) := by
  try unfold u8
  try unfold u32
  simp only [AV.conv, wrap_u8]
  congr 2
@[simp] theorem conv_u32_u32 (x : UInt32) : AV.conv .u32 (u32 x) = some (u32 (UInt32.ofNat x.toNat)) := by
  try unfold u32
  simp only [AV.conv, wrap_u32]
  congr 2
@[simp] theorem conv_u64_u32 (x : UInt32) : AV.conv .u64 (u32 x) = some (u64 (UInt64.ofNat x.toNat)) := by
  try unfold u32
  try unfold u64
  simp only [AV.conv, wrap_u64]
  congr 2
@[simp] theorem conv_u8_u64 (x : UInt64) : AV.conv .u8 (u64 x) = some (u8 (UInt8.ofNat x.toNat)) := by
  try unfold u8
  try unfold u64
  simp only [AV.conv, wrap_u8]
  congr 2
@[simp] theorem conv_u32_u64 (x : UInt64) : AV.conv .u32 (u64 x) = some (u32 (UInt32.ofNat x.toNat)) := by
  try unfold u32
  try unfold u64
  simp only [AV.conv, wrap_u32]
  congr 2
@[simp] theorem conv_u64_u64 (x : UInt64) : AV.conv .u64 (u64 x) = some (u64 (UInt64.ofNat x.toNat)) := by
  try unfold u64
  simp only [AV.conv, wrap_u64]
  congr 2
@[simp] theorem vcells_u8 (x) : AV.vcells (u8 x) = some [u8 x] := rfl
@[simp] theorem old_u8 (n : Nat) (x) : AV.old n (u8 x) = true := rfl
@[simp] theorem isCell_u8 (x) : AV.isCell (u8 x) = true := rfl
@[simp] theorem cells_u8 (x) : AV.cells (u8 x) = [u8 x] := rfl
@[simp] theorem vcells_u16 (x) : AV.vcells (u16 x) = some [u16 x] := rfl
@[simp] theorem old_u16 (n : Nat) (x) : AV.old n (u16 x) = true := rfl
@[simp] theorem isCell_u16 (x) : AV.isCell (u16 x) = true := rfl
@[simp] theorem cells_u16 (x) : AV.cells (u16 x) = [u16 x] := rfl
@[simp] theorem vcells_u32 (x) : AV.vcells (u32 x) = some [u32 x] := rfl
@[simp] theorem old_u32 (n : Nat) (x) : AV.old n (u32 x) = true := rfl
@[simp] theorem isCell_u32 (x) : AV.isCell (u32 x) = true := rfl
@[simp] theorem cells_u32 (x) : AV.cells (u32 x) = [u32 x] := rfl
@[simp] theorem vcells_u64 (x) : AV.vcells (u64 x) = some [u64 x] := rfl
@[simp] theorem old_u64 (n : Nat) (x) : AV.old n (u64 x) = true := rfl
@[simp] theorem isCell_u64 (x) : AV.isCell (u64 x) = true := rfl
@[simp] theorem cells_u64 (x) : AV.cells (u64 x) = [u64 x] := rfl
end Go.Sx
namespace Go.Sx
open Go
theorem run_more {f : List AV → Heap → Option (Sum (List AV × Heap) Res)} : ∀ {m : Nat} {s : List AV × Heap} {r : Res}, loopD.run f m s = some r → ∀ k, loopD.run f (m + k) s = some r
  | 0, s, r, h, k => by simp [loopD.run] at h
  | m + 1, s, r, h, k => by
    rw [show m + 1 + k = (m + k) + 1 by omega]
    simp only [loopD.run] at h ⊢
    split at h
    · cases h
    · exact run_more h k
    · exact h
theorem loopD_of_run {f : List AV → Heap → Option (Sum (List AV × Heap) Res)} {vs : List AV} {H : Heap} {m : Nat} {r : Res} (h : loopD.run f m (vs, H) = some r) : loopD f vs H = some r := by
  unfold loopD
  have hx : ∃ n r, loopD.run f n (vs, H) = some r := ⟨m, r, h⟩
  rw [dif_pos hx]
  have h2 := Classical.choose_spec (Classical.choose_spec hx)
  have h3 := run_more h2 m
  rw [Nat.add_comm, run_more h] at h3
  exact h3.symm
theorem run_of_loopD {f : List AV → Heap → Option (Sum (List AV × Heap) Res)} {vs : List AV} {H : Heap} {r : Res} (h : loopD f vs H = some r) : ∃ m, loopD.run f m (vs, H) = some r := by
  unfold loopD at h
  split at h
  · rename_i hx
    have := Classical.choose_spec (Classical.choose_spec hx)
    cases h
    exact ⟨_, this⟩
  · cases h
theorem loopD_stop {f : List AV → Heap → Option (Sum (List AV × Heap) Res)} {vs : List AV} {H : Heap} {r : Res} (h : f vs H = some (.inr r)) : loopD f vs H = some r :=
  loopD_of_run (m := 1) (by simp only [loopD.run, h])
theorem loopD_step {f : List AV → Heap → Option (Sum (List AV × Heap) Res)} {vs : List AV} {H : Heap} {vs' : List AV} {H' : Heap} {r : Res} (h : f vs H = some (.inl (vs', H'))) (hr : loopD f vs' H' = some r) : loopD f vs H = some r := by
  obtain ⟨m, hm⟩ := run_of_loopD hr
  exact loopD_of_run (m := m + 1) (by simp only [loopD.run, h]; exact hm)
theorem loopD_eq {f : List AV → Heap → Option (Sum (List AV × Heap) Res)} {vs : List AV} {H : Heap} {vs' : List AV} {H' : Heap} (h : f vs H = some (.inl (vs', H'))) : loopD f vs H = loopD f vs' H' := by
  cases hr : loopD f vs' H' with
  | some r => exact loopD_step h hr
  | none =>
    cases h2 : loopD f vs H with
    | none => rfl
    | some r =>
      obtain ⟨m, hm⟩ := run_of_loopD h2
      cases m with
      | zero => simp [loopD.run] at hm
      | succ m =>
        simp only [loopD.run, h] at hm
        rw [loopD_of_run hm] at hr; cases hr
theorem loopD_count {f : List AV → Heap → Option (Sum (List AV × Heap) Res)} (st : Nat → List AV × Heap) (n : Nat) {r : Res} (h : ∀ i, i < n → f (st i).1 (st i).2 = some (.inl (st (i + 1)))) (hr : f (st n).1 (st n).2 = some (.inr r)) : loopD f (st 0).1 (st 0).2 = some r := by
  have : ∀ k, k ≤ n → loopD f (st (n - k)).1 (st (n - k)).2 = some r := by
    intro k
    induction k with
    | zero => intro _; exact loopD_stop hr
    | succ k ih =>
      intro hk
      refine loopD_step (h (n - (k + 1)) (by omega)) ?_
      rw [show n - (k + 1) + 1 = n - k by omega]
      exact ih (by omega)
  have := this n (Nat.le_refl _)
  rwa [Nat.sub_self] at this
@[simp] theorem vcells_int (k : IntKind) (n : Int) : AV.vcells (.int k n) = some [.int k n] := (rfl)
@[simp] theorem vcells_bool (b : Bool) : AV.vcells (.bool b) = some [.bool b] := (rfl)
@[simp] theorem vcells_str (s : List UInt8) : AV.vcells (.str s) = some [.str s] := (rfl)
@[simp] theorem vcells_nsl : AV.vcells .nsl = some [.nsl] := (rfl)
@[simp] theorem vcells_sl (b o l c s : Nat) : AV.vcells (.sl b o l c s) = some [.sl b o l c s] := (rfl)
@[simp] theorem vcells_ptr (b o : Nat) : AV.vcells (.ptr b o) = some [.ptr b o] := (rfl)
@[simp] theorem vcells_nil : AV.vcells .nil = some [.nil] := (rfl)
@[simp] theorem vcells_agg (l : List AV) : AV.vcells (.agg l) = some l := (rfl)
@[simp] theorem asB_bool (b : Bool) : AV.asB (.bool b) = some b := (rfl)
@[simp] theorem nilck_ptr (b o : Nat) : AV.nilck (.ptr b o) = some (.ptr b o) := (rfl)
@[simp] theorem fldP_ptr (n b o : Nat) : AV.fldP n (.ptr b o) = some (.ptr b (o + n)) := (rfl)
@[simp] theorem pick_bool (b : Bool) (x y : AV) : AV.pick (.bool b) x y = some (bif b then x else y) := (rfl)
@[simp] theorem not_bool (b : Bool) : AV.un .not (.bool b) = some (.bool !b) := (rfl)
@[simp] theorem fillA_cons (c : List AV) (off sz : Nat) (v : AV) (ps : List (Nat × Nat × AV)) : fillA c ((off, sz, v) :: ps) = v.vcells.bd fun vs => if vs.length = sz ∧ off + sz ≤ c.length then fillA (put c off vs) ps else none := (rfl)
@[simp] theorem zeros_one (n : Nat) (v : AV) : zeros n [v] = List.replicate n v := (rfl)
@[simp] theorem eqb_bool (neg a b : Bool) : AV.eqb neg (.bool a) (.bool b) = some (.bool (bif neg then !(a == b) else (a == b))) := (rfl)
@[simp] theorem eqs_nsl (neg : Bool) : AV.eqs neg .nsl .nsl = some (.bool !neg) := (rfl)
@[simp] theorem eqs_sl (neg : Bool) (b o l c s : Nat) : AV.eqs neg (.sl b o l c s) .nsl = some (.bool neg) := (rfl)
@[simp] theorem eqp_nil (neg : Bool) : AV.eqp neg .nil .nil = some (.bool !neg) := (rfl)
@[simp] theorem eqp_ptr (neg : Bool) (b o : Nat) : AV.eqp neg (.ptr b o) .nil = some (.bool neg) := (rfl)
@[simp] theorem eqp_ptr' (neg : Bool) (b o : Nat) : AV.eqp neg .nil (.ptr b o) = some (.bool neg) := (rfl)
@[simp] theorem fld_agg (off : Nat) (n : Option Nat) (l : List AV) : AV.fld off n (.agg l) = piece l off n := (rfl)
@[simp] theorem foldA_nil (f : AV → AV → Option AV) (x : AV) : foldA f x [] = some x := (rfl)
@[simp] theorem foldA_cons (f : AV → AV → Option AV) (x y : AV) (ys : List AV) : foldA f x (y :: ys) = (f x y).bd fun z => foldA f z ys := (rfl)
@[simp] theorem min2_int (k k' : IntKind) (a b : Int) : AV.min2 (.int k a) (.int k' b) = some (.int k (if b < a then b else a)) := (rfl)
@[simp] theorem max2_int (k k' : IntKind) (a b : Int) : AV.max2 (.int k a) (.int k' b) = some (.int k (if b > a then b else a)) := (rfl)
@[simp] theorem fillA_nil (c : List AV) : fillA c [] = some c := (rfl)
@[simp] theorem ext_tup (l : List AV) (i : Nat) : AV.ext i (.tup l) = l[i]? := (rfl)
@[simp] theorem len_nsl : AV.len .nsl = some (i64 0) := (rfl)
@[simp] theorem len_sl (b o l c s : Nat) : AV.len (.sl b o l c s) = some (i64 l) := (rfl)
@[simp] theorem lenStr_str (s : List UInt8) : AV.lenStr (.str s) = some (i64 s.length) := (rfl)
@[simp] theorem gsel_tt {α : Type} (x y : α) : gsel true (some true) x y = x := (rfl)
@[simp] theorem gsel_tf {α : Type} (x y : α) : gsel true (some false) x y = y := (rfl)
@[simp] theorem gsel_ft {α : Type} (x y : α) : gsel false (some true) x y = y := (rfl)
@[simp] theorem gsel_ff {α : Type} (x y : α) : gsel false (some false) x y = x := (rfl)
@[simp] theorem gsel_n {α : Type} (w : Bool) (x y : α) : gsel w none x y = y := (rfl)
@[simp] theorem asG_bool (b : Bool) : AV.asG (.bool b) = some (some b) := (rfl)
@[simp] theorem asG_und : AV.asG (.tup []) = some none := (rfl)
@[simp] theorem andThen_norm (out : List AV → List AV) (k : List AV → Heap → Option Res) (vs : List AV) (H : Heap) : andThen out k (.norm, vs, H) = k vs H := (rfl)
@[simp] theorem andThen_ret (out : List AV → List AV) (k : List AV → Heap → Option Res) (vs : List AV) (H : Heap) : andThen out k (.ret, vs, H) = some (.ret, out vs, H) := (rfl)
@[simp] theorem andThen_exit (out : List AV → List AV) (k : List AV → Heap → Option Res) (i : Nat) (vs : List AV) (H : Heap) : andThen out k (.exit i, vs, H) = some (.exit i, out vs, H) := (rfl)
@[simp] theorem inBlock_norm (i : Nat) (vs : List AV) (H : Heap) : inBlock i (.norm, vs, H) = some (.norm, vs, H) := (rfl)
@[simp] theorem inBlock_ret (i : Nat) (vs : List AV) (H : Heap) : inBlock i (.ret, vs, H) = some (.ret, vs, H) := (rfl)
@[simp] theorem inBlock_exit (i j : Nat) (vs : List AV) (H : Heap) : inBlock i (.exit j, vs, H) = some (bif Nat.beq j i then .norm else .exit j, vs, H) := (rfl)
@[simp] theorem roundEnd_norm (n : Nat) (vs : List AV) (H : Heap) : roundEnd n (.norm, vs, H) = (retract n vs H).bd fun s => some (.inl s) := (rfl)
@[simp] theorem roundEnd_ret (n : Nat) (vs : List AV) (H : Heap) : roundEnd n (.ret, vs, H) = some (.inr (.ret, vs, H)) := (rfl)
@[simp] theorem roundEnd_exit (n i : Nat) (vs : List AV) (H : Heap) : roundEnd n (.exit i, vs, H) = some (.inr (.exit i, vs, H)) := (rfl)
@[simp] theorem fnEnd_ret (n : Nat) (res : List RVar) (vs : List AV) (H : Heap) : fnEnd n res (.ret, vs, H) = (resV vs H res).bd fun vs => (retract n vs H).bd fun p => some (oneOf p.1, p.2) := (rfl)
@[simp] theorem fnEnd_norm (n : Nat) (res : List RVar) (vs : List AV) (H : Heap) : fnEnd n res (.norm, vs, H) = (resV vs H res).bd fun vs => (retract n vs H).bd fun p => some (oneOf p.1, p.2) := (rfl)
@[simp] theorem resV_nil (vs : List AV) (H : Heap) : resV vs H [] = some [] := (rfl)
@[simp] theorem resV_tmp (vs : List AV) (H : Heap) (i : Nat) (l : List RVar) : resV vs H (.tmp i :: l) = (resV vs H l).bd fun r => some (vs.getD i .top :: r) := (rfl)
@[simp] theorem resV_cell (vs : List AV) (H : Heap) (i : Nat) (n : Option Nat) (l : List RVar) : resV vs H (.cell i n :: l) = (ld H n (vs.getD i .top)).bd fun v => (resV vs H l).bd fun r => some (v :: r) := (rfl)
@[simp] theorem oneOf_one (v : AV) : oneOf [v] = v := (rfl)
@[simp] theorem oneOf_nil : oneOf [] = .tup [] := (rfl)
@[simp] theorem oneOf_two (v w : AV) (l : List AV) : oneOf (v :: w :: l) = .tup (v :: w :: l) := (rfl)
@[simp] theorem beq_self (n : Nat) : Nat.beq n n = true := Nat.beq_refl n
@[simp] theorem cond_tt {α : Type} (x y : α) : (bif true then x else y) = x := (rfl)
@[simp] theorem cond_ff {α : Type} (x y : α) : (bif false then x else y) = y := (rfl)
def AV.plain : AV → Bool
  | .int _ _ | .bool _ | .str _ | .nil | .nsl => true
  | _ => false
theorem old_of_plain {v : AV} (h : v.plain = true) (n : Nat) : v.old n = true := by cases v <;> simp_all [AV.plain, AV.old]
theorem isCell_of_plain {v : AV} (h : v.plain = true) : v.isCell = true := by cases v <;> simp_all [AV.plain, AV.isCell]
@[simp] theorem old_int (n : Nat) (k : IntKind) (i : Int) : AV.old n (.int k i) = true := (rfl)
@[simp] theorem old_bool (n : Nat) (b : Bool) : AV.old n (.bool b) = true := (rfl)
@[simp] theorem old_str (n : Nat) (s : List UInt8) : AV.old n (.str s) = true := (rfl)
@[simp] theorem old_nsl (n : Nat) : AV.old n .nsl = true := (rfl)
@[simp] theorem old_nil (n : Nat) : AV.old n .nil = true := (rfl)
@[simp] theorem old_top (n : Nat) : AV.old n .top = true := (rfl)
@[simp] theorem old_agg (n : Nat) (l : List AV) : AV.old n (.agg l) = AV.old.oldL n l := (rfl)
@[simp] theorem old_ptr (n b o : Nat) : AV.old n (.ptr b o) = decide (b < n) := (rfl)
@[simp] theorem old_sl (n b o l c s : Nat) : AV.old n (.sl b o l c s) = decide (b < n) := (rfl)
@[simp] theorem oldL_nil' (n : Nat) : AV.old.oldL n [] = true := (rfl)
@[simp] theorem oldL_cons' (n : Nat) (v : AV) (l : List AV) : AV.old.oldL n (v :: l) = (v.old n && AV.old.oldL n l) := (rfl)
theorem oldL_plain (n : Nat) : ∀ {l : List AV}, l.all AV.plain = true → AV.old.oldL n l = true
  | [], _ => rfl
  | v :: l, h => by
    simp only [List.all_cons, Bool.and_eq_true] at h
    simp [old_of_plain h.1, oldL_plain n h.2]
@[simp] theorem plain_int (k : IntKind) (i : Int) : AV.plain (.int k i) = true := (rfl)
@[simp] theorem plain_u8 (x) : AV.plain (u8 x) = true := (rfl)
@[simp] theorem plain_u32 (x) : AV.plain (u32 x) = true := (rfl)
@[simp] theorem plain_u64 (x) : AV.plain (u64 x) = true := (rfl)
@[simp] theorem plain_bool (b : Bool) : AV.plain (.bool b) = true := (rfl)
@[simp] theorem plain_str (s : List UInt8) : AV.plain (.str s) = true := (rfl)
@[simp] theorem plain_nsl : AV.plain .nsl = true := (rfl)
theorem retract_old {n : Nat} {vs : List AV} {H : Heap} (h : AV.old.oldL n vs = true) : retract n vs H = some (vs, H.take n) := by unfold retract; rw [h]; rfl
theorem retract_app {H L : Heap} {vs : List AV} (h : AV.old.oldL H.length vs = true) : retract H.length vs (H ++ L) = some (vs, H) := by
  rw [retract_old h, List.take_left]
theorem retract_self {H : Heap} {vs : List AV} (h : AV.old.oldL H.length vs = true) : retract H.length vs H = some (vs, H) := by
  rw [retract_old h, List.take_length]
theorem retract_len {n : Nat} {H : Heap} {vs : List AV} (hn : n = H.length) (h : AV.old.oldL n vs = true) : retract n vs H = some (vs, H) := by
  rw [retract_old h, hn, List.take_length]
@[simp] theorem piece_none (c : List AV) (o : Nat) : piece c o none = c[o]? := (rfl)
theorem piece_some (c : List AV) (o n : Nat) : piece c o (some n) = if o + n ≤ c.length then some (.agg ((c.drop o).take n)) else none := rfl
theorem get_new (H L : Heap) (k : Nat) : (H ++ L)[H.length + k]? = L[k]? := by
  rw [List.getElem?_append_right (by omega), Nat.add_sub_cancel_left]
theorem ld_new (H L : Heap) (n : Option Nat) (k o : Nat) : ld (H ++ L) n (.ptr (H.length + k) o) = ld L n (.ptr k o) := by
  simp only [ld, cellsOf, get_new]
theorem ld_new0 (H L : Heap) (n : Option Nat) (o : Nat) : ld (H ++ L) n (.ptr H.length o) = ld L n (.ptr 0 o) := by
  have := ld_new H L n 0 o
  simpa using this
@[simp] theorem ld_hi {H L : Heap} {n : Option Nat} {b o : Nat} (h : H.length ≤ b) : ld (H ++ L) n (.ptr b o) = ld L n (.ptr (b - H.length) o) := by
  have := ld_new H L n (b - H.length) o
  rwa [show H.length + (b - H.length) = b by omega] at this
@[simp] theorem ld_hit (c : List AV) (L : Heap) (n : Option Nat) (o : Nat) : ld (.rw c :: L) n (.ptr 0 o) = piece c o n := (rfl)
@[simp] theorem ld_hitRo (c : List AV) (L : Heap) (n : Option Nat) (o : Nat) : ld (.ro c :: L) n (.ptr 0 o) = piece c o n := (rfl)
@[simp] theorem ld_next (B : Blk) (L : Heap) (n : Option Nat) (k o : Nat) : ld (B :: L) n (.ptr (k + 1) o) = ld L n (.ptr k o) := by
  simp [ld, cellsOf]
theorem ld_at {H : Heap} {b : Nat} {B : Blk} {c : List AV} (h : H[b]? = some B) (hc : B.cells? = some c) (n : Option Nat) (o : Nat) : ld H n (.ptr b o) = piece c o n := by
  simp [ld, cellsOf, h, hc]
theorem ld_low {H : Heap} {b : Nat} {B : Blk} {c : List AV} (h : H[b]? = some B) (hc : B.cells? = some c) (L : Heap) (n : Option Nat) (o : Nat) : ld (H ++ L) n (.ptr b o) = piece c o n := by
  refine ld_at ?_ hc n o
  rw [List.getElem?_append_left (List.getElem?_eq_some_iff.1 h).1]; exact h
def stS (L : Heap) (k o : Nat) (vs : List AV) : Option Heap :=
  match L, k with
  | [], _ => none
  | .rw c :: L, 0 => if o + vs.length ≤ c.length then some (.rw (put c o vs) :: L) else none
  | _ :: _, 0 => none
  | B :: L, k + 1 => (stS L k o vs).map (B :: ·)
@[simp] theorem stS_hit (c : List AV) (L : Heap) (o : Nat) (vs : List AV) : stS (.rw c :: L) 0 o vs = if o + vs.length ≤ c.length then some (.rw (put c o vs) :: L) else none := (rfl)
@[simp] theorem stS_next (B : Blk) (L : Heap) (k o : Nat) (vs : List AV) : stS (B :: L) (k + 1) o vs = (stS L k o vs).map (B :: ·) := by
  cases B <;> rfl
theorem stOK_plain {n b : Nat} {vs : List AV} (h : vs.all AV.plain = true) : stOK n b vs = true := by
  unfold stOK
  have h1 : vs.all AV.isCell = true := List.all_eq_true.2 fun v hv => isCell_of_plain (List.all_eq_true.1 h v hv)
  have h2 : vs.all (AV.old (b + 1)) = true := List.all_eq_true.2 fun v hv => old_of_plain (List.all_eq_true.1 h v hv) _
  rw [h1, h2]; simp
theorem stS_eq : ∀ (L : Heap) (k o : Nat) (vs : List AV), stS L k o vs = (rwOf L k).bind fun c => if o + vs.length ≤ c.length then some (L.set k (.rw (put c o vs))) else none
  | [], k, o, vs => by simp [stS, rwOf]
  | .rw c :: L, 0, o, vs => by simp [stS, rwOf]
  | .ro c :: L, 0, o, vs => by simp [stS, rwOf]
  | .dead :: L, 0, o, vs => by simp [stS, rwOf]
  | B :: L, k + 1, o, vs => by
    rw [stS_next, stS_eq L k o vs]
    have h1 : rwOf (B :: L) (k + 1) = rwOf L k := by simp only [rwOf, List.getElem?_cons_succ]
    rw [h1]
    cases rwOf L k with
    | none => rfl
    | some c =>
      simp only [Option.bind_some, List.set_cons_succ]
      split <;> rfl
@[simp] theorem stS_app (M : Heap) (o : Nat) (vs : List AV) : ∀ (L : Heap) (k : Nat), L.length ≤ k → stS (L ++ M) k o vs = (stS M (k - L.length) o vs).map (L ++ ·)
  | [], k, _ => by simp
  | B :: L, 0, h => by simp at h
  | B :: L, k + 1, h => by
    simp only [List.cons_append, stS_next, List.length_cons]
    rw [stS_app M o vs L k (by simpa using h), Option.map_map, show k + 1 - (L.length + 1) = k - L.length by omega]
    rfl
theorem rwOf_new (H L : Heap) (k : Nat) : rwOf (H ++ L) (H.length + k) = rwOf L k := by
  simp only [rwOf, get_new]
theorem st_new {n : Nat} {H L : Heap} {sz k o : Nat} {v : AV} {vs : List AV} (hv : v.vcells = some vs) (hl : vs.length = sz) (hp : vs.all AV.plain = true) : st n (H ++ L) sz (.ptr (H.length + k) o) v = (stS L k o vs).map (H ++ ·) := by
  unfold st
  simp only [rwOf_new, stS_eq, hv, Option.bind_some, hl, if_true, stW]
  cases rwOf L k with
  | none => rfl
  | some c =>
    simp only [Option.bind_some, stOK_plain hp, and_true]
    subst hl
    split
    · simp
    · rfl
theorem st_new0 {n : Nat} {H L : Heap} {sz o : Nat} {v : AV} {vs : List AV} (hv : v.vcells = some vs) (hl : vs.length = sz) (hp : vs.all AV.plain = true) : st n (H ++ L) sz (.ptr H.length o) v = (stS L 0 o vs).map (H ++ ·) := by
  have := st_new (n := n) (H := H) (L := L) (k := 0) (o := o) hv hl hp
  simpa using this
theorem vcells_plain {v : AV} (h : v.plain = true) : v.vcells = some [v] := by cases v <;> simp_all [AV.plain, AV.vcells]
theorem st_hi {n : Nat} {H L : Heap} {b o : Nat} {v : AV} (h : v.plain = true) (hb : H.length ≤ b) : st n (H ++ L) 1 (.ptr b o) v = (stS L (b - H.length) o [v]).map (H ++ ·) := by
  have := st_new (n := n) (H := H) (L := L) (k := b - H.length) (o := o) (vcells_plain h) rfl (by simp [h])
  rwa [show H.length + (b - H.length) = b by omega] at this
@[simp] theorem st_hi_int {n : Nat} {H L : Heap} {b o : Nat} {k : IntKind} {i : Int} (hb : H.length ≤ b) : st n (H ++ L) 1 (.ptr b o) (.int k i) = (stS L (b - H.length) o [.int k i]).map (H ++ ·) := st_hi rfl hb
@[simp] theorem st_hi_u8 {n : Nat} {H L : Heap} {b o : Nat} {x} (hb : H.length ≤ b) : st n (H ++ L) 1 (.ptr b o) (u8 x) = (stS L (b - H.length) o [u8 x]).map (H ++ ·) := st_hi rfl hb
@[simp] theorem st_hi_u32 {n : Nat} {H L : Heap} {b o : Nat} {x} (hb : H.length ≤ b) : st n (H ++ L) 1 (.ptr b o) (u32 x) = (stS L (b - H.length) o [u32 x]).map (H ++ ·) := st_hi rfl hb
@[simp] theorem st_hi_u64 {n : Nat} {H L : Heap} {b o : Nat} {x} (hb : H.length ≤ b) : st n (H ++ L) 1 (.ptr b o) (u64 x) = (stS L (b - H.length) o [u64 x]).map (H ++ ·) := st_hi rfl hb
@[simp] theorem st_hi_bool {n : Nat} {H L : Heap} {b o : Nat} {i : Bool} (hb : H.length ≤ b) : st n (H ++ L) 1 (.ptr b o) (.bool i) = (stS L (b - H.length) o [.bool i]).map (H ++ ·) := st_hi rfl hb
@[simp] theorem st_hi_nsl {n : Nat} {H L : Heap} {b o : Nat} (hb : H.length ≤ b) : st n (H ++ L) 1 (.ptr b o) .nsl = (stS L (b - H.length) o [.nsl]).map (H ++ ·) := st_hi rfl hb
@[simp] theorem st_hiA {n : Nat} {H L : Heap} {sz b o : Nat} {l : List AV} (hl : l.length = sz) (h : l.all AV.plain = true) (hb : H.length ≤ b) : st n (H ++ L) sz (.ptr b o) (.agg l) = (stS L (b - H.length) o l).map (H ++ ·) := by
  have := st_new (n := n) (H := H) (L := L) (k := b - H.length) (o := o) (v := .agg l) rfl hl h
  rwa [show H.length + (b - H.length) = b by omega] at this
theorem st_low {n : Nat} {H : Heap} {sz b o : Nat} {c : List AV} {v : AV} {vs : List AV} (hb : H[b]? = some (.rw c)) (hv : v.vcells = some vs) (hl : vs.length = sz) (hp : vs.all AV.plain = true) (ho : o + sz ≤ c.length) : st n H sz (.ptr b o) v = some (H.set b (.rw (put c o vs))) := by
  unfold st
  have : rwOf H b = some c := by simp [rwOf, hb]
  simp only [this, hv, Option.bind_some, hl, if_true, stW, stOK_plain hp, and_true]
  subst hl
  rw [if_pos ho]
@[simp] theorem put_one (c : List AV) (o : Nat) (v : AV) : put c o [v] = c.set o v := (rfl)
theorem put_more (c : List AV) (o : Nat) (v w : AV) (l : List AV) : put c o (v :: w :: l) = c.take o ++ (v :: w :: l) ++ c.drop (o + (v :: w :: l).length) := rfl
theorem i64_wrap {n : Int} (h1 : -9223372036854775808 ≤ n) (h2 : n < 9223372036854775808) : IntKind.i64.wrap n = n := by
  simp only [IntKind.wrap, IntKind.bits, IntKind.signed]
  simp
  try omega
theorem bin_add_i64 {a b : Int} (h1 : -9223372036854775808 ≤ a + b) (h2 : a + b < 9223372036854775808) : AV.bin .add (i64 a) (i64 b) = some (i64 (a + b)) := by
  simp [AV.bin, intBin, i64_wrap h1 h2]
theorem bin_sub_i64 {a b : Int} (h1 : -9223372036854775808 ≤ a - b) (h2 : a - b < 9223372036854775808) : AV.bin .sub (i64 a) (i64 b) = some (i64 (a - b)) := by
  simp [AV.bin, intBin, i64_wrap h1 h2]
theorem bin_mul_i64 {a b : Int} (h1 : -9223372036854775808 ≤ a * b) (h2 : a * b < 9223372036854775808) : AV.bin .mul (i64 a) (i64 b) = some (i64 (a * b)) := by
  simp [AV.bin, intBin, i64_wrap h1 h2]
@[simp] theorem bin_lss_i64 (a b : Int) : AV.bin .lss (i64 a) (i64 b) = some (.bool (decide (a < b))) := by simp [AV.bin, intBin]
@[simp] theorem bin_leq_i64 (a b : Int) : AV.bin .leq (i64 a) (i64 b) = some (.bool (decide (a ≤ b))) := by simp [AV.bin, intBin]
@[simp] theorem bin_gtr_i64 (a b : Int) : AV.bin .gtr (i64 a) (i64 b) = some (.bool (decide (a > b))) := by simp [AV.bin, intBin]
@[simp] theorem bin_geq_i64 (a b : Int) : AV.bin .geq (i64 a) (i64 b) = some (.bool (decide (a ≥ b))) := by simp [AV.bin, intBin]
@[simp] theorem bin_eql_i64 (a b : Int) : AV.bin .eql (i64 a) (i64 b) = some (.bool (a == b)) := by simp [AV.bin, intBin]
@[simp] theorem bin_neq_i64 (a b : Int) : AV.bin .neq (i64 a) (i64 b) = some (.bool (a != b)) := by simp [AV.bin, intBin]
theorem bin_quo_u64 (x y : UInt64) (h : y ≠ 0) : AV.bin .quo (u64 x) (u64 y) = some (u64 (x / y)) := by
  have h0 : ¬ ((y.toNat : Int) = 0) := by
    intro h1; apply h
    exact UInt64.toNat_inj.1 (by simpa using h1)
  unfold u64
  simp only [AV.bin, intBin, ne_eq, not_true_eq_false, if_false, h0]
  congr 2
  rw [show ((x.toNat : Int).tdiv (y.toNat : Int)) = ((x / y).toNat : Int) by rw [UInt64.toNat_div]; exact (Int.ofNat_tdiv _ _).symm, wrap_u64_toNat]
theorem bin_rem_u64 (x y : UInt64) (h : y ≠ 0) : AV.bin .rem (u64 x) (u64 y) = some (u64 (x % y)) := by
  have h0 : ¬ ((y.toNat : Int) = 0) := by
    intro h1; apply h
    exact UInt64.toNat_inj.1 (by simpa using h1)
  unfold u64
  simp only [AV.bin, intBin, ne_eq, not_true_eq_false, if_false, h0]
  congr 2
@[simp] theorem idxP_i64 (len sz b o : Nat) (j : Int) : AV.idxP len sz (.ptr b o) (i64 j) = if 0 ≤ j ∧ j < len then some (.ptr b (o + j.toNat * sz)) else none := (rfl)
theorem idxP_nat {len sz b o i : Nat} (h : i < len) : AV.idxP len sz (.ptr b o) (i64 i) = some (.ptr b (o + i * sz)) := by
  simp [AV.idxP, h]
theorem idxP_u64 {len sz b o : Nat} {i : UInt64} (h : i.toNat < len) : AV.idxP len sz (.ptr b o) (u64 i) = some (.ptr b (o + i.toNat * sz)) := by
  simp [u64, AV.idxP, h]
theorem idxS_nat {sz b o len cap i : Nat} (h : i < len) : AV.idxS sz (.sl b o len cap sz) (i64 i) = some (.ptr b (o + i * sz)) := by
  simp [AV.idxS, h]
end Go.Sx
namespace Go.Sx
open Go
theorem byteCells_map (s : List UInt8) : byteCells s = s.map u8 := rfl
def slPtr : AV → Nat → AV
  | .sl b o _ _ sz, i => .ptr b (o + i * sz)
  | _, _ => .top
def slSub : AV → Nat → Nat → AV
  | .sl b o _ cap sz, lo, hi => .sl b (o + lo * sz) (hi - lo) (cap - lo) sz
  | _, _, _ => .nsl
def IsSl {α : Type} (enc : α → AV) (H : Heap) (v : AV) (l : List α) : Prop :=
  (v = .nsl ∧ l = []) ∨ ∃ b o cap c, v = .sl b o l.length cap 1 ∧ l.length ≤ cap ∧ cellsOf H b = some c ∧ o + l.length ≤ c.length ∧ (c.drop o).take l.length = l.map enc
section
variable {α : Type} {enc : α → AV} {H : Heap} {v : AV} {l : List α}
theorem cellsOf_app {H : Heap} {b : Nat} {c : List AV} (h : cellsOf H b = some c) (B : Heap) : cellsOf (H ++ B) b = some c := by
  unfold cellsOf at h ⊢
  cases hb : H[b]? with
  | none => rw [hb] at h; cases h
  | some x =>
    rw [List.getElem?_append_left (List.getElem?_eq_some_iff.1 hb).1, hb]
    rw [hb] at h; exact h
theorem cellsV_lt {H : Heap} {b : Nat} {c : List AV} (h : cellsOf H b = some c) : b < H.length := by
  unfold cellsOf at h
  rcases Nat.lt_or_ge b H.length with hb | hb
  · exact hb
  · rw [List.getElem?_eq_none hb] at h; cases h
theorem IsSl.grow (h : IsSl enc H v l) (B : Heap) : IsSl enc (H ++ B) v l := by
  rcases h with h | ⟨b, o, cap, c, h1, h2, h3, h4⟩
  · exact .inl h
  · exact .inr ⟨b, o, cap, c, h1, h2, cellsOf_app h3 B, h4⟩
theorem IsSl.len (h : IsSl enc H v l) : AV.len v = some (i64 l.length) := by
  rcases h with ⟨rfl, rfl⟩ | ⟨b, o, cap, c, rfl, h2, h3, h4⟩ <;> rfl
theorem IsSl.idxk (h : IsSl enc H v l) (k : IntKind) {i : Nat} (hi : i < l.length) : AV.idxS 1 v (.int k (i : Int)) = some (slPtr v i) := by
  rcases h with ⟨rfl, rfl⟩ | ⟨b, o, cap, c, rfl, h2, h3, h4⟩
  · simp at hi
  · simp [AV.idxS, hi, slPtr]
theorem IsSl.idx (h : IsSl enc H v l) {i : Nat} (hi : i < l.length) : AV.idxS 1 v (i64 (i : Int)) = some (slPtr v i) := h.idxk .i64 hi
theorem IsSl.ld (h : IsSl enc H v l) {i : Nat} (hi : i < l.length) : Sx.ld H none (slPtr v i) = some (enc (l[i])) := by
  rcases h with ⟨rfl, rfl⟩ | ⟨b, o, cap, c, rfl, h2, h3, h4, h5⟩
  · simp at hi
  · have : ((c.drop o).take l.length)[i]? = some (enc l[i]) := by rw [h5]; simp [hi]
    rw [List.getElem?_take, if_pos hi, List.getElem?_drop] at this
    simp [Sx.ld, slPtr, h3, this]
theorem IsSl.ldB (h : IsSl enc H v l) (B : Heap) {i : Nat} (hi : i < l.length) : Sx.ld (H ++ B) none (slPtr v i) = some (enc (l[i])) := (h.grow B).ld hi
theorem IsSl.src (h : IsSl enc H v l) : srcCells H 1 v = some (l.length, l.map enc) := by
  rcases h with ⟨rfl, rfl⟩ | ⟨b, o, cap, c, rfl, h2, h3, h4, h5⟩
  · rfl
  · simp [srcCells, h3, h4, h5]
theorem IsSl.srcB (h : IsSl enc H v l) (B : Heap) : srcCells (H ++ B) 1 v = some (l.length, l.map enc) := (h.grow B).src
theorem bounds_lohi {len cap lo hi : Nat} {k1 k2 : IntKind} (h1 : lo ≤ hi) (h2 : hi ≤ cap) : bounds len cap (some (.int k1 (lo : Int))) (some (.int k2 (hi : Int))) none = some (lo, hi, cap) := by
  simp [bounds, bnd, h1, h2]
theorem bounds_lo {len cap lo : Nat} {k1 : IntKind} (h1 : lo ≤ len) (h2 : len ≤ cap) : bounds len cap (some (.int k1 (lo : Int))) none none = some (lo, len, cap) := by
  simp [bounds, bnd, h1]
theorem bounds_hi {len cap hi : Nat} {k1 : IntKind} (h2 : hi ≤ cap) : bounds len cap none (some (.int k1 (hi : Int))) none = some (0, hi, cap) := by
  simp [bounds, bnd, h2]
theorem bounds_himx {len cap hi mx : Nat} {k1 k2 : IntKind} (h1 : hi ≤ mx) (h2 : mx ≤ cap) : bounds len cap none (some (.int k1 (hi : Int))) (some (.int k2 (mx : Int))) = some (0, hi, mx) := by
  simp [bounds, bnd, h1, h2]
theorem bounds_no {len cap : Nat} (h : len ≤ cap) : bounds len cap none none none = some (0, len, cap) := by
  simp [bounds, bnd]
theorem IsSl.sub (h : IsSl enc H v l) {lo hi : Nat} (h1 : lo ≤ hi) (h2 : hi ≤ l.length) : IsSl enc H (slSub v lo hi) ((l.drop lo).take (hi - lo)) := by
  rcases h with ⟨rfl, rfl⟩ | ⟨b, o, cap, c, rfl, g2, g3, g4, g5⟩
  · exact .inl ⟨rfl, by simp⟩
  · have hl : ((l.drop lo).take (hi - lo)).length = hi - lo := by simp; omega
    refine .inr ⟨b, o + lo, cap - lo, c, by simp [slSub]; omega, by rw [hl]; omega, g3, by rw [hl]; omega, ?_⟩
    rw [hl, List.map_take, List.map_drop, ← g5, List.drop_take, List.take_take, List.drop_drop]
    congr 1; omega
theorem IsSl.slc (h : IsSl enc H v l) {k1 k2 : IntKind} {lo hi : Nat} (h1 : lo ≤ hi) (h2 : hi ≤ l.length) : AV.slcS 1 v (some (.int k1 (lo : Int))) (some (.int k2 (hi : Int))) none = some (slSub v lo hi) := by
  rcases h with ⟨rfl, rfl⟩ | ⟨b, o, cap, c, rfl, g2, g3, g4, g5⟩
  · simp at h2; subst h2; simp at h1; subst h1; rfl
  · simp only [AV.slcS, if_true, bounds_lohi h1 (Nat.le_trans h2 g2), Option.bind_some, slSub]
theorem IsSl.slcLo (h : IsSl enc H v l) {k1 : IntKind} {lo : Nat} (h1 : lo ≤ l.length) : AV.slcS 1 v (some (.int k1 (lo : Int))) none none = some (slSub v lo l.length) := by
  rcases h with ⟨rfl, rfl⟩ | ⟨b, o, cap, c, rfl, g2, g3, g4, g5⟩
  · simp at h1; subst h1; rfl
  · simp only [AV.slcS, if_true, bounds_lo h1 g2, Option.bind_some, slSub]
theorem IsSl.slcHi (h : IsSl enc H v l) {k1 : IntKind} {hi : Nat} (h1 : hi ≤ l.length) : AV.slcS 1 v none (some (.int k1 (hi : Int))) none = some (slSub v 0 hi) := by
  rcases h with ⟨rfl, rfl⟩ | ⟨b, o, cap, c, rfl, g2, g3, g4, g5⟩
  · simp at h1; subst h1; rfl
  · simp only [AV.slcS, if_true, bounds_hi (Nat.le_trans h1 g2), Option.bind_some, slSub]
theorem IsSl.subHi (h : IsSl enc H v l) {hi : Nat} (h2 : hi ≤ l.length) : IsSl enc H (slSub v 0 hi) (l.take hi) := by
  have := h.sub (Nat.zero_le hi) h2
  simpa using this
theorem IsSl.subLo (h : IsSl enc H v l) {lo : Nat} (h2 : lo ≤ l.length) : IsSl enc H (slSub v lo l.length) (l.drop lo) := by
  have := h.sub h2 (Nat.le_refl _)
  rwa [List.take_of_length_le (by simp)] at this
theorem IsSl.at {b o cap : Nat} {c : List AV} (hc : cellsOf H b = some c) (hcap : l.length ≤ cap) (ho : o + l.length ≤ c.length) (h : (c.drop o).take l.length = l.map enc) {n : Nat} (hn : n = l.length) : IsSl enc H (.sl b o n cap 1) l := by
  subst hn
  exact .inr ⟨b, o, cap, c, rfl, hcap, hc, ho, h⟩
theorem IsSl.whole {b cap : Nat} (hc : cellsOf H b = some (l.map enc)) {n : Nat} (hn : n = l.length) (hcap : l.length ≤ cap) : IsSl enc H (.sl b 0 n cap 1) l :=
  .at hc hcap (by simp) (by rw [List.drop_zero, List.take_of_length_le (by simp)]) hn
theorem IsSl.nsl : IsSl enc H .nsl [] := .inl ⟨rfl, rfl⟩
def own (n : Nat) (l : List α) : AV := if l = [] then .nsl else .sl n 0 l.length l.length 1
def ownH (enc : α → AV) (l : List α) : Heap := if l = [] then [] else [.rw (l.map enc)]
theorem cellsV_new (H L : Heap) (k : Nat) : cellsOf (H ++ L) (H.length + k) = cellsOf L k := by
  simp only [cellsOf, get_new]
theorem IsSl.own (B T : Heap) (l : List α) {n : Nat} (hn : n = B.length) : IsSl enc (B ++ ownH enc l ++ T) (Sx.own n l) l := by
  subst hn
  unfold Sx.own ownH
  by_cases h : l = []
  · simp [h]; exact .nsl
  · rw [if_neg h, if_neg h]
    refine .whole (cellsOf_app ?_ T) rfl (Nat.le_refl _)
    have := cellsV_new B [.rw (l.map enc)] 0
    simpa [cellsOf, Blk.cells?] using this
theorem own_nil {n : Nat} : Sx.own n ([] : List α) = .nsl := by simp [Sx.own]
theorem own_pos {n : Nat} {l : List α} (h : l ≠ []) : Sx.own n l = .sl n 0 l.length l.length 1 := by simp [Sx.own, h]
theorem ownH_nil : ownH enc [] = [] := by simp [ownH]
theorem ownH_pos {l : List α} (h : l ≠ []) : ownH enc l = [.rw (l.map enc)] := by simp [ownH, h]
def Plain (enc : α → AV) : Prop := ∀ x, (enc x).plain = true
theorem plain_of_u8 : Plain u8 := fun _ => rfl
theorem plain_of_u32 : Plain u32 := fun _ => rfl
theorem plain_of_u64 : Plain u64 := fun _ => rfl
theorem map_plain (he : Plain enc) (l : List α) : (l.map enc).all AV.plain = true := by
  rw [List.all_eq_true]; intro x hx; rw [List.mem_map] at hx; obtain ⟨y, _, rfl⟩ := hx; exact he y
theorem map_cell (he : Plain enc) (l : List α) : (l.map enc).all AV.isCell = true := by
  rw [List.all_eq_true]; intro x hx; rw [List.mem_map] at hx; obtain ⟨y, _, rfl⟩ := hx; exact isCell_of_plain (he y)
theorem append_own (he : Plain enc) {B T : Heap} {l m : List α} {n : Nat} (hn : n = B.length) {x : AV} (hx : IsSl enc (B ++ ownH enc l ++ T) x m) (hlim : l.length + m.length ≤ lim) :
    appendA (B ++ ownH enc l ++ T) 1 (Sx.own n l) x = some (if l = [] ∧ m = [] then (.nsl, B ++ T) else if l = [] then (.sl (B.length + T.length) 0 m.length m.length 1, B ++ T ++ [.rw (m.map enc)]) else (.sl (B.length + 1 + T.length) 0 (l.length + m.length) (l.length + m.length) 1, B ++ [.dead] ++ T ++ [.rw ((l ++ m).map enc)])) := by
  subst hn
  unfold appendA
  rw [hx.src]
  simp only [Option.bind_some]
  by_cases h : l = []
  · subst h
    simp only [own_nil, ownH_nil, List.append_nil, true_and, if_true]
    by_cases hm : m = []
    · subst hm; simp
    · have h0 : m.length ≠ 0 := by simpa using hm
      simp at hlim
      simp [h0, hlim, hm]
  · rw [own_pos h, ownH_pos h]
    have hr : rwOf (B ++ [.rw (l.map enc)] ++ T) B.length = some (l.map enc) := by
      simp [rwOf, List.getElem?_append_right]
    simp only [hr, Option.bind_some, true_and, Nat.mul_one, List.length_map, Nat.le_refl, if_pos, h, false_and, if_false, hlim, map_cell he m, and_true]
    simp [← List.map_take, List.take_of_length_le]
    omega
theorem names_plain {v : AV} (h : v.plain = true) (n : Nat) : v.names n = [] := by cases v <;> simp_all [AV.plain, AV.names]
theorem namesL_plain (n : Nat) : ∀ {l : List AV}, l.all AV.plain = true → AV.names.namesL n l = []
  | [], _ => rfl
  | v :: l, h => by
    simp only [List.all_cons, Bool.and_eq_true] at h
    simp [AV.names.namesL, names_plain h.1, namesL_plain n h.2]
theorem ren_plain {v : AV} (h : v.plain = true) (n : Nat) (rs : List Nat) : v.ren n rs = v := by cases v <;> simp_all [AV.plain, AV.ren]
theorem renL_plain (n : Nat) (rs : List Nat) : ∀ {l : List AV}, l.all AV.plain = true → AV.ren.renL n rs l = l
  | [], _ => rfl
  | v :: l, h => by
    simp only [List.all_cons, Bool.and_eq_true] at h
    simp [AV.ren.renL, ren_plain h.1, renL_plain n rs h.2]
theorem namesL_app (n : Nat) : ∀ (l m : List AV), AV.names.namesL n (l ++ m) = AV.names.namesL n l ++ AV.names.namesL n m
  | [], m => rfl
  | v :: l, m => by simp [AV.names.namesL, namesL_app n l m]
theorem renL_app (n : Nat) (rs : List Nat) : ∀ (l m : List AV), AV.ren.renL n rs (l ++ m) = AV.ren.renL n rs l ++ AV.ren.renL n rs m
  | [], m => rfl
  | v :: l, m => by simp [AV.ren.renL, renL_app n rs l m]
theorem oldL_app (n : Nat) : ∀ (l m : List AV), AV.old.oldL n (l ++ m) = (AV.old.oldL n l && AV.old.oldL n m)
  | [], m => rfl
  | v :: l, m => by simp [oldL_app n l m, Bool.and_assoc]
theorem retract_slL {n b len cap sz o : Nat} {p q : List AV} {H : Heap} {c : List AV} (hp : p.all AV.plain = true) (hq : q.all AV.plain = true) (hb : n ≤ b) (hc : rwOf H b = some c) (hcp : c.all AV.plain = true) :
    retract n (p ++ .sl b o len cap sz :: q) H = some (p ++ .sl n o len cap sz :: q, H.take n ++ [.rw c]) := by
  unfold retract
  have h1 : AV.old.oldL n (p ++ .sl b o len cap sz :: q) = false := by
    rw [oldL_app]; simp; intro _ h; omega
  have h2 : AV.names.namesL n (p ++ .sl b o len cap sz :: q) = [b] := by
    rw [namesL_app, namesL_plain n hp]; simp [AV.names.namesL, AV.names, namesL_plain n hq, hb]
  have h3 : AV.ren.renL n (dedup [b]) (p ++ .sl b o len cap sz :: q) = p ++ .sl n o len cap sz :: q := by
    rw [renL_app, renL_plain n _ hp]; simp [AV.ren.renL, AV.ren, renL_plain n _ hq, hb, dedup, place]
  simp only [h1, h2, h3, cond_ff]
  simp [dedup, grab, hc, oldL_plain n hcp]
theorem retract_sl0 {n b len cap sz o : Nat} {q : List AV} {H : Heap} {c : List AV} (hq : q.all AV.plain = true) (hb : n ≤ b) (hc : rwOf H b = some c) (hcp : c.all AV.plain = true) :
    retract n (.sl b o len cap sz :: q) H = some (.sl n o len cap sz :: q, H.take n ++ [.rw c]) := retract_slL (p := []) rfl hq hb hc hcp
theorem retract_sl1 {n b len cap sz o : Nat} {x : AV} {q : List AV} {H : Heap} {c : List AV} (hp : x.plain = true) (hq : q.all AV.plain = true) (hb : n ≤ b) (hc : rwOf H b = some c) (hcp : c.all AV.plain = true) :
    retract n (x :: .sl b o len cap sz :: q) H = some (x :: .sl n o len cap sz :: q, H.take n ++ [.rw c]) := retract_slL (p := [x]) (by simp [hp]) hq hb hc hcp
theorem retract_plain {n : Nat} {vs : List AV} {H : Heap} (h : vs.all AV.plain = true) : retract n vs H = some (vs, H.take n) := retract_old (oldL_plain n h)
theorem push_own (he : Plain enc) {B T : Heap} {l m : List α} {n : Nat} (hn : n = B.length) {x : AV} (hx : IsSl enc (B ++ ownH enc l ++ T) x m) (hlim : l.length + m.length ≤ lim) :
    ∃ y H', appendA (B ++ ownH enc l ++ T) 1 (Sx.own n l) x = some (y, H') ∧ (∃ B', H' = B ++ B') ∧ AV.len y = some (i64 (l ++ m).length) ∧
      (∀ (p q : List AV) (T' : Heap), p.all AV.plain = true → q.all AV.plain = true → retract n (p ++ y :: q) (H' ++ T') = some (p ++ Sx.own n (l ++ m) :: q, B ++ ownH enc (l ++ m))) ∧ IsSl enc H' y (l ++ m) := by
  have hap := append_own he hn hx hlim
  subst hn
  by_cases h : l = []
  · subst h
    by_cases hm : m = []
    · subst hm
      simp only [and_self, if_true] at hap
      refine ⟨_, _, hap, ⟨_, rfl⟩, rfl, fun p q T' hp hq => ?_, .nsl⟩
      rw [List.append_nil, own_nil, ownH_nil, List.append_nil, retract_plain (by rw [List.all_append, hp, List.all_cons, hq]; rfl)]
      rw [List.append_assoc, List.take_left]
    · simp only [hm, and_false, if_false, if_true] at hap
      refine ⟨_, _, hap, ⟨T ++ [.rw (m.map enc)], by simp⟩, by simp, fun p q T' hp hq => ?_, ?_⟩
      · rw [List.nil_append, own_pos hm, ownH_pos hm]
        rw [retract_slL hp hq (by omega) (c := m.map enc) ?_ (map_plain he m)]
        · rw [List.append_assoc, List.append_assoc, List.take_left]
        · have : B.length + T.length = (B ++ T).length + 0 := by simp
          rw [List.append_assoc, this, rwOf_new]; rfl
      · refine .whole ?_ rfl (Nat.le_refl _)
        have : B.length + T.length = (B ++ T).length + 0 := by simp
        rw [this, cellsV_new]; rfl
  · have hlm : l ++ m ≠ [] := by simp [h]
    simp only [h, false_and, if_false] at hap
    refine ⟨_, _, hap, ⟨[.dead] ++ T ++ [.rw ((l ++ m).map enc)], by simp⟩, by simp, fun p q T' hp hq => ?_, ?_⟩
    · rw [own_pos hlm, ownH_pos hlm]
      rw [retract_slL hp hq (by omega) (c := (l ++ m).map enc) ?_ (map_plain he _)]
      · simp [List.take_append_of_le_length]
      · have : B.length + 1 + T.length = (B ++ [Blk.dead] ++ T).length + 0 := by simp; omega
        rw [List.append_assoc, this, rwOf_new]; rfl
    · refine .whole ?_ (by simp) (by simp)
      have : B.length + 1 + T.length = (B ++ [Blk.dead] ++ T).length + 0 := by simp; omega
      rw [this, cellsV_new]; rfl
theorem append_nsl (he : Plain enc) {x : AV} {m : List α} (hx : IsSl enc H x m) (hm : m ≠ []) (hlim : m.length ≤ lim) : appendA H 1 .nsl x = some (.sl H.length 0 m.length m.length 1, H ++ [.rw (m.map enc)]) := by
  have h0 : m.length ≠ 0 := by simpa using hm
  simp [appendA, hx.src, h0, hlim]
theorem append_none {x : AV} (hx : IsSl enc H x []) : appendA H 1 .nsl x = some (.nsl, H) := by
  simp [appendA, hx.src]
theorem append_sl (he : Plain enc) {x : AV} {m : List α} (hx : IsSl enc H x m) {b : Nat} {c : List AV} (hb : rwOf H b = some c) {len cap : Nat} (hc : cap ≤ c.length) (hl : len ≤ cap) (hlim : len + m.length ≤ lim) :
    appendA H 1 (.sl b 0 len cap 1) x = some (.sl H.length 0 (len + m.length) (len + m.length) 1, H.set b .dead ++ [.rw (c.take len ++ m.map enc)]) := by
  simp [appendA, hx.src, hb, hc, hl, hlim]
  intro y hy
  exact isCell_of_plain (he y)
@[simp] theorem rwOf_hi {H L : Heap} {b : Nat} (h : H.length ≤ b) : rwOf (H ++ L) b = rwOf L (b - H.length) := by
  have := rwOf_new H L (b - H.length)
  rwa [show H.length + (b - H.length) = b by omega] at this
@[simp] theorem rwOf_hit (c : List AV) (L : Heap) : rwOf (.rw c :: L) 0 = some c := rfl
@[simp] theorem rwOf_next (B : Blk) (L : Heap) (k : Nat) : rwOf (B :: L) (k + 1) = rwOf L k := by simp [rwOf]
@[simp] theorem cellsOf_hi {H L : Heap} {b : Nat} (h : H.length ≤ b) : cellsOf (H ++ L) b = cellsOf L (b - H.length) := by
  have := cellsV_new H L (b - H.length)
  rwa [show H.length + (b - H.length) = b by omega] at this
@[simp] theorem cellsOf_hit (c : List AV) (L : Heap) : cellsOf (.rw c :: L) 0 = some c := rfl
@[simp] theorem cellsOf_hitRo (c : List AV) (L : Heap) : cellsOf (.ro c :: L) 0 = some c := rfl
@[simp] theorem cellsOf_next (B : Blk) (L : Heap) (k : Nat) : cellsOf (B :: L) (k + 1) = cellsOf L k := by simp [cellsOf]
@[simp] theorem srcCells_sl (H : Heap) (sz b o len cap sz' : Nat) : srcCells H sz (.sl b o len cap sz') = (cellsOf H b).bd fun c => if sz' = sz ∧ o + len * sz ≤ c.length then some (len, (c.drop o).take (len * sz)) else none := (rfl)
@[simp] theorem srcCells_nsl (H : Heap) (sz : Nat) : srcCells H sz .nsl = some (0, []) := (rfl)
@[simp] theorem appendA_nsl (H : Heap) (sz : Nat) (x : AV) : appendA H sz .nsl x = (srcCells H sz x).bd fun p => if p.1 = 0 then some (.nsl, H) else if p.1 ≤ lim then some (.sl H.length 0 p.1 p.1 sz, H ++ [.rw p.2]) else none := (rfl)
@[simp] theorem appendA_sl (H : Heap) (sz b o len cap sz' : Nat) (x : AV) : appendA H sz (.sl b o len cap sz') x = (srcCells H sz x).bd fun p => (rwOf H b).bd fun c => if o = 0 ∧ sz' = sz ∧ cap * sz ≤ c.length ∧ len ≤ cap ∧ len + p.1 ≤ lim ∧ p.2.all AV.isCell = true then some (.sl H.length 0 (len + p.1) (len + p.1) sz, H.set b .dead ++ [.rw (c.take (len * sz) ++ p.2)]) else none := (rfl)
@[simp] theorem isCell_int (k n) : AV.isCell (.int k n) = true := (rfl)
@[simp] theorem isCell_bool (b) : AV.isCell (.bool b) = true := (rfl)
@[simp] theorem isCell_str (b) : AV.isCell (.str b) = true := (rfl)
@[simp] theorem retract_oldS {n : Nat} {vs : List AV} {H : Heap} (h : AV.old.oldL n vs = true) : retract n vs H = some (vs, H.take n) := retract_old h
@[simp] theorem take_add_app {β : Type} (l m : List β) (n : Nat) : (l ++ m).take (l.length + n) = l ++ m.take n := by
  rw [List.take_append, List.take_of_length_le (by omega)]; simp
@[simp] theorem take_len_app {β : Type} (l m : List β) : (l ++ m).take l.length = l := List.take_left
@[simp] theorem take_map_len {β γ : Type} (f : β → γ) (l : List β) : (l.map f).take l.length = l.map f := List.take_of_length_le (by simp)
theorem oldL_map {β : Type} {f : β → AV} (h : ∀ x, (f x).plain = true) (n : Nat) (l : List β) : AV.old.oldL n (l.map f) = true := by
  apply oldL_plain
  rw [List.all_eq_true]; intro x hx; rw [List.mem_map] at hx; obtain ⟨y, _, rfl⟩ := hx; exact h y
@[simp] theorem oldL_u8 (n : Nat) (l : List UInt8) : AV.old.oldL n (l.map u8) = true := oldL_map plain_of_u8 n l
@[simp] theorem oldL_u32 (n : Nat) (l : List UInt32) : AV.old.oldL n (l.map u32) = true := oldL_map plain_of_u32 n l
@[simp] theorem oldL_u64 (n : Nat) (l : List UInt64) : AV.old.oldL n (l.map u64) = true := oldL_map plain_of_u64 n l
@[simp] theorem oldV_append (n : Nat) (l m : List AV) : AV.old.oldL n (l ++ m) = (AV.old.oldL n l && AV.old.oldL n m) := oldL_app n l m
@[simp] theorem cellL_u8 (l : List UInt8) : (l.map u8).all AV.isCell = true := map_cell plain_of_u8 l
@[simp] theorem cellL_u32 (l : List UInt32) : (l.map u32).all AV.isCell = true := map_cell plain_of_u32 l
@[simp] theorem cellL_u64 (l : List UInt64) : (l.map u64).all AV.isCell = true := map_cell plain_of_u64 l
@[simp] theorem plainL_u8 (l : List UInt8) : (l.map u8).all AV.plain = true := map_plain plain_of_u8 l
@[simp] theorem plainL_u32 (l : List UInt32) : (l.map u32).all AV.plain = true := map_plain plain_of_u32 l
@[simp] theorem plainL_u64 (l : List UInt64) : (l.map u64).all AV.plain = true := map_plain plain_of_u64 l
def _root_.Go.Sx.AV.flat : AV → Bool
  | .int _ _ | .bool _ | .str _ | .nil | .nsl => true
  | .agg l => flatL l
  | .tup l => flatL l
  | _ => false
where flatL : List AV → Bool
  | [] => true
  | v :: l => v.flat && flatL l
@[simp] theorem flat_int (k n) : AV.flat (.int k n) = true := (rfl)
@[simp] theorem flat_bool (b) : AV.flat (.bool b) = true := (rfl)
@[simp] theorem flat_str (b) : AV.flat (.str b) = true := (rfl)
@[simp] theorem flat_nil : AV.flat .nil = true := (rfl)
@[simp] theorem flat_nsl : AV.flat .nsl = true := (rfl)
@[simp] theorem flat_u8 (x) : AV.flat (u8 x) = true := (rfl)
@[simp] theorem flat_u16 (x) : AV.flat (u16 x) = true := (rfl)
@[simp] theorem flat_u32 (x) : AV.flat (u32 x) = true := (rfl)
@[simp] theorem flat_u64 (x) : AV.flat (u64 x) = true := (rfl)
@[simp] theorem flat_agg (l) : AV.flat (.agg l) = AV.flat.flatL l := (rfl)
@[simp] theorem flat_tup (l) : AV.flat (.tup l) = AV.flat.flatL l := (rfl)
@[simp] theorem flatL_nil : AV.flat.flatL [] = true := (rfl)
@[simp] theorem flatL_cons (v l) : AV.flat.flatL (v :: l) = (v.flat && AV.flat.flatL l) := (rfl)
theorem flatL_app : ∀ (l m : List AV), AV.flat.flatL (l ++ m) = (AV.flat.flatL l && AV.flat.flatL m)
  | [], m => rfl
  | v :: l, m => by simp [flatL_app l m, Bool.and_assoc]
theorem flatL_plain : ∀ {l : List AV}, l.all AV.plain = true → AV.flat.flatL l = true
  | [], _ => rfl
  | v :: l, h => by
    simp only [List.all_cons, Bool.and_eq_true] at h
    have : v.flat = true := by have := h.1; cases v <;> simp_all [AV.plain]
    simp [this, flatL_plain h.2]
@[simp] theorem flatL_u8 (l : List UInt8) : AV.flat.flatL (l.map u8) = true := flatL_plain (map_plain plain_of_u8 l)
@[simp] theorem flatL_u32 (l : List UInt32) : AV.flat.flatL (l.map u32) = true := flatL_plain (map_plain plain_of_u32 l)
@[simp] theorem flatL_u64 (l : List UInt64) : AV.flat.flatL (l.map u64) = true := flatL_plain (map_plain plain_of_u64 l)
mutual
theorem old_flat : ∀ {v : AV}, v.flat = true → ∀ n, v.old n = true
  | .int _ _, _, _ => rfl
  | .bool _, _, _ => rfl
  | .str _, _, _ => rfl
  | .nil, _, _ => rfl
  | .nsl, _, _ => rfl
  | .agg l, h, n => oldL_flat (l := l) h n
  | .tup l, h, n => oldL_flat (l := l) h n
theorem oldL_flat : ∀ {l : List AV}, AV.flat.flatL l = true → ∀ n, AV.old.oldL n l = true
  | [], _, _ => rfl
  | v :: l, h, n => by
    simp only [flatL_cons, Bool.and_eq_true] at h
    simp [old_flat h.1 n, oldL_flat h.2 n]
end
mutual
theorem names_flat : ∀ {v : AV}, v.flat = true → ∀ n, v.names n = []
  | .int _ _, _, _ => rfl
  | .bool _, _, _ => rfl
  | .str _, _, _ => rfl
  | .nil, _, _ => rfl
  | .nsl, _, _ => rfl
  | .agg l, h, n => namesV_flat (l := l) h n
  | .tup l, h, n => namesV_flat (l := l) h n
theorem namesV_flat : ∀ {l : List AV}, AV.flat.flatL l = true → ∀ n, AV.names.namesL n l = []
  | [], _, _ => rfl
  | v :: l, h, n => by
    simp only [flatL_cons, Bool.and_eq_true] at h
    simp [AV.names.namesL, names_flat h.1 n, namesV_flat h.2 n]
end
mutual
theorem ren_flat : ∀ {v : AV}, v.flat = true → ∀ n rs, v.ren n rs = v
  | .int _ _, _, _, _ => rfl
  | .bool _, _, _, _ => rfl
  | .str _, _, _, _ => rfl
  | .nil, _, _, _ => rfl
  | .nsl, _, _, _ => rfl
  | .agg l, h, n, rs => by simp only [AV.ren]; rw [renL_flat (l := l) h n rs]
  | .tup l, h, n, rs => by simp only [AV.ren]; rw [renL_flat (l := l) h n rs]
theorem renL_flat : ∀ {l : List AV}, AV.flat.flatL l = true → ∀ n rs, AV.ren.renL n rs l = l
  | [], _, _, _ => rfl
  | v :: l, h, n, rs => by
    simp only [flatL_cons, Bool.and_eq_true] at h
    simp [AV.ren.renL, ren_flat h.1 n rs, renL_flat h.2 n rs]
end
theorem retract_slB {n b len cap sz o : Nat} {p q : List AV} {H : Heap} (hp : AV.flat.flatL p = true) (hq : AV.flat.flatL q = true) (hb : n ≤ b) :
    retract n (p ++ .sl b o len cap sz :: q) H = (rwOf H b).bd fun c => bif AV.old.oldL n c then some (p ++ .sl n o len cap sz :: q, H.take n ++ [.rw c]) else none := by
  unfold retract
  have h1 : AV.old.oldL n (p ++ .sl b o len cap sz :: q) = false := by
    rw [oldL_app]; simp; intro _ h; omega
  have h2 : AV.names.namesL n (p ++ .sl b o len cap sz :: q) = [b] := by
    rw [namesL_app, namesV_flat hp n]; simp [AV.names.namesL, AV.names, namesV_flat hq n, hb]
  have h3 : AV.ren.renL n (dedup [b]) (p ++ .sl b o len cap sz :: q) = p ++ .sl n o len cap sz :: q := by
    rw [renL_app, renL_flat hp n _]; simp [AV.ren.renL, AV.ren, renL_flat hq n _, hb, dedup, place]
  simp only [h1, h2, h3, cond_ff]
  simp only [dedup, List.filter_nil, grab]
  cases rwOf H b with
  | none => rfl
  | some c =>
    simp only [Option.bind_some, Option.bd_some]
    cases AV.old.oldL n c <;> rfl
@[simp] theorem retract_sl_0 {n b len cap sz o : Nat} {q : List AV} {H : Heap} (hq : AV.flat.flatL q = true) (hb : n ≤ b) :
    retract n (.sl b o len cap sz :: q) H = (rwOf H b).bd fun c => bif AV.old.oldL n c then some (.sl n o len cap sz :: q, H.take n ++ [.rw c]) else none := retract_slB (p := []) rfl hq hb
@[simp] theorem retract_sl_1 {n b len cap sz o : Nat} {x : AV} {q : List AV} {H : Heap} (hp : x.flat = true) (hq : AV.flat.flatL q = true) (hb : n ≤ b) :
    retract n (x :: .sl b o len cap sz :: q) H = (rwOf H b).bd fun c => bif AV.old.oldL n c then some (x :: .sl n o len cap sz :: q, H.take n ++ [.rw c]) else none := retract_slB (p := [x]) (by simp [hp]) hq hb
@[simp] theorem retract_sl_2 {n b len cap sz o : Nat} {x y : AV} {q : List AV} {H : Heap} (hp : x.flat = true) (hp2 : y.flat = true) (hq : AV.flat.flatL q = true) (hb : n ≤ b) :
    retract n (x :: y :: .sl b o len cap sz :: q) H = (rwOf H b).bd fun c => bif AV.old.oldL n c then some (x :: y :: .sl n o len cap sz :: q, H.take n ++ [.rw c]) else none := retract_slB (p := [x, y]) (by simp [hp, hp2]) hq hb
theorem putV_eq {c : List AV} {o : Nat} {vs : List AV} (h : o + vs.length ≤ c.length) : put c o vs = c.take o ++ vs ++ c.drop (o + vs.length) := by
  match vs, h with
  | [], h => rfl
  | [v], h =>
    show c.set o v = _
    have h' : o < c.length := by simp at h; omega
    rw [List.set_eq_take_append_cons_drop, if_pos h']; simp
  | v :: w :: l, h => rfl
@[simp] theorem put_all {c vs : List AV} (h : vs.length = c.length) : put c 0 vs = vs := by
  rw [putV_eq (by omega)]; simp [h]
@[simp] theorem bnd_none (d m : Nat) : bnd none d m = some d := (rfl)
@[simp] theorem bnd_int (k : IntKind) (i : Int) (d m : Nat) : bnd (some (.int k i)) d m = if 0 ≤ i ∧ i ≤ m then some i.toNat else none := (rfl)
@[simp] theorem bnd_u8 (x) (d m : Nat) : bnd (some (u8 x)) d m = if x.toNat ≤ m then some x.toNat else none := by simp [u8]
@[simp] theorem bnd_u64 (x) (d m : Nat) : bnd (some (u64 x)) d m = if x.toNat ≤ m then some x.toNat else none := by simp [u64]
@[simp] theorem slcP_ptr (n sz b o : Nat) (lo hi mx : Option AV) : AV.slcP n sz (.ptr b o) lo hi mx = (bnd mx n n).bd fun m => (bnd hi n m).bd fun h => (bnd lo 0 h).bd fun l => some (.sl b (o + l * sz) (h - l) (m - l) sz) := by
  simp only [AV.slcP, bounds, Option.bd_eq, Option.bind_assoc, Option.bind_some]
theorem plain_take {l : List AV} (h : l.all AV.plain = true) (k : Nat) : (l.take k).all AV.plain = true :=
  List.all_eq_true.2 fun x hx => List.all_eq_true.1 h x (List.mem_of_mem_take hx)
theorem plain_drop {l : List AV} (h : l.all AV.plain = true) (k : Nat) : (l.drop k).all AV.plain = true :=
  List.all_eq_true.2 fun x hx => List.all_eq_true.1 h x (List.mem_of_mem_drop hx)
theorem copy_sl {n : Nat} {H : Heap} {b o len cap : Nat} {s : AV} {m : Nat} {vs c : List AV} (hs : srcCells H 1 s = some (m, vs)) (hv : vs.all AV.plain = true) (hm : vs.length = m) (hb : rwOf H b = some c) (hl : len ≤ m ∨ m ≤ len) (ho : o + min m len ≤ c.length) :
    copyA n H 1 (.sl b o len cap 1) s = some (i64 (min m len : Nat), H.set b (.rw (c.take o ++ vs.take (min m len) ++ c.drop (o + min m len)))) := by
  have h1 : copyA n H 1 (.sl b o len cap 1) s = if Nat.min m len = 0 then some (.int .i64 0, H) else (rwOf H b).bind fun c => if o + (vs.take (Nat.min m len * 1)).length ≤ c.length ∧ stOK n b (vs.take (Nat.min m len * 1)) = true then some (.int .i64 (Nat.min m len : Nat), H.set b (.rw (c.take o ++ vs.take (Nat.min m len * 1) ++ c.drop (o + (vs.take (Nat.min m len * 1)).length)))) else none := by
    unfold copyA; rw [hs]; simp
  have e : Nat.min m len = min m len := rfl
  rw [h1, e, hb, Nat.mul_one]
  have h3 : (vs.take (min m len)).length = min m len := by simp [hm]
  rw [h3]
  by_cases h0 : min m len = 0
  · rw [if_pos h0, h0]
    have hbb : H[b]? = some (.rw c) := by
      unfold rwOf at hb
      split at hb
      · rename_i heq; cases hb; exact heq
      · cases hb
    have hset : H.set b (.rw (c.take o ++ vs.take 0 ++ c.drop (o + 0))) = H := by
      simp only [List.take_zero, List.append_nil, Nat.add_zero, List.take_append_drop]
      obtain ⟨h, he⟩ := List.getElem?_eq_some_iff.1 hbb
      rw [← he]
      exact List.set_getElem_self h
    rw [hset]; rfl
  · rw [if_neg h0]
    have h4 := stOK_plain (n := n) (b := b) (plain_take hv (min m len))
    simp only [Option.bind_some, h4, and_true, if_pos ho]
@[simp] theorem mkSl_i64 (H : Heap) (z : List AV) (bytes : Nat) (l c : Int) : mkSlA H z bytes (i64 l) (i64 c) = if 0 ≤ l ∧ l ≤ c ∧ c * bytes ≤ 281474976710656 ∧ c ≤ 281474976710656 then some (.sl H.length 0 l.toNat c.toNat z.length, H ++ [.rw (zeros c.toNat z)]) else none := (rfl)
@[simp] theorem names_int (n k i) : AV.names n (.int k i) = [] := (rfl)
@[simp] theorem names_bool (n b) : AV.names n (.bool b) = [] := (rfl)
@[simp] theorem names_str (n b) : AV.names n (.str b) = [] := (rfl)
@[simp] theorem names_nil (n) : AV.names n .nil = [] := (rfl)
@[simp] theorem names_nsl (n) : AV.names n .nsl = [] := (rfl)
@[simp] theorem names_u8 (n x) : AV.names n (u8 x) = [] := (rfl)
@[simp] theorem names_u16 (n x) : AV.names n (u16 x) = [] := (rfl)
@[simp] theorem names_u32 (n x) : AV.names n (u32 x) = [] := (rfl)
@[simp] theorem names_u64 (n x) : AV.names n (u64 x) = [] := (rfl)
@[simp] theorem names_sl (n b o l c s) : AV.names n (.sl b o l c s) = bif decide (n ≤ b) then [b] else [] := (rfl)
@[simp] theorem names_ptr (n b o) : AV.names n (.ptr b o) = bif decide (n ≤ b) then [b] else [] := (rfl)
@[simp] theorem names_aggF (n l) (h : AV.flat.flatL l = true) : AV.names n (.agg l) = [] := names_flat (v := .agg l) h n
@[simp] theorem namesL_nil' (n) : AV.names.namesL n [] = [] := (rfl)
@[simp] theorem namesL_cons' (n v l) : AV.names.namesL n (v :: l) = AV.names n v ++ AV.names.namesL n l := (rfl)
@[simp] theorem ren_int (n r k i) : AV.ren n r (.int k i) = .int k i := (rfl)
@[simp] theorem ren_bool (n r b) : AV.ren n r (.bool b) = .bool b := (rfl)
@[simp] theorem ren_str (n r b) : AV.ren n r (.str b) = .str b := (rfl)
@[simp] theorem ren_nil (n r) : AV.ren n r .nil = .nil := (rfl)
@[simp] theorem ren_nsl (n r) : AV.ren n r .nsl = .nsl := (rfl)
@[simp] theorem ren_u8 (n r x) : AV.ren n r (u8 x) = u8 x := (rfl)
@[simp] theorem ren_u16 (n r x) : AV.ren n r (u16 x) = u16 x := (rfl)
@[simp] theorem ren_u32 (n r x) : AV.ren n r (u32 x) = u32 x := (rfl)
@[simp] theorem ren_u64 (n r x) : AV.ren n r (u64 x) = u64 x := (rfl)
@[simp] theorem ren_sl (n r b o l c s) : AV.ren n r (.sl b o l c s) = .sl (bif decide (n ≤ b) then n + place b r 0 else b) o l c s := (rfl)
@[simp] theorem ren_ptr (n r b o) : AV.ren n r (.ptr b o) = .ptr (bif decide (n ≤ b) then n + place b r 0 else b) o := (rfl)
@[simp] theorem ren_aggF (n r l) (h : AV.flat.flatL l = true) : AV.ren n r (.agg l) = .agg l := ren_flat (v := .agg l) h n r
@[simp] theorem renL_nil' (n r) : AV.ren.renL n r [] = [] := (rfl)
@[simp] theorem renL_cons' (n r v l) : AV.ren.renL n r (v :: l) = AV.ren n r v :: AV.ren.renL n r l := (rfl)
@[simp] theorem dedup_nil : dedup [] = [] := (rfl)
@[simp] theorem dedup_cons (x l) : dedup (x :: l) = x :: (dedup l).filter fun y => !(Nat.beq x y) := (rfl)
@[simp] theorem place_cons (b x l i) : place b (x :: l) i = bif Nat.beq x b then i else place b l (i + 1) := (rfl)
@[simp] theorem grab_nil (n H) : grab n H [] = some [] := (rfl)
@[simp] theorem grab_cons (n H b bs) : grab n H (b :: bs) = (rwOf H b).bd fun c => bif AV.old.oldL n c then (grab n H bs).bd fun r => some (.rw c :: r) else none := (rfl)
theorem beq_ne {a b : Nat} (h : a ≠ b) : Nat.beq a b = false := by
  cases hb : Nat.beq a b
  · rfl
  · exact absurd (Nat.eq_of_beq_eq_true hb) h
theorem retract_gen {n : Nat} {vs : List AV} {H : Heap} (h : AV.old.oldL n vs = false) : retract n vs H = (grab n H (dedup (AV.names.namesL n vs))).bd fun K => some (AV.ren.renL n (dedup (AV.names.namesL n vs)) vs, H.take n ++ K) := by
  unfold retract; rw [h]; rfl
@[simp] theorem slcS_sl (sz b o len cap sz' : Nat) (lo hi mx : Option AV) : AV.slcS sz (.sl b o len cap sz') lo hi mx = if sz' = sz then (bnd mx cap cap).bd fun m => (bnd hi len m).bd fun h => (bnd lo 0 h).bd fun l => some (.sl b (o + l * sz) (h - l) (m - l) sz) else none := by
  simp only [AV.slcS, bounds, Option.bd_eq, Option.bind_assoc, Option.bind_some]
@[simp] theorem slcS_nsl (sz : Nat) (lo hi mx : Option AV) : AV.slcS sz .nsl lo hi mx = (bnd mx 0 0).bd fun m => (bnd hi 0 m).bd fun h => (bnd lo 0 h).bd fun _ => some .nsl := by
  simp only [AV.slcS, bounds, Option.bd_eq, Option.bind_assoc, Option.bind_some]
@[simp] theorem bytesOf_nil : bytesOf [] = some [] := (rfl)
@[simp] theorem bytesOf_u8 : ∀ (l : List UInt8), bytesOf (l.map u8) = some l
  | [] => rfl
  | x :: l => by
    simp only [List.map_cons, u8, bytesOf]
    rw [bytesOf_u8 l]
    simp
@[simp] theorem chk_same (v : AV) : chk (some v) v = some () := by simp [chk]
@[simp] theorem bin_eql_str (s t : List UInt8) : AV.bin .eql (.str s) (.str t) = some (.bool (s == t)) := (rfl)
@[simp] theorem bin_neq_str (s t : List UInt8) : AV.bin .neq (.str s) (.str t) = some (.bool (!(s == t))) := (rfl)
@[simp] theorem bin_add_str (s t : List UInt8) : AV.bin .add (.str s) (.str t) = if s.length + t.length ≤ lim then some (.str (s ++ t)) else none := (rfl)
end
end Go.Sx
namespace Go.Sx
open Go
theorem allIs_nil {xs : List AV} {H : Heap} (h : AllIs [] xs H) : xs = [] := by cases xs with
  | nil => rfl
  | cons x xs => exact h.elim
theorem allIs_cons {s : AS} {ss : List AS} {xs : List AV} {H : Heap} (h : AllIs (s :: ss) xs H) : ∃ x ys, xs = x :: ys ∧ AIs s x H ∧ AllIs ss ys H := by
  cases xs with
  | nil => exact h.elim
  | cons x xs => exact ⟨x, xs, rfl, h.1, h.2⟩
structure Enc (k : IntKind) {α : Type} (enc : α → AV) : Prop where
  all : ∀ x, okF (.int k) x → ∃ a, x = enc a
theorem enc_u8 : Enc .u8 u8 := ⟨fun x ⟨n, hx, h1, h2⟩ => ⟨UInt8.ofNat n.toNat, by
  have e1 : IntKind.u8.min = 0 := by decide
  have e2 : IntKind.u8.max = 255 := by decide
  rw [hx, u8, UInt8.toNat_ofNat']; rw [e1] at h1; rw [e2] at h2
  congr 1; omega⟩⟩
theorem enc_u16 : Enc .u16 u16 := ⟨fun x ⟨n, hx, h1, h2⟩ => ⟨UInt16.ofNat n.toNat, by
  have e1 : IntKind.u16.min = 0 := by decide
  have e2 : IntKind.u16.max = 65535 := by decide
  rw [hx, u16, UInt16.toNat_ofNat']; rw [e1] at h1; rw [e2] at h2
  congr 1; omega⟩⟩
theorem enc_u32 : Enc .u32 u32 := ⟨fun x ⟨n, hx, h1, h2⟩ => ⟨UInt32.ofNat n.toNat, by
  have e1 : IntKind.u32.min = 0 := by decide
  have e2 : IntKind.u32.max = 4294967295 := by decide
  rw [hx, u32, UInt32.toNat_ofNat']; rw [e1] at h1; rw [e2] at h2
  congr 1; omega⟩⟩
theorem enc_u64 : Enc .u64 u64 := ⟨fun x ⟨n, hx, h1, h2⟩ => ⟨UInt64.ofNat n.toNat, by
  have e1 : IntKind.u64.min = 0 := by decide
  have e2 : IntKind.u64.max = 18446744073709551615 := by decide
  rw [hx, u64, UInt64.toNat_ofNat']; rw [e1] at h1; rw [e2] at h2
  congr 1; omega⟩⟩
theorem is_i64 {x : AV} {H : Heap} (h : AIs (.one (.int .i64)) x H) : ∃ n : Int, x = i64 n ∧ -9223372036854775808 ≤ n ∧ n ≤ 9223372036854775807 := by
  obtain ⟨n, hx, h1, h2⟩ := h
  have e1 : IntKind.i64.min = -9223372036854775808 := by decide
  have e2 : IntKind.i64.max = 9223372036854775807 := by decide
  exact ⟨n, hx, by omega, by omega⟩
theorem is_bool {x : AV} {H : Heap} (h : AIs (.one .bool) x H) : ∃ b, x = .bool b := h
theorem is_u8 {x : AV} {H : Heap} (h : AIs (.one (.int .u8)) x H) : ∃ n, x = u8 n := enc_u8.all x h
theorem is_u16 {x : AV} {H : Heap} (h : AIs (.one (.int .u16)) x H) : ∃ n, x = u16 n := enc_u16.all x h
theorem is_u32 {x : AV} {H : Heap} (h : AIs (.one (.int .u32)) x H) : ∃ n, x = u32 n := enc_u32.all x h
theorem is_u64 {x : AV} {H : Heap} (h : AIs (.one (.int .u64)) x H) : ∃ n, x = u64 n := enc_u64.all x h
theorem flat_rep_map {k : IntKind} {α : Type} {enc : α → AV} (he : Enc k enc) : ∀ (n : Nat) {c : List AV}, FlatIs (List.replicate n (.int k)) c → ∃ l : List α, l.length = n ∧ c = l.map enc
  | 0, [], _ => ⟨[], rfl, rfl⟩
  | 0, _ :: _, h => h.elim
  | n + 1, [], h => h.elim
  | n + 1, x :: c, h => by
    obtain ⟨a, ha⟩ := he.all x h.1
    obtain ⟨l, h1, h2⟩ := flat_rep_map he n h.2
    exact ⟨a :: l, by simp [h1], by simp [ha, h2]⟩
theorem is_arr {k : IntKind} {α : Type} {enc : α → AV} (he : Enc k enc) {n : Nat} {x : AV} {H : Heap} (h : AIs (.agg (List.replicate n (.int k))) x H) : ∃ l : List α, l.length = n ∧ x = .agg (l.map enc) := by
  obtain ⟨c, hc, h⟩ := h
  obtain ⟨l, h1, h2⟩ := flat_rep_map he n h
  exact ⟨l, h1, by rw [hc, h2]⟩
theorem rep_flatten {α : Type} (a : α) (n : Nat) : (List.replicate n [a]).flatten = List.replicate n a := by
  induction n with
  | zero => rfl
  | succ n ih => rw [List.replicate_succ, List.flatten_cons, ih]; rfl
theorem is_sl {k : IntKind} {α : Type} {enc : α → AV} (he : Enc k enc) {x : AV} {H : Heap} (h : AIs (.sl [.int k]) x H) : ∃ l : List α, IsSl enc H x l ∧ l.length ≤ maxLen := by
  rcases h with h | ⟨b, len, cap, c, h1, h2, h3, h4, h5⟩
  · exact ⟨[], .inl ⟨h, rfl⟩, by simp⟩
  · rw [rep_flatten] at h5
    obtain ⟨l, e1, e2⟩ := flat_rep_map he len h5
    refine ⟨l, ?_, by omega⟩
    rw [h1]
    exact .whole (b := b) (by simp [cellsOf, h2, Blk.cells?, e2]) e1.symm (by omega)
theorem bools_map : ∀ (n : Nat) {c : List AV}, FlatIs (List.replicate n .bool) c → ∃ l : List Bool, l.length = n ∧ c = l.map AV.bool
  | 0, [], _ => ⟨[], rfl, rfl⟩
  | 0, _ :: _, h => h.elim
  | n + 1, [], h => h.elim
  | n + 1, x :: c, h => by
    obtain ⟨a, ha⟩ := h.1
    obtain ⟨l, h1, h2⟩ := bools_map n h.2
    exact ⟨a :: l, by simp [h1], by simp [ha, h2]⟩
theorem is_slB {x : AV} {H : Heap} (h : AIs (.sl [.bool]) x H) : ∃ l : List Bool, IsSl AV.bool H x l ∧ l.length ≤ maxLen := by
  rcases h with h | ⟨b, len, cap, c, h1, h2, h3, h4, h5⟩
  · exact ⟨[], .inl ⟨h, rfl⟩, by simp⟩
  · rw [rep_flatten] at h5
    obtain ⟨l, e1, e2⟩ := bools_map len h5
    refine ⟨l, ?_, by omega⟩
    rw [h1]
    exact .whole (b := b) (by simp [cellsOf, h2, Blk.cells?, e2]) e1.symm (by omega)
end Go.Sx
