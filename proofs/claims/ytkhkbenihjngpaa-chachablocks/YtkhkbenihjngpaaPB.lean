import Derived.Test.YtkhkbenihjngpaaBaseC
set_option linter.all false
namespace Go.Sx
open Go
def le : Nat → Nat → List UInt8
  | _, 0 => []
  | n, k + 1 => UInt8.ofNat n :: le (n / 256) k
def val : List UInt8 → Nat
  | [] => 0
  | b :: l => b.toNat + 256 * val l
@[simp] theorem le_length (n : Nat) : ∀ k, (le n k).length = k := by
  intro k
  induction k generalizing n with
  | zero => rfl
  | succ k ih => simp [le, ih]
theorem val_lt : ∀ (l : List UInt8), val l < 256 ^ l.length
  | [] => by simp [val]
  | b :: l => by
    have h1 := val_lt l
    have h2 := b.toNat_lt
    simp only [val, List.length_cons, Nat.pow_succ]
    omega
theorem val_le (n k : Nat) : val (le n k) = n % 256 ^ k := by
  induction k generalizing n with
  | zero => simp [le, val, Nat.mod_one]
  | succ k ih =>
    simp only [le, val, ih, UInt8.toNat_ofNat']
    rw [show (2 : Nat) ^ 8 = 256 from rfl, Nat.pow_succ, Nat.mul_comm (256 ^ k) 256, Nat.mod_mul]
theorem le_val : ∀ (l : List UInt8) {k : Nat}, k = l.length → le (val l) k = l
  | [], k, h => by subst h; rfl
  | b :: l, k, h => by
    subst h
    have h2 := b.toNat_lt
    simp only [List.length_cons, le, val]
    rw [show (b.toNat + 256 * val l) / 256 = val l by omega, le_val l rfl]
    congr 1
    apply UInt8.toNat_inj.1
    rw [UInt8.toNat_ofNat']; omega
theorem val_append : ∀ (a b : List UInt8), val (a ++ b) = val a + 256 ^ a.length * val b
  | [], b => by simp [val]
  | x :: a, b => by
    simp only [List.cons_append, val, val_append a b, List.length_cons, Nat.pow_succ]
    rw [Nat.mul_add, Nat.mul_comm (256 ^ a.length) 256, Nat.mul_assoc]; omega
theorem le_mod (n k : Nat) : le (n % 256 ^ k) k = le n k := by
  rw [← val_le]; exact le_val _ (by simp)
theorem le_add (n j k : Nat) : le n (j + k) = le n j ++ le (n / 256 ^ j) k := by
  induction j generalizing n with
  | zero => simp [le]
  | succ j ih =>
    rw [show j + 1 + k = (j + k) + 1 by omega]
    simp only [le, ih, List.cons_append, Nat.div_div_eq_div_mul, Nat.pow_succ]
    rw [Nat.mul_comm 256]
theorem le_get {n k i : Nat} (h : i < k) : (le n k)[i]? = some (UInt8.ofNat (n / 256 ^ i)) := by
  induction k generalizing n i with
  | zero => omega
  | succ k ih =>
    cases i with
    | zero => simp [le]
    | succ i =>
      simp only [le, List.getElem?_cons_succ]
      rw [ih (by omega), Nat.div_div_eq_div_mul, Nat.pow_succ, Nat.mul_comm]
theorem val_inj {a b : List UInt8} (hl : a.length = b.length) (h : val a = val b) : a = b := by
  rw [← le_val a rfl, ← le_val b rfl, h, hl]
theorem val_zeros (n : Nat) : val (List.replicate n 0) = 0 := by
  induction n with
  | zero => rfl
  | succ n ih => simp [List.replicate_succ, val, ih]
theorem val_take_succ (l : List UInt8) {i : Nat} (h : i < l.length) : val (l.take (i + 1)) = val (l.take i) + 256 ^ i * l[i].toNat := by
  rw [List.take_add_one, List.getElem?_eq_getElem h, Option.toList_some, val_append]
  simp only [List.length_take, val, Nat.mul_zero, Nat.add_zero]
  rw [Nat.min_eq_left (by omega)]
def fillAt {α : Type} (L M : List α) (i : Nat) : List α := L.take i ++ M.drop i
theorem fillAt_zero {α : Type} (L M : List α) : fillAt L M 0 = M := by simp [fillAt]
theorem fillAt_all {α : Type} {L M : List α} {n : Nat} (h : n = L.length) (hm : M.length ≤ L.length) : fillAt L M n = L := by
  subst h; simp [fillAt, List.drop_of_length_le hm]
theorem fillAt_length {α : Type} {L M : List α} (h : L.length = M.length) {i : Nat} (hi : i ≤ L.length) : (fillAt L M i).length = L.length := by
  simp [fillAt]; omega
theorem fillAt_set {α : Type} {L M : List α} (h : L.length = M.length) {i : Nat} (hi : i < L.length) {x : α} (hx : L[i]? = some x) : (fillAt L M i).set i x = fillAt L M (i + 1) := by
  apply List.ext_getElem?
  intro j
  simp only [fillAt]
  have hl : (L.take i).length = i := by simp; omega
  have hl2 : (L.take (i + 1)).length = i + 1 := by simp; omega
  rw [List.getElem?_set]
  have e1 : (L.take i ++ M.drop i).length = L.length := by simp; omega
  by_cases hij : i = j
  · subst hij
    rw [if_pos rfl, if_pos (by rw [e1]; exact hi), List.getElem?_append_left (by rw [hl2]; omega), List.getElem?_take, if_pos (by omega), hx]
  · rw [if_neg hij]
    rcases Nat.lt_or_ge j i with hj | hj
    · rw [List.getElem?_append_left (by rw [hl]; omega), List.getElem?_append_left (by rw [hl2]; omega), List.getElem?_take, List.getElem?_take, if_pos hj, if_pos (by omega)]
    · rw [List.getElem?_append_right (by rw [hl]; omega), List.getElem?_append_right (by rw [hl2]; omega), List.getElem?_drop, List.getElem?_drop, hl, hl2]
      congr 1; omega
theorem add1 (i n : Nat) (h : i < n) (hn : n < 4611686018427387904) : AV.bin .add (i64 (i : Int)) (i64 1) = some (i64 ((i + 1 : Nat) : Int)) := by
  rw [bin_add_i64 (by omega) (by omega)]; simp
theorem addn (a b : Nat) (h : a + b < 9223372036854775808) : AV.bin .add (i64 (a : Int)) (i64 (b : Int)) = some (i64 ((a + b : Nat) : Int)) := by
  rw [bin_add_i64 (by omega) (by omega)]; simp
theorem set_app {α : Type} (A B : List α) (x : α) {n i : Nat} (h : n = A.length + i) : (A ++ B).set n x = A ++ B.set i x := by
  subst h; rw [List.set_append_right _ _ (by omega), Nat.add_sub_cancel_left]
theorem or_add (a b i : Nat) (h : a < 2 ^ i) : a ||| (b * 2 ^ i) = a + b * 2 ^ i := by
  rw [Nat.or_comm, Nat.mul_comm b, ← Nat.two_pow_add_eq_or_of_lt h, Nat.add_comm]
theorem fillAt_copy {α : Type} {L M P : List α} {i k : Nat} (h : L.length = M.length) (hi : i + k ≤ L.length) (hp : (L.drop i).take k = P) : (fillAt L M i).take i ++ P ++ (fillAt L M i).drop (i + k) = fillAt L M (i + k) := by
  subst hp
  have hl : (L.take i).length = i := by simp; omega
  unfold fillAt
  rw [List.take_append_of_le_length (by omega), List.take_of_length_le (l := L.take i) (by omega), List.drop_append, hl, List.drop_of_length_le (l := L.take i) (by omega), List.nil_append, List.drop_drop, Nat.add_sub_cancel_left, List.take_add]
theorem flatten_length {α β : Type} {f : β → List α} {k : Nat} (hf : ∀ x, (f x).length = k) (l : List β) : (l.map f).flatten.length = k * l.length := by
  induction l with
  | nil => simp
  | cons x l ih => simp only [List.map_cons, List.flatten_cons, List.length_append, hf, ih, List.length_cons, Nat.mul_add]; omega
theorem flatten_piece {α β : Type} {f : β → List α} {k : Nat} (hf : ∀ x, (f x).length = k) : ∀ (l : List β) (i : Nat) (x : β), l[i]? = some x → ((l.map f).flatten.drop (k * i)).take k = f x
  | [], i, x, h => by simp at h
  | y :: l, 0, x, h => by
    simp at h; subst h
    simp only [List.map_cons, List.flatten_cons, Nat.mul_zero, List.drop_zero]
    rw [List.take_append_of_le_length (by rw [hf]; exact Nat.le_refl _), List.take_of_length_le (by rw [hf]; exact Nat.le_refl _)]
  | y :: l, i + 1, x, h => by
    simp only [List.map_cons, List.flatten_cons]
    rw [Nat.mul_add, Nat.mul_one, Nat.add_comm (k * i) k, ← List.drop_drop, List.drop_left' (hf y)]
    exact flatten_piece hf l i x (by simpa using h)
end Go.Sx
