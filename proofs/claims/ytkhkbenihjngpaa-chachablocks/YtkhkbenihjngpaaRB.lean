import Derived.Test.YtkhkbenihjngpaaWB
import Derived.Test.YtkhkbenihjngpaaShAditref01
set_option linter.all false
namespace Go.Sx
open Go
theorem rotl_zero (v : UInt32) : rotl v 0 = v := by
  apply UInt32.toNat_inj.1
  simp [rotl, UInt32.toNat_or]
theorem rotl_nat (v : UInt32) (i : Nat) (hi : i < 32) : (rotl v i).toNat = (v.toNat % 2 ^ (32 - i)) * 2 ^ i + v.toNat / 2 ^ (32 - i) := by
  rcases Nat.eq_zero_or_pos i with h0 | h0
  · subst h0
    rw [rotl_zero]
    have := v.toNat_lt
    simp only [Nat.sub_zero, Nat.pow_zero, Nat.mul_one]
    omega
  · unfold rotl
    have h1 : (v <<< UInt32.ofNat i).toNat = (v.toNat % 2 ^ (32 - i)) * 2 ^ i := by
      rw [UInt32.toNat_shiftLeft, UInt32.toNat_ofNat', Nat.shiftLeft_eq, show i % 2 ^ 32 % 32 = i by omega]
      rw [show (2 : Nat) ^ 32 = 2 ^ (32 - i) * 2 ^ i by rw [← Nat.pow_add]; congr 1; omega, Nat.mul_mod_mul_right]
    have h2 : (v >>> UInt32.ofNat ((32 - i) % 32)).toNat = v.toNat / 2 ^ (32 - i) := by
      rw [UInt32.toNat_shiftRight, UInt32.toNat_ofNat', Nat.shiftRight_eq_div_pow, show (32 - i) % 32 % 2 ^ 32 % 32 = 32 - i by omega]
    rw [UInt32.toNat_or, h1, h2, Nat.or_comm, or_add, Nat.add_comm]
    rw [Nat.div_lt_iff_lt_mul (Nat.two_pow_pos _), ← Nat.pow_add, show i + (32 - i) = 32 by omega]
    exact v.toNat_lt
theorem rotl_step (v : UInt32) (i : Nat) (hi : i + 1 < 32) : 2 * rotl v i + rotl v i / 2147483648 = rotl v (i + 1) := by
  have h1 := rotl_nat v i (by omega)
  have h2 := rotl_nat v (i + 1) hi
  have hQ : (2 : Nat) ^ (32 - i) = 2 * 2 ^ (32 - (i + 1)) := by rw [Nat.mul_comm, ← Nat.pow_succ]; congr 1; omega
  have hP : (2 : Nat) ^ (i + 1) = 2 * 2 ^ i := by rw [Nat.pow_succ, Nat.mul_comm]
  have hPQ : (2 : Nat) ^ i * 2 ^ (32 - (i + 1)) = 2147483648 := by
    rw [← Nat.pow_add, show i + (32 - (i + 1)) = 31 by omega]
  have hv := v.toNat_lt
  rw [hQ] at h1
  rw [hP] at h2
  have hQ0 : 0 < (2 : Nat) ^ (32 - (i + 1)) := Nat.two_pow_pos _
  generalize (2 : Nat) ^ (32 - (i + 1)) = Q at *
  generalize (2 : Nat) ^ i = P at *
  apply UInt32.toNat_inj.1
  rw [UInt32.toNat_add, UInt32.toNat_mul, UInt32.toNat_div]
  show ((2 * (rotl v i).toNat) % 2 ^ 32 + (rotl v i).toNat / 2147483648) % 2 ^ 32 = _
  rw [h1, h2]
  clear h1 h2
  generalize v.toNat = n at *
  have e1 : n % (2 * Q) = (n / Q % 2) * Q + n % Q := by
    rw [Nat.mul_comm 2 Q, Nat.mod_mul, Nat.mul_comm Q]; omega
  have e2 : n / (2 * Q) = n / Q / 2 := by rw [Nat.mul_comm 2 Q, Nat.div_div_eq_div_mul]
  have hc : n % Q < Q := Nat.mod_lt _ hQ0
  have hd : n / Q < 2 * P := by
    rw [Nat.div_lt_iff_lt_mul hQ0, Nat.mul_assoc, hPQ]; exact hv
  rw [e1, e2]
  generalize n / Q = d at *
  generalize n % Q = c at *
  have hcP : c * P + P ≤ 2147483648 := by
    have := Nat.mul_le_mul_right P (show c + 1 ≤ Q by omega)
    rw [Nat.add_mul, Nat.mul_comm Q P, hPQ] at this; omega
  have hb : d % 2 * Q * P = d % 2 * 2147483648 := by rw [Nat.mul_assoc, Nat.mul_comm Q P, hPQ]
  rw [Nat.add_mul, hb, show c * (2 * P) = 2 * (c * P) by rw [Nat.mul_left_comm]]
  generalize c * P = t at *
  have ht : t + d / 2 < 2147483648 := by omega
  generalize hr : d / 2 = r at *
  generalize hb2 : d % 2 = b at *
  have hb1 : b < 2 := by omega
  have htop : (b * 2147483648 + t + r) / 2147483648 = b := by omega
  rw [htop]
  omega
theorem RotateR_ok (v : UInt32) (n : Nat) (hn : n < 32) (H : Heap) : aditref01_Rotate [u32 v, i64 (n : Int)] H = some (u32 (rotl v n), H) := by
  have hloop : ∀ k i, i + k = n → loopD (fun vs H' => (aditref01_Rotate_l1 [i64 (n : Int)] H vs H').bd (roundEnd H.length)) [u32 (rotl v i), i64 (i : Int)] H = some (.exit 0, [u32 (rotl v n), i64 (n : Int)], H) := by
    intro k
    induction k with
    | zero =>
      intro i hi
      have : i = n := by omega
      subst this
      refine loopD_stop ?_
      unfold aditref01_Rotate_l1
      simp
    | succ k ih =>
      intro i hi
      refine loopD_step ?_ (ih (i + 1) (by omega))
      have a3 := add1 i 32 (by omega) (by omega)
      have hr := rotl_step v i (by omega)
      have hq : AV.bin .quo (u32 (rotl v i)) (u32 2147483648) = some (u32 (rotl v i / 2147483648)) := by
        unfold u32
        simp only [AV.bin, intBin, ne_eq, not_true_eq_false, if_false]
        rw [if_neg (by decide)]
        congr 2
        rw [UInt32.toNat_div]
        show IntKind.u32.wrap (((rotl v i).toNat : Int).tdiv 2147483648) = _
        have := (rotl v i).toNat_lt
        rw [wrap_u32, Int.tdiv_eq_ediv_of_nonneg (by omega)]
        show _ = (((rotl v i).toNat / 2147483648 : Nat) : Int)
        omega
      unfold aditref01_Rotate_l1
      simp [show i < n by omega, a3, hq, hr]
  have h := hloop n 0 (by omega)
  rw [rotl_zero] at h
  have h1 : AV.bin .rem (i64 (n : Int)) (i64 32) = some (i64 (n : Int)) := by
    simp only [AV.bin, intBin, ne_eq, not_true_eq_false, if_false]
    rw [if_neg (by decide)]
    congr 2
    rw [Int.tmod_eq_emod_of_nonneg (by omega)]; omega
  have h2 : ¬ ((n : Int) < 0) := by omega
  unfold aditref01_Rotate
  simp at h
  simp [h1, h2, h]
theorem quo256 (x : UInt64) : AV.bin .quo (u64 x) (u64 256) = some (u64 (x / 256)) := bin_quo_u64 x 256 (by decide)
theorem rem256 (x : UInt64) : AV.bin .rem (u64 x) (u64 256) = some (u64 (x % 256)) := bin_rem_u64 x 256 (by decide)
theorem Bytes_ok (v : UInt64) (n : Nat) (hn : n ≤ 1000) (H : Heap) : aditref01_Bytes [u64 v, i64 (n : Int)] H = some (own H.length (le v.toNat n), H ++ ownH u8 (le v.toNat n)) := by
  have hloop : ∀ k i, i + k = n → loopD (fun vs H' => (aditref01_Bytes_l1 [u64 v, i64 (n : Int)] H vs H').bd (roundEnd H.length)) [u64 (UInt64.ofNat (v.toNat / 256 ^ i)), own H.length (le v.toNat i), i64 (i : Int)] (H ++ ownH u8 (le v.toNat i)) = some (.exit 0, [u64 (UInt64.ofNat (v.toNat / 256 ^ n)), own H.length (le v.toNat n), i64 (n : Int)], H ++ ownH u8 (le v.toNat n)) := by
    intro k
    induction k with
    | zero =>
      intro i hi
      have : i = n := by omega
      subst this
      refine loopD_stop ?_
      unfold aditref01_Bytes_l1
      simp
    | succ k ih =>
      intro i hi
      refine loopD_step ?_ (ih (i + 1) (by omega))
      have a3 := add1 i 1000 (by omega) (by omega)
      have hv := v.toNat_lt
      have hvi : v.toNat / 256 ^ i < 2 ^ 64 := Nat.lt_of_le_of_lt (Nat.div_le_self _ _) hv
      have e1 : UInt64.ofNat (v.toNat / 256 ^ i) / 256 = UInt64.ofNat (v.toNat / 256 ^ (i + 1)) := by
        apply UInt64.toNat_inj.1
        rw [UInt64.toNat_div, UInt64.toNat_ofNat', UInt64.toNat_ofNat', Nat.mod_eq_of_lt hvi, Nat.pow_succ, ← Nat.div_div_eq_div_mul]
        show v.toNat / 256 ^ i / 256 = _
        rw [Nat.mod_eq_of_lt (Nat.lt_of_le_of_lt (Nat.div_le_self _ _) hvi)]
      have e2 : UInt8.ofNat (UInt64.ofNat (v.toNat / 256 ^ i) % 256).toNat = UInt8.ofNat (v.toNat / 256 ^ i) := by
        apply UInt8.toNat_inj.1
        rw [UInt8.toNat_ofNat', UInt8.toNat_ofNat', UInt64.toNat_mod, UInt64.toNat_ofNat', Nat.mod_eq_of_lt hvi]
        show v.toNat / 256 ^ i % 256 % 2 ^ 8 = _
        omega
      have e3 : le v.toNat (i + 1) = le v.toNat i ++ [UInt8.ofNat (v.toNat / 256 ^ i)] := by rw [le_add]; rfl
      have hlen := le_length v.toNat i
      have hl : i + 1 ≤ lim := by simp [lim]; omega
      rw [e3, ← e2, ← e1]
      generalize UInt64.ofNat (v.toNat / 256 ^ i) = x
      generalize le v.toNat i = out at hlen ⊢
      have hc : AV.conv .u8 (u64 (x % 256)) = some (u8 (UInt8.ofNat (x % 256).toNat)) := conv_u8_u64 _
      generalize UInt8.ofNat (x % 256).toNat = y at hc ⊢
      unfold aditref01_Bytes_l1
      by_cases ho : out = []
      · subst ho
        simp [own, ownH, show i < n by omega, a3, rem256, quo256, hc, lim]
      · simp [own, ownH, ho, show i < n by omega, a3, rem256, quo256, hc, hlen, hl, Nat.add_assoc]
        subst hlen
        simp
  have h := hloop n 0 (by omega)
  simp [le, own_nil, ownH_nil] at h
  unfold aditref01_Bytes
  simp [h]
  by_cases ho : le v.toNat n = []
  · simp [own, ownH, ho]
  · simp [own, ownH, ho]
theorem Least_ok {H : Heap} {b : AV} {l : List UInt8} (hs : IsSl u8 H b l) (hl : l.length < 4611686018427387904) : aditref01_Least [b] H = some (u64 (UInt64.ofNat (val l)), H) := by
  have hloop : ∀ j, j ≤ l.length → loopD (fun vs H' => (aditref01_Least_l1 [b] H vs H').bd (roundEnd H.length)) [u64 (UInt64.ofNat (val (l.drop j))), i64 ((j : Int) - 1)] H = some (.exit 0, [u64 (UInt64.ofNat (val l)), i64 (-1)], H) := by
    intro j
    induction j with
    | zero =>
      intro _
      refine loopD_stop ?_
      unfold aditref01_Least_l1
      simp
    | succ j ih =>
      intro hj
      refine loopD_step ?_ (ih (by omega))
      have hj' : j < l.length := by omega
      have a := bin_sub_i64 (a := j) (b := 1) (by omega) (by omega)
      have e : UInt64.ofNat (val (l.drop j)) = 256 * UInt64.ofNat (val (l.drop (j + 1))) + (l[j]).toUInt64 := by
        rw [List.drop_eq_getElem_cons hj']
        simp only [val]
        rw [Nat.add_comm, UInt64.ofNat_add, UInt64.ofNat_mul, UInt64.ofNat_uInt8ToNat]
        rfl
      rw [e]
      unfold aditref01_Least_l1
      simp [hs.idx hj', hs.ld hj', a]
  have h := hloop l.length (Nat.le_refl _)
  rw [List.drop_of_length_le (Nat.le_refl _)] at h
  have a := bin_sub_i64 (a := l.length) (b := 1) (by omega) (by omega)
  unfold aditref01_Least
  simp [val] at h
  simp [hs.len, a, h]
end Go.Sx
