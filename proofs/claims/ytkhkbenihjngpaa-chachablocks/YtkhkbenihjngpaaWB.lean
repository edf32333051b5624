import Derived.Test.YtkhkbenihjngpaaPB
import Derived.Test.YtkhkbenihjngpaaShWords
set_option linter.all false
namespace Go.Sx
open Go
theorem u8_ext {x y : UInt8} (h : x.toNat = y.toNat) : u8 x = u8 y := by rw [UInt8.toNat_inj.1 h]
theorem le4 (v : UInt32) : le v.toNat 4 = [UInt8.ofNat v.toNat, UInt8.ofNat (v >>> 8).toNat, UInt8.ofNat (v >>> 16).toNat, UInt8.ofNat (v >>> 24).toNat] := by
  have h8 : (v >>> 8).toNat = v.toNat / 256 := by rw [UInt32.toNat_shiftRight]; exact Nat.shiftRight_eq_div_pow _ _
  have h16 : (v >>> 16).toNat = v.toNat / 256 / 256 := by rw [UInt32.toNat_shiftRight, Nat.div_div_eq_div_mul]; exact Nat.shiftRight_eq_div_pow _ _
  have h24 : (v >>> 24).toNat = v.toNat / 256 / 256 / 256 := by rw [UInt32.toNat_shiftRight, Nat.div_div_eq_div_mul, Nat.div_div_eq_div_mul]; exact Nat.shiftRight_eq_div_pow _ _
  rw [h8, h16, h24]; rfl
theorem bin_shr_u32' (x : UInt32) (n : UInt64) (h : n.toNat < 32) : AV.bin .shr (u32 x) (u64 n) = some (u32 (x >>> UInt32.ofNat n.toNat)) := bin_shr_u32 x .u64 n.toNat h
theorem bin_shl_u32' (x : UInt32) (n : UInt64) (h : n.toNat < 32) : AV.bin .shl (u32 x) (u64 n) = some (u32 (x <<< UInt32.ofNat n.toNat)) := bin_shl_u32 x .u64 n.toNat h
theorem Put32_ok (v : UInt32) (H : Heap) : words_Put32 [u32 v] H = some (.agg ((le v.toNat 4).map u8), H) := by
  have h1 : AV.bin .shr (u32 v) (u64 8) = some (u32 (v >>> 8)) := bin_shr_u32' v 8 (by decide)
  have h2 : AV.bin .shr (u32 v) (u64 16) = some (u32 (v >>> 16)) := bin_shr_u32' v 16 (by decide)
  have h3 : AV.bin .shr (u32 v) (u64 24) = some (u32 (v >>> 24)) := bin_shr_u32' v 24 (by decide)
  rw [le4]
  unfold words_Put32
  simp [-UInt32.toNat_shiftRight, h1, h2, h3, piece_some, put_more]
section
variable {H : Heap} {b : AV} {l : List UInt8}
theorem reach_ok (hs : IsSl u8 H b l) {at_ size : Nat} (h : at_ + size ≤ l.length) (hl : l.length < 4611686018427387904) : words_reach [b, i64 (at_ : Int), i64 (size : Int)] H = some (i64 0, H) := by
  have h1 : ¬ ((at_ : Int) < 0) := by omega
  have h2 : ¬ ((l.length : Int) < at_) := by omega
  have h3 := bin_sub_i64 (a := l.length) (b := at_) (by omega) (by omega)
  have h4 : ¬ ((l.length : Int) - at_ < size) := by omega
  unfold words_reach
  simp [hs.len, h1, h2, h3, h4]
theorem Load32_ok (hs : IsSl u8 H b l) {at_ : Nat} (h : at_ + 4 ≤ l.length) (hl : l.length < 4611686018427387904) : words_Load32 [b, i64 (at_ : Int)] H = some (.tup [u32 (UInt32.ofNat (val ((l.drop at_).take 4))), i64 0], H) := by
  have h0 := reach_ok hs h hl
  have a1 := bin_add_i64 (a := at_) (b := 1) (by omega) (by omega)
  have a2 := bin_add_i64 (a := at_) (b := 2) (by omega) (by omega)
  have a3 := bin_add_i64 (a := at_) (b := 3) (by omega) (by omega)
  have i0 := hs.idx (i := at_) (by omega)
  have i1 := hs.idx (i := at_ + 1) (by omega)
  have i2 := hs.idx (i := at_ + 2) (by omega)
  have i3 := hs.idx (i := at_ + 3) (by omega)
  have l0 := hs.ld (i := at_) (by omega)
  have l1 := hs.ld (i := at_ + 1) (by omega)
  have l2 := hs.ld (i := at_ + 2) (by omega)
  have l3 := hs.ld (i := at_ + 3) (by omega)
  have hd : (l.drop at_).take 4 = [l[at_], l[at_ + 1], l[at_ + 2], l[at_ + 3]] := by
    apply List.ext_getElem
    · simp; omega
    · intro i h1 h2
      simp at h2
      match i, h2 with
      | 0, _ => simp
      | 1, _ => simp
      | 2, _ => simp
      | 3, _ => simp
  rw [hd]
  generalize l[at_] = x0 at l0 ⊢
  generalize l[at_ + 1] = x1 at l1 ⊢
  generalize l[at_ + 2] = x2 at l2 ⊢
  generalize l[at_ + 3] = x3 at l3 ⊢
  have s1 : AV.bin .shl (u32 x1.toUInt32) (u64 8) = some (u32 (x1.toUInt32 <<< 8)) := bin_shl_u32' _ 8 (by decide)
  have s2 : AV.bin .shl (u32 x2.toUInt32) (u64 16) = some (u32 (x2.toUInt32 <<< 16)) := bin_shl_u32' _ 16 (by decide)
  have s3 : AV.bin .shl (u32 x3.toUInt32) (u64 24) = some (u32 (x3.toUInt32 <<< 24)) := bin_shl_u32' _ 24 (by decide)
  have e : x0.toUInt32 ||| x1.toUInt32 <<< 8 ||| x2.toUInt32 <<< 16 ||| x3.toUInt32 <<< 24 = UInt32.ofNat (val [x0, x1, x2, x3]) := by
    have b0 := x0.toNat_lt; have b1 := x1.toNat_lt; have b2 := x2.toNat_lt; have b3 := x3.toNat_lt
    apply UInt32.toNat_inj.1
    have e0 : x0.toUInt32.toNat = x0.toNat := UInt8.toNat_toUInt32 _
    have e1 : (x1.toUInt32 <<< 8).toNat = x1.toNat * 2 ^ 8 := by
      rw [UInt32.toNat_shiftLeft, UInt8.toNat_toUInt32]
      show x1.toNat <<< 8 % 2 ^ 32 = _
      rw [Nat.shiftLeft_eq]; omega
    have e2 : (x2.toUInt32 <<< 16).toNat = x2.toNat * 2 ^ 16 := by
      rw [UInt32.toNat_shiftLeft, UInt8.toNat_toUInt32]
      show x2.toNat <<< 16 % 2 ^ 32 = _
      rw [Nat.shiftLeft_eq]; omega
    have e3 : (x3.toUInt32 <<< 24).toNat = x3.toNat * 2 ^ 24 := by
      rw [UInt32.toNat_shiftLeft, UInt8.toNat_toUInt32]
      show x3.toNat <<< 24 % 2 ^ 32 = _
      rw [Nat.shiftLeft_eq]; omega
    rw [UInt32.toNat_or, UInt32.toNat_or, UInt32.toNat_or, e0, e1, e2, e3, or_add _ _ 8 (by omega), or_add _ _ 16 (by omega), or_add _ _ 24 (by omega), UInt32.toNat_ofNat']
    simp only [val]; omega
  unfold words_Load32
  generalize words_reach = c1 at h0 ⊢
  simp only [Int.natCast_add] at i1 i2 i3
  simp at h0 i1 i2 i3
  simp [h0, a1, a2, a3, i0, i1, i2, i3, l0, l1, l2, l3, s1, s2, s3, e]
theorem or64 (V : Nat) (x : UInt8) (i : Nat) (hi : i < 8) (hV : V < 256 ^ i) : UInt64.ofNat V ||| x.toUInt64 <<< UInt64.ofNat (8 * i) = UInt64.ofNat (V + 256 ^ i * x.toNat) := by
  have hp : (256 : Nat) ^ i = 2 ^ (8 * i) := by rw [Nat.pow_mul]
  have hp8 : (2 : Nat) ^ (8 * i) * 256 ≤ 2 ^ 64 := by
    rw [show (256 : Nat) = 2 ^ 8 from rfl, ← Nat.pow_add]; exact Nat.pow_le_pow_right (by decide) (by omega)
  have b1 := x.toNat_lt
  rw [hp] at hV ⊢
  have hxP : x.toNat * 2 ^ (8 * i) + 2 ^ (8 * i) ≤ 2 ^ (8 * i) * 256 := by
    have := Nat.mul_le_mul_right (2 ^ (8 * i)) (show x.toNat + 1 ≤ 256 by omega)
    rw [Nat.add_mul] at this; omega
  have e1 : (x.toUInt64 <<< UInt64.ofNat (8 * i)).toNat = x.toNat * 2 ^ (8 * i) := by
    rw [UInt64.toNat_shiftLeft, UInt8.toNat_toUInt64, UInt64.toNat_ofNat', Nat.shiftLeft_eq]
    rw [show (8 * i) % 2 ^ 64 % 64 = 8 * i by omega, Nat.mod_eq_of_lt (by omega)]
  apply UInt64.toNat_inj.1
  have e0 : (UInt64.ofNat V).toNat = V := by rw [UInt64.toNat_ofNat']; omega
  rw [UInt64.toNat_or, e0, e1, or_add _ _ _ hV, UInt64.toNat_ofNat', Nat.mul_comm (2 ^ (8 * i))]
  omega
theorem Load64_ok (hs : IsSl u8 H b l) {at_ : Nat} (h : at_ + 8 ≤ l.length) (hl : l.length < 4611686018427387904) : words_Load64 [b, i64 (at_ : Int)] H = some (.tup [u64 (UInt64.ofNat (val ((l.drop at_).take 8))), i64 0], H) := by
  have h0 := reach_ok hs h hl
  have hloop : ∀ k i, i + k = 8 → loopD (fun vs H' => (words_Load64_l1 [b, i64 (at_ : Int)] H vs H').bd (roundEnd H.length)) [u64 (UInt64.ofNat (val ((l.drop at_).take i))), i64 (i : Int)] H = some (.exit 0, [u64 (UInt64.ofNat (val ((l.drop at_).take 8))), i64 8], H) := by
    intro k
    induction k with
    | zero =>
      intro i hi
      have : i = 8 := by omega
      subst this
      refine loopD_stop ?_
      unfold words_Load64_l1
      simp
    | succ k ih =>
      intro i hi
      refine loopD_step ?_ (ih (i + 1) (by omega))
      have a1 := bin_add_i64 (a := at_) (b := i) (by omega) (by omega)
      have a2 := bin_mul_i64 (a := 8) (b := i) (by omega) (by omega)
      have a3 := add1 i 8 (by omega) (by omega)
      have i1 := hs.idx (i := at_ + i) (by omega)
      have l1 := hs.ld (i := at_ + i) (by omega)
      have hlt : ((i : Int) < 8) := by omega
      have s1 : AV.bin .shl (u64 (l[at_ + i]).toUInt64) (i64 (8 * (i : Int))) = some (u64 ((l[at_ + i]).toUInt64 <<< UInt64.ofNat (8 * i))) := by
        have := bin_shl_u64 (l[at_ + i]).toUInt64 .i64 (8 * i) (by omega)
        simpa using this
      have e : UInt64.ofNat (val ((l.drop at_).take i)) ||| (l[at_ + i]).toUInt64 <<< UInt64.ofNat (8 * i) = UInt64.ofNat (val ((l.drop at_).take (i + 1))) := by
        have hi' : i < (l.drop at_).length := by simp; omega
        rw [val_take_succ _ hi']
        have hg : (l.drop at_)[i] = l[at_ + i] := by simp
        rw [hg]
        have b0 := val_lt ((l.drop at_).take i)
        have hlen : ((l.drop at_).take i).length = i := by simp; omega
        rw [hlen] at b0
        exact or64 _ _ i (by omega) b0
      unfold words_Load64_l1
      simp only [Int.natCast_add] at i1
      simp at e
      simp [hlt, a1, a2, a3, i1, l1, s1, e]
  have hl0 := hloop 8 0 rfl
  simp [val] at hl0
  unfold words_Load64
  generalize words_reach = c1 at h0 ⊢
  simp at h0
  simp [h0, hl0]
end
theorem shr64 (v : UInt64) (i : Nat) (h : i < 8) : AV.bin .shr (u64 v) (i64 (8 * (i : Int))) = some (u64 (v >>> UInt64.ofNat (8 * i))) := by
  have := bin_shr_u64 v .i64 (8 * i) (by omega)
  simpa using this
theorem byte64 (v : UInt64) (i : Nat) (h : i < 8) : UInt8.ofNat (v >>> UInt64.ofNat (8 * i)).toNat = UInt8.ofNat (v.toNat / 256 ^ i) := by
  rw [UInt64.toNat_shiftRight, UInt64.toNat_ofNat', Nat.shiftRight_eq_div_pow, show 8 * i % 2 ^ 64 % 64 = 8 * i by omega, Nat.pow_mul]
theorem Put64_ok (v : UInt64) (H : Heap) : words_Put64 [u64 v] H = some (.agg ((le v.toNat 8).map u8), H) := by
  have hloop : ∀ (k i : Nat), i + k = 8 → loopD (fun vs H' => (words_Put64_l1 [u64 v] H (H ++ [Blk.rw (List.replicate 8 (u8 0)), Blk.rw (List.replicate 8 (u8 0))]) vs H').bd (roundEnd (H.length + 2))) [i64 (i : Int)] (H ++ [Blk.rw (List.replicate 8 (u8 0)), Blk.rw (fillAt ((le v.toNat 8).map u8) (List.replicate 8 (u8 0)) i)]) = some (.exit 0, [i64 8], H ++ [Blk.rw (List.replicate 8 (u8 0)), Blk.rw ((le v.toNat 8).map u8)]) := by
    intro k
    induction k with
    | zero =>
      intro i hi
      have : i = 8 := by omega
      subst this
      rw [fillAt_all (by simp) (by simp)]
      refine loopD_stop ?_
      unfold words_Put64_l1
      simp
    | succ k ih =>
      intro i hi
      refine loopD_step ?_ (ih (i + 1) (by omega))
      have hlt : ((i : Int) < 8) := by omega
      have a2 := bin_mul_i64 (a := 8) (b := i) (by omega) (by omega)
      have a3 := add1 i 8 (by omega) (by omega)
      have hs := shr64 v i (by omega)
      have hb := byte64 v i (by omega)
      generalize UInt64.ofNat (8 * i) = s at hs hb
      have hL : ((le v.toNat 8).map u8)[i]? = some (u8 (UInt8.ofNat (v >>> s).toNat)) := by
        rw [hb, List.getElem?_map, le_get (by omega)]; rfl
      have hf := fillAt_set (M := List.replicate 8 (u8 0)) (by simp) (by simp; omega) hL
      have hlen : (fillAt ((le v.toNat 8).map u8) (List.replicate 8 (u8 0)) i).length = 8 := by rw [fillAt_length (by simp) (by simp; omega)]; simp
      unfold words_Put64_l1
      generalize v >>> s = z at hs hf
      generalize List.replicate 8 (u8 0) = M at hf hlen ⊢
      simp [hlt, a2, a3, hs, hlen, show i + 1 ≤ 8 by omega] at hf ⊢
      simp [hf]
  have h := hloop 8 0 rfl
  rw [fillAt_zero] at h
  unfold words_Put64
  simp at h
  simp [h, piece_some, List.take_of_length_le]
def rotl (v : UInt32) (k : Nat) : UInt32 := (v <<< UInt32.ofNat k) ||| (v >>> UInt32.ofNat ((32 - k) % 32))
theorem and31 (x : UInt64) : (x &&& 31).toNat = x.toNat % 32 := by
  rw [UInt64.toNat_and]; exact Nat.and_two_pow_sub_one_eq_mod _ 5
theorem Rotate_ok (v : UInt32) (n : Int) (H : Heap) : words_Rotate [u32 v, i64 n] H = some (u32 (rotl v (n % 32).toNat), H) := by
  have h0 : AV.conv .u64 (i64 n) = some (u64 (UInt64.ofNat (n % 18446744073709551616).toNat)) := conv_u64_any .i64 n
  have hk : ((UInt64.ofNat (n % 18446744073709551616).toNat) &&& 31).toNat = (n % 32).toNat := by
    rw [and31, UInt64.toNat_ofNat']; omega
  have hk2 : (32 - ((UInt64.ofNat (n % 18446744073709551616).toNat) &&& 31)).toNat = 32 - (n % 32).toNat := by
    rw [UInt64.toNat_sub_of_le _ _ (by rw [UInt64.le_iff_toNat_le, hk]; show _ ≤ 32; omega), hk]; rfl
  have hk3 : ((32 - ((UInt64.ofNat (n % 18446744073709551616).toNat) &&& 31)) &&& 31).toNat = (32 - (n % 32).toNat) % 32 := by
    rw [and31, hk2]
  generalize UInt64.ofNat (n % 18446744073709551616).toNat = x at *
  have s1 := bin_shl_u32' v (x &&& 31) (by omega)
  have s2 := bin_shr_u32' v ((32 - (x &&& 31)) &&& 31) (by omega)
  rw [hk] at s1
  rw [hk3] at s2
  unfold words_Rotate
  simp [h0, s1, s2, rotl]
theorem xor_zero (x y : UInt8) : (x ^^^ y = 0) ↔ x = y := by
  constructor
  · intro h
    have : x ^^^ y ^^^ y = 0 ^^^ y := by rw [h]
    simpa [UInt8.xor_assoc] using this
  · rintro rfl; simp
theorem or_zero (x y : UInt8) : (x ||| y = 0) ↔ x = 0 ∧ y = 0 := by
  simp only [← UInt8.toNat_inj, UInt8.toNat_or]
  show x.toNat ||| y.toNat = 0 ↔ x.toNat = 0 ∧ y.toNat = 0
  exact Nat.or_eq_zero_iff
section
variable {H : Heap} {a b : AV} {l m : List UInt8}
theorem Equal_ok (ha : IsSl u8 H a l) (hb : IsSl u8 H b m) (hl : l.length < 4611686018427387904) : words_Equal [a, b] H = some (.bool (l == m), H) := by
  by_cases hlen : l.length = m.length
  · have hloop : ∀ k i (acc : UInt8), i + k = l.length → ∃ z : UInt8, (z = 0 ↔ acc = 0 ∧ l.drop i = m.drop i) ∧ loopD (fun vs H' => (words_Equal_l1 (i64 l.length) [a, b] H vs H').bd (roundEnd H.length)) [u8 acc, i64 (i : Int)] H = some (.exit 0, [u8 z, i64 l.length], H) := by
      intro k
      induction k with
      | zero =>
        intro i acc hi
        have : i = l.length := by omega
        subst this
        refine ⟨acc, by simp [hlen], loopD_stop ?_⟩
        unfold words_Equal_l1
        simp
      | succ k ih =>
        intro i acc hi
        have hi' : i < l.length := by omega
        have hi2 : i < m.length := by omega
        obtain ⟨z, hz, h⟩ := ih (i + 1) (acc ||| (l[i] ^^^ m[i])) (by omega)
        refine ⟨z, ?_, loopD_step ?_ h⟩
        · rw [hz, or_zero, xor_zero, List.drop_eq_getElem_cons hi', List.drop_eq_getElem_cons hi2, List.cons.injEq, and_assoc]
        · have a3 := add1 i l.length hi' hl
          unfold words_Equal_l1
          simp [hi', ha.idx hi', hb.idx hi2, ha.ld hi', hb.ld hi2, a3]
    obtain ⟨z, hz, h⟩ := hloop l.length 0 0 (by omega)
    have he : (z == 0) = (l == m) := by
      rw [Bool.eq_iff_iff, beq_iff_eq, beq_iff_eq, hz]; simp
    simp at h
    have hlen' : ((l.length : Int) != (m.length : Int)) = false := by simp [hlen]
    unfold words_Equal
    simp [ha.len, hb.len, hlen', h, he]
  · have hlen' : ((l.length : Int) != (m.length : Int)) = true := by simp; omega
    have he : (l == m) = false := by simp; intro h; exact hlen (by rw [h])
    unfold words_Equal
    simp [ha.len, hb.len, hlen', he]
end
end Go.Sx
