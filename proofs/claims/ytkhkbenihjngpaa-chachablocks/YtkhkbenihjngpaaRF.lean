import Derived.Test.YtkhkbenihjngpaaRE
set_option linter.all false
namespace Go.Sx
open Go
theorem sum64 (c : UInt64) (j : Nat) (h : c.toNat + j < 18446744073709551616) : (c + UInt64.ofNat j).toNat = c.toNat + j := by
  rw [UInt64.toNat_add, UInt64.toNat_ofNat']; omega
theorem sum32 (c : UInt32) (j : Nat) (h : c.toNat + j < 4294967296) : (c + UInt32.ofNat j).toNat = c.toNat + j := by
  rw [UInt32.toNat_add, UInt32.toNat_ofNat']; omega
theorem gt32 (c : UInt64) (n : Nat) (h : c.toNat = n) : decide (c > 4294967295) = decide (n > 4294967295) := by
  rw [Bool.eq_iff_iff, decide_eq_true_eq, decide_eq_true_eq, gt_iff_lt, UInt64.lt_iff_toNat_lt, h]
  exact Iff.rfl
section
variable {H : Heap} {a b v : AV} {key nonce l : List UInt8}
set_option maxRecDepth 20000 in
theorem xr_step (ha : IsSl u8 H a key) (hb : IsSl u8 H b nonce) (hs : IsSl u8 H v l) (hk : key.length = 32) (hn : nonce.length = 12) (hl : l.length ≤ 65536) (c : UInt64) (cc : UInt32) (hc : c.toNat = cc.toNat) (v2 : AV) :
    let X := xorS key nonce cc l
    let K := fun j => block key nonce (cc + UInt32.ofNat j)
    let st := fun (i : Nat) => if i = 0 then ([u64 c, .nsl, i64 0, .nsl, .nsl, i64 0], H) else ([u64 (c + UInt64.ofNat ((i + 63) / 64)), .nsl, i64 0, .sl H.length 0 i i 1, .sl (H.length + 1) 0 64 64 1, i64 (i : Int)], H ++ [.rw ((X.take i).map u8), .rw ((K ((i - 1) / 64)).map u8)])
    ∀ i, i < l.length → (i % 64 = 0 → cc.toNat + i / 64 ≤ 4294967295) → (aditref02_Xor_l1 [a, b, v2, v] H (st i).1 (st i).2).bd (roundEnd H.length) = some (.inl (st (i + 1))) := by
  intro X K st i hi hcnt
  have a1 := add1 i 65537 (by omega) (by omega)
  have i0 := hs.idx hi
  have l0 := fun B => hs.ldB B hi
  have r64 : AV.bin .rem (i64 (i : Int)) (i64 64) = some (i64 ((i % 64 : Nat) : Int)) := by
    simp only [AV.bin, intBin, ne_eq, not_true_eq_false, if_false]
    rw [if_neg (by decide)]; rfl
  have hX : X.length = l.length := by simp [X]
  have hXg : X[i]? = some (l[i] ^^^ (K (i / 64)).getD (i % 64) 0) := xorS_get key nonce cc l hi
  have hKl : ∀ j, (K j).length = 64 := fun j => by simp [K]
  have hKg : (K (i / 64))[i % 64]? = some ((K (i / 64)).getD (i % 64) 0) := by
    have h1 : i % 64 < 64 := Nat.mod_lt _ (by decide)
    rw [List.getD_eq_getElem?_getD, List.getElem?_eq_getElem (by rw [hKl]; exact h1)]; rfl
  generalize (K (i / 64)).getD (i % 64) 0 = kb at hXg hKg
  have htk : X.take (i + 1) = X.take i ++ [l[i] ^^^ kb] := by
    rw [List.take_add_one, hXg]; rfl
  have hci := cc.toNat_lt
  have hblk : ∀ (B : Heap) (j : Nat), cc.toNat + j ≤ 4294967295 → aditref02_Block [a, b, u64 (c + UInt64.ofNat j)] (H ++ B) = some (.sl (H ++ B).length 0 64 64 1, H ++ B ++ [.rw ((K j).map u8)]) := by
    intro B j hj
    rw [BlockR_ok (ha.grow B) (hb.grow B) hk hn, rest_same _ (cc + UInt32.ofNat j) (by rw [sum64 _ _ (by omega), sum32 _ _ (by omega), hc])]
  have hk64 := fun (B : Nat) => idxS_nat (sz := 1) (b := B) (o := 0) (len := 64) (cap := 64) (i := i % 64) (Nat.mod_lt _ (by decide))
  have hmod : i % 64 < 64 := Nat.mod_lt _ (by decide)
  by_cases h0 : i = 0
  · subst h0
    have hb0 := hblk [] 0 (by have := hcnt (by decide); omega)
    have hgt := gt32 c cc.toNat hc
    have hgt' : decide (c > 4294967295) = false := by rw [hgt]; simp; omega
    simp at hb0 i0 hKg
    have l1 := l0 []
    have l2 := l0 [.rw ((K 0).map u8)]
    simp at l1 htk
    have hpos : 0 < l.length := hi
    have a01 : AV.bin .add (i64 0) (i64 1) = some (i64 1) := rfl
    have r0 : AV.bin .rem (i64 0) (i64 64) = some (i64 0) := rfl
    have k0 : AV.idxS 1 (.sl H.length 0 64 64 1) (i64 0) = some (.ptr H.length 0) := rfl
    have hgt2 : ¬ (4294967295 < c) := by simpa using hgt'
    have hK0 := hKl 0
    simp only [st, if_true, Nat.zero_add, Nat.succ_ne_self, if_false, show ¬ (0 + 1 = 0) by omega]
    rw [htk]
    generalize K 0 = K0 at *
    unfold aditref02_Xor_l1
    generalize aditref02_Block = c1 at hb0 ⊢
    simp [hs.len, hpos, r0, hgt2, hb0, i0, l2, k0, hKg, lim, a01, retract_gen, beq_ne]
  · have hib : ((i : Int) < l.length) := by omega
    have hXi : (X.take i).length = i := by simp [hX]; omega
    have hlm : i + 1 ≤ lim := by simp [lim]; omega
    have ht : ((X.take i).map u8).take i = (X.take i).map u8 := List.take_of_length_le (by rw [List.length_map]; omega)
    simp only [st, h0, if_false, show ¬ (i + 1 = 0) by omega]
    rw [htk]
    by_cases h64 : i % 64 = 0
    · have hcn := hcnt h64
      have e1 : (i + 63) / 64 = i / 64 := by omega
      have e2 : (i + 1 - 1) / 64 = i / 64 := by omega
      have e3 : (i + 1 + 63) / 64 = i / 64 + 1 := by omega
      have hcc : c + UInt64.ofNat (i / 64 + 1) = c + UInt64.ofNat (i / 64) + 1 := by rw [UInt64.ofNat_add, ← UInt64.add_assoc]; rfl
      rw [e1, e2, e3, hcc]
      have hb0 := hblk [.rw ((X.take i).map u8), .rw ((K ((i - 1) / 64)).map u8)] (i / 64) hcn
      have hgt2 : ¬ (4294967295 < c + UInt64.ofNat (i / 64)) := by
        have := gt32 (c + UInt64.ofNat (i / 64)) _ (sum64 c (i / 64) (by omega))
        intro h
        rw [decide_eq_true h] at this
        simp at this; omega
      have l2 := l0 [.rw ((X.take i).map u8), .rw ((K ((i - 1) / 64)).map u8), .rw ((K (i / 64)).map u8)]
      have k0 : AV.idxS 1 (.sl (H.length + 2) 0 64 64 1) (i64 0) = some (.ptr (H.length + 2) 0) := rfl
      rw [h64] at r64 hKg
      have hK0 := hKl (i / 64)
      have hK1 := hKl ((i - 1) / 64)
      generalize X.take i = XI at *
      generalize K (i / 64) = K0 at *
      generalize K ((i - 1) / 64) = K1 at *
      generalize c + UInt64.ofNat (i / 64) = ci at *
      unfold aditref02_Xor_l1
      generalize aditref02_Block = c1 at hb0 ⊢
      simp at hb0 hKg r64
      simp [hs.len, hib, r64, hgt2, hb0, i0, l2, k0, hKg, hXi, hlm, a1, ht, retract_gen, beq_ne]
    · have e1 : (i + 63) / 64 = i / 64 + 1 := by omega
      have e2 : (i + 1 - 1) / 64 = i / 64 := by omega
      have e3 : (i + 1 + 63) / 64 = i / 64 + 1 := by omega
      have e4 : (i - 1) / 64 = i / 64 := by omega
      rw [e1, e2, e3, e4]
      have l2 := l0 [.rw ((X.take i).map u8), .rw ((K (i / 64)).map u8)]
      have k0 := hk64 (H.length + 1)
      have hK0 := hKl (i / 64)
      have hne : (((i % 64 : Nat) : Int) == 0) = false := by simp; omega
      generalize X.take i = XI at *
      generalize K (i / 64) = K0 at *
      generalize c + UInt64.ofNat (i / 64 + 1) = ci at *
      unfold aditref02_Xor_l1
      generalize i % 64 = m at *
      simp at k0
      simp [hs.len, hib, r64, hne, i0, l2, k0, hKg, hXi, hlm, a1, ht, retract_gen, beq_ne]
theorem xr_end (hs : IsSl u8 H v l) (hl : l.length ≤ 65536) (c : UInt64) (v2 : AV) (vs : List AV) (B : Heap) (h5 : vs.getD 5 .top = i64 (l.length : Int)) :
    (aditref02_Xor_l1 [a, b, v2, v] H vs (H ++ B)).bd (roundEnd H.length) = some (.inr (.exit 0, [vs.getD 0 .top, vs.getD 1 .top, vs.getD 2 .top, vs.getD 3 .top, vs.getD 4 .top, vs.getD 5 .top], H ++ B)) := by
  unfold aditref02_Xor_l1
  simp only [h5]
  simp [hs.len]
theorem XorR_ok (ha : IsSl u8 H a key) (hb : IsSl u8 H b nonce) (hs : IsSl u8 H v l) (hk : key.length = 32) (hn : nonce.length = 12) (hl : l.length ≤ 65536) (c : UInt64) (cc : UInt32) (hc : c.toNat = cc.toNat) (hcl : cc.toNat + (l.length + 63) / 64 ≤ 4294967296) :
    aditref02_Xor [a, b, u64 c, v] H = some (.tup [own H.length (xorS key nonce cc l), i64 0], H ++ ownH u8 (xorS key nonce cc l)) := by
  have hst := xr_step ha hb hs hk hn hl c cc hc (u64 c)
  simp only at hst
  have h1 : ¬ ((65536 : Int) < l.length) := by omega
  by_cases h0 : l = []
  · subst h0
    have he := xr_end (a := a) (b := b) hs hl c (u64 c) [u64 c, .nsl, i64 0, .nsl, .nsl, i64 0] [] rfl
    simp at he
    have hloop := loopD_stop (f := fun vs H' => (aditref02_Xor_l1 [a, b, u64 c, v] H vs H').bd (roundEnd H.length)) he
    unfold aditref02_Xor
    simp [hs.len, hloop, xorS, own, ownH]
  · have hpos : 0 < l.length := by cases l <;> simp_all
    have hX : (xorS key nonce cc l).length = l.length := by simp
    have hXne : xorS key nonce cc l ≠ [] := by intro h; rw [h] at hX; simp at hX; omega
    have he := xr_end (a := a) (b := b) hs hl c (u64 c) [u64 (c + UInt64.ofNat ((l.length + 63) / 64)), .nsl, i64 0, .sl H.length 0 l.length l.length 1, .sl (H.length + 1) 0 64 64 1, i64 (l.length : Int)] [.rw ((xorS key nonce cc l).map u8), .rw ((block key nonce (cc + UInt32.ofNat ((l.length - 1) / 64))).map u8)] rfl
    have hloop := loopD_count (f := fun vs H' => (aditref02_Xor_l1 [a, b, u64 c, v] H vs H').bd (roundEnd H.length)) _ l.length (fun i hi => hst i hi (fun _ => by omega)) (r := _) (by
      simp only [show l.length ≠ 0 by omega, if_false]
      rw [List.take_of_length_le (by omega)]
      exact he)
    simp only [if_true] at hloop
    have hxl : (xorS key nonce cc l).length = l.length := by simp
    generalize xorS key nonce cc l = X at *
    unfold aditref02_Xor
    simp [hs.len, h1, hloop, own, ownH, hXne, hxl]
theorem XorR_long (ha : IsSl u8 H a key) (hb : IsSl u8 H b nonce) (hs : IsSl u8 H v l) (hk : key.length = 32) (hn : nonce.length = 12) (c : UInt64) (cc : UInt32) (hc : c.toNat = cc.toNat) (hcl : l.length > 65536 ∨ cc.toNat + (l.length + 63) / 64 > 4294967296) :
    ∃ B, aditref02_Xor [a, b, u64 c, v] H = some (.tup [.nsl, i64 2], B) := by
  by_cases h1 : l.length > 65536
  · have h1' : ((65536 : Int) < l.length) := by omega
    refine ⟨H, ?_⟩
    unfold aditref02_Xor
    simp [hs.len, h1']
  · have hst := xr_step ha hb hs hk hn (by omega) c cc hc (u64 c)
    simp only at hst
    have h1' : ¬ ((65536 : Int) < l.length) := by omega
    have hcc := cc.toNat_lt
    have hj : ∃ j, cc.toNat + j = 4294967296 ∧ 64 * j < l.length := ⟨4294967296 - cc.toNat, by omega, by omega⟩
    obtain ⟨j, hj1, hj2⟩ := hj
    have hj0 : j ≠ 0 := by omega
    have i0 := hs.idx hj2
    have r64 : AV.bin .rem (i64 ((64 * j : Nat) : Int)) (i64 64) = some (i64 0) := by
      simp only [AV.bin, intBin, ne_eq, not_true_eq_false, if_false]
      rw [if_neg (by decide)]
      congr 2
      rw [show ((64 * j : Nat) : Int).tmod 64 = ((64 * j % 64 : Nat) : Int) from rfl]
      omega
    have hgt : c + UInt64.ofNat j > 4294967295 := by
      have := gt32 (c + UInt64.ofNat j) _ (sum64 c j (by omega))
      rw [hc, hj1] at this
      exact of_decide_eq_true (this.trans (by decide))
    have hloop := fun r hr => loopD_count (f := fun vs H' => (aditref02_Xor_l1 [a, b, u64 c, v] H vs H').bd (roundEnd H.length)) _ (64 * j) (fun i hi => hst i (by omega) (fun _ => by omega)) (r := r) hr
    simp only [if_true, show ¬ (64 * j = 0) by omega, if_false] at hloop
    rw [show (64 * j + 63) / 64 = j by omega] at hloop
    generalize c + UInt64.ofNat j = cj at *
    have hlt : ((64 * j : Nat) : Int) < l.length := by omega
    have hend := hloop _ (by
      unfold aditref02_Xor_l1
      simp [-Int.natCast_mul, hs.len, hlt, r64, hgt]
      rfl)
    refine ⟨H, ?_⟩
    unfold aditref02_Xor
    simp [hs.len, h1', hend]
end
end Go.Sx
