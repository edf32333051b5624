import Derived.Test.YtkhkbenihjngpaaTAO
set_option linter.all false
namespace Go.Sx.TA
open Go Go.Sx
theorem and_small (t : Int) (h1 : -9223372036854775808 ≤ t) (h2 : t ≤ 9223372036854775807) : ∃ c : Nat, c < 1024 ∧ AV.bin .and (i64 t) (i64 1023) = some (i64 (c : Int)) := by
  refine ⟨(BitVec.ofInt 64 t &&& BitVec.ofInt 64 1023).toNat, ?_, ?_⟩
  · rw [BitVec.toNat_and]
    exact Nat.lt_of_le_of_lt Nat.and_le_right (by decide)
  · have hs : (BitVec.ofInt 64 t &&& BitVec.ofInt 64 1023).toNat < 1024 := by
      rw [BitVec.toNat_and]
      exact Nat.lt_of_le_of_lt Nat.and_le_right (by decide)
    have e : AV.bin .and (i64 t) (i64 1023) = some (.int .i64 (IntKind.i64.wrap ((BitVec.ofInt 64 t &&& BitVec.ofInt 64 1023).toNat : Int))) := rfl
    rw [e, i64_wrap (by omega) (by omega)]
theorem rem_nat (a b : Nat) (hb : 0 < b) (ha : a < 9223372036854775808) : AV.bin .rem (i64 (a : Int)) (i64 (b : Int)) = some (i64 ((a % b : Nat) : Int)) := by
  have h0 : ¬ ((b : Int) = 0) := by omega
  simp only [AV.bin, intBin, ne_eq, not_true_eq_false, if_false, h0]
  rfl
theorem addn (a b : Nat) (h : a + b < 9223372036854775808) : AV.bin .add (i64 (a : Int)) (i64 (b : Int)) = some (i64 ((a + b : Nat) : Int)) := by
  rw [bin_add_i64 (by omega) (by omega)]; simp
theorem plays_succ1 (l : List UInt64) {i : Nat} (h : i < l.length) : (plays l (i + 1)).1 = (wTake (plays l i).1 l[i]).1 := by
  rw [plays_succ l h]
  by_cases hc : wCheck (plays l i).1 l[i] = 0
  · rw [taken_eq hc, if_pos hc]
  · rw [taken_ne hc, if_neg hc]
section
variable {H : Heap} {v : AV} {l : List UInt8}
theorem order_step (hs : IsSl u8 H v l) (base : UInt64) (t : Int) (c : Nat) (hc : c < 1024) (ht : AV.bin .and (i64 t) (i64 1023) = some (i64 (c : Int))) (hl : l.length ≤ 60) {i : Nat} (hi : i < l.length) (a b : Win) :
    (aditlaw15_WindowOrder_l1 [u64 base, v, i64 t] H (H ++ [Blk.rw [u64 0, u64 0, u64 0], Blk.rw [u64 0, u64 0, u64 0]]) [i64 (i : Int)] (H ++ [Blk.rw [u64 a.next, u64 a.a, u64 a.b], Blk.rw [u64 b.next, u64 b.a, u64 b.b]])).bd (roundEnd (H.length + 2)) =
      some (.inl ([i64 ((i + 1 : Nat) : Int)], H ++ [Blk.rw [u64 (wTake a (base + UInt64.ofNat (l[i] &&& 127).toNat)).1.next, u64 (wTake a (base + UInt64.ofNat (l[i] &&& 127).toNat)).1.a, u64 (wTake a (base + UInt64.ofNat (l[i] &&& 127).toNat)).1.b],
        Blk.rw [u64 (wTake b (base + UInt64.ofNat (l.getD ((i + c) % l.length) 0 &&& 127).toNat)).1.next, u64 (wTake b (base + UInt64.ofNat (l.getD ((i + c) % l.length) 0 &&& 127).toNat)).1.a, u64 (wTake b (base + UInt64.ofNat (l.getD ((i + c) % l.length) 0 &&& 127).toNat)).1.b]])) := by
  have e1 := fun w n H => Take_ok w n H
  have ha := add1 i 60 (by omega) (by omega)
  have hj := Nat.mod_lt (i + c) (show 0 < l.length by omega)
  have hg : l.getD ((i + c) % l.length) 0 = l[(i + c) % l.length] := by rw [List.getD_eq_getElem?_getD, List.getElem?_eq_getElem hj]; rfl
  have h2 := addn i c (by omega)
  have h3 := rem_nat (i + c) l.length (by omega) (by omega)
  have h4 := hs.idx hj
  rw [hg]
  unfold aditlaw15_WindowOrder_l1
  generalize window_Window_Take = c1 at e1 ⊢
  simp only [Win.av] at e1
  simp only [Int.natCast_add, Int.natCast_emod] at h2 h3 h4
  simp [hs.len, hi, hs.idx hi, hs.ldB _ hi, hs.ldB _ hj, ha, e1, h2, h3, h4, ht, piece_some, put_more, conv_u64_u8, chk]
theorem order_loop (hs : IsSl u8 H v l) (base : UInt64) (t : Int) (c : Nat) (hc : c < 1024) (ht : AV.bin .and (i64 t) (i64 1023) = some (i64 (c : Int))) (hl : l.length ≤ 60) : ∀ k i, i + k = l.length →
    loopD (fun vs H' => (aditlaw15_WindowOrder_l1 [u64 base, v, i64 t] H (H ++ [Blk.rw [u64 0, u64 0, u64 0], Blk.rw [u64 0, u64 0, u64 0]]) vs H').bd (roundEnd (H.length + 2))) [i64 (i : Int)]
      (H ++ [Blk.rw [u64 (plays (nearA base l) i).1.next, u64 (plays (nearA base l) i).1.a, u64 (plays (nearA base l) i).1.b], Blk.rw [u64 (plays (nearB base l c) i).1.next, u64 (plays (nearB base l c) i).1.a, u64 (plays (nearB base l c) i).1.b]]) =
      some (.exit 0, [i64 (l.length : Int)], H ++ [Blk.rw [u64 (plays (nearA base l) l.length).1.next, u64 (plays (nearA base l) l.length).1.a, u64 (plays (nearA base l) l.length).1.b], Blk.rw [u64 (plays (nearB base l c) l.length).1.next, u64 (plays (nearB base l c) l.length).1.a, u64 (plays (nearB base l c) l.length).1.b]]) := by
  intro k
  induction k with
  | zero =>
    intro i hi
    have : i = l.length := by omega
    subst this
    refine loopD_stop ?_
    unfold aditlaw15_WindowOrder_l1
    simp [hs.len]
  | succ k ih =>
    intro i hi
    have hi' : i < l.length := by omega
    have := order_step hs base t c hc ht hl hi' (plays (nearA base l) i).1 (plays (nearB base l c) i).1
    have hA : (plays (nearA base l) (i + 1)).1 = (wTake (plays (nearA base l) i).1 (base + UInt64.ofNat (l[i] &&& 127).toNat)).1 := by
      rw [plays_succ1 _ (by simp [nearA, hi'])]
      have : (nearA base l)[i]'(by simp [nearA, hi']) = base + UInt64.ofNat (l[i] &&& 127).toNat := by simp [nearA]
      rw [this]
    have hB : (plays (nearB base l c) (i + 1)).1 = (wTake (plays (nearB base l c) i).1 (base + UInt64.ofNat (l.getD ((i + c) % l.length) 0 &&& 127).toNat)).1 := by
      rw [plays_succ1 _ (by simp [nearB, hi'])]
      have : (nearB base l c)[i]'(by simp [nearB, hi']) = base + UInt64.ofNat (l.getD ((i + c) % l.length) 0 &&& 127).toNat := by simp [nearB]
      rw [this]
    rw [← hA, ← hB] at this
    exact loopD_step this (ih (i + 1) (by omega))
theorem windowOrder (hs : IsSl u8 H v l) (base : UInt64) (t : Int) (h1 : -9223372036854775808 ≤ t) (h2 : t ≤ 9223372036854775807) : ∃ H', aditlaw15_WindowOrder [u64 base, v, i64 t] H = some (.bool true, H') := by
  obtain ⟨c, hc, ht⟩ := and_small t h1 h2
  have ea := fun H => alive_ok H
  have e2 := fun w H => Next_ok w H
  simp only [Win.av] at e2
  refine ⟨H, ?_⟩
  by_cases hb : base > 4611686018427387904
  · unfold aditlaw15_WindowOrder
    generalize aditlaw15_alive = c1 at ea ⊢
    simp [hb, ea]
  · have hb' : base ≤ 4611686018427387904 := UInt64.not_lt.1 hb
    by_cases hl : l.length ≤ 60
    · by_cases h0 : l = []
      · unfold aditlaw15_WindowOrder
        generalize aditlaw15_alive = c1 at ea ⊢
        simp [hb, ea, hs.len, h0]
      · have h0' : ((l.length : Int) == 0) = false := by simpa using h0
        have hl' : ¬ ((60 : Int) < l.length) := by omega
        have hb2 : base.toNat + 128 ≤ 9223372036854775808 := by
          have := UInt64.le_iff_toNat_le.1 hb'
          have h3 : (4611686018427387904 : UInt64).toNat = 4611686018427387904 := rfl
          omega
        have hlen : (nearA base l).length = l.length := by simp [nearA]
        have hlenB : (nearB base l c).length = l.length := by simp [nearB]
        have hloop := order_loop hs base t c hc ht hl l.length 0 (by omega)
        have hsame := order_same hb2 (nearA_in base hb' l) (near_same base l c)
        have hnext := order_next hb2 (nearA_in base hb' l) (by intro h; apply h0; simpa [nearA] using h)
        rw [hlen, hlenB] at hsame
        rw [hlen] at hnext
        rw [plays_zero, plays_zero, ← hsame] at hloop
        generalize (plays (nearA base l) l.length).1 = w at hloop hnext
        have hnext' := UInt64.lt_iff_toNat_lt.2 hnext
        simp [W0] at hloop
        unfold aditlaw15_WindowOrder
        generalize aditlaw15_alive = c1 at ea ⊢
        generalize window_Window_Next = c2 at e2 ⊢
        simp [hb, ea, hs.len, h0', hl', hloop, piece_some, eqg3, e2, hnext']
    · have hl' : ((60 : Int) < l.length) := by omega
      unfold aditlaw15_WindowOrder
      generalize aditlaw15_alive = c1 at ea ⊢
      simp [hb, ea, hs.len, hl']
end
end Go.Sx.TA
