import Derived.Test.YtkhkbenihjngpaaTAW
set_option linter.all false
namespace Go.Sx.TA
open Go Go.Sx
def Win.bit (w : Win) (k : Nat) : Bool := (w.word (k / 64)).toNat.testBit (k % 64)
theorem and_one (x : UInt64) : (x &&& 1 == 1) = x.toNat.testBit 0 := by
  rw [Nat.testBit_zero, Bool.eq_iff_iff]
  simp only [beq_iff_eq, ← UInt64.toNat_inj, UInt64.toNat_and, decide_eq_true_eq]
  show x.toNat &&& 1 = 1 ↔ x.toNat % 2 = 1
  rw [Nat.and_one_is_mod]
theorem shr_bit (x y : UInt64) (h : y.toNat < 64) (k : Nat) : (x >>> y).toNat.testBit k = x.toNat.testBit (y.toNat + k) := by
  rw [UInt64.toNat_shiftRight, Nat.mod_eq_of_lt h, Nat.testBit_shiftRight]
theorem shl_bit (x y : UInt64) (h : y.toNat < 64) (k : Nat) : (x <<< y).toNat.testBit k = (decide (k < 64) && decide (k ≥ y.toNat) && x.toNat.testBit (k - y.toNat)) := by
  rw [UInt64.toNat_shiftLeft, Nat.mod_eq_of_lt h, Nat.testBit_mod_two_pow, Nat.testBit_shiftLeft, Bool.and_assoc]
theorem or_bit (x y : UInt64) (k : Nat) : (x ||| y).toNat.testBit k = (x.toNat.testBit k || y.toNat.testBit k) := by
  rw [UInt64.toNat_or, Nat.testBit_or]
theorem big_bit (x : UInt64) (k : Nat) (h : 64 ≤ k) : x.toNat.testBit k = false :=
  Nat.testBit_lt_two_pow (Nat.lt_of_lt_of_le x.toNat_lt (Nat.pow_le_pow_right (by decide) h))
theorem wHas_bit (w : Win) (n : UInt64) : wHas w n = (decide (n.toNat < w.next.toNat) && decide (w.next.toNat - 1 - n.toNat < 128) && w.bit (w.next.toNat - 1 - n.toNat)) := by
  unfold wHas
  by_cases h1 : n.toNat < w.next.toNat
  · have h0 : (w.at n).toNat = w.next.toNat - 1 - n.toNat := by
      unfold Win.at
      have h2 : (w.next - 1).toNat = w.next.toNat - 1 := by
        rw [UInt64.toNat_sub_of_le _ _ (by rw [UInt64.le_iff_toNat_le]; show 1 ≤ w.next.toNat; omega)]; rfl
      rw [UInt64.toNat_sub_of_le _ _ (by rw [UInt64.le_iff_toNat_le, h2]; omega), h2]
    by_cases h3 : (w.at n).toNat < 128
    · have h4 : ¬ (n ≥ w.next ∨ w.at n ≥ 128) := by
        simp only [ge_iff_le, UInt64.le_iff_toNat_le, show (128 : UInt64).toNat = 128 from rfl]; omega
      rw [if_neg h4, and_one, shr_bit _ _ (mod64 _), ← h0]
      have e1 : (w.at n / 64).toNat = (w.at n).toNat / 64 := by rw [UInt64.toNat_div]; rfl
      have e2 : (w.at n % 64).toNat = (w.at n).toNat % 64 := by rw [UInt64.toNat_mod]; rfl
      simp only [h1, h3, decide_true, Bool.true_and, Win.bit, e1, e2, Nat.add_zero]
    · have h4 : (n ≥ w.next ∨ w.at n ≥ 128) := by
        simp only [ge_iff_le, UInt64.le_iff_toNat_le, show (128 : UInt64).toNat = 128 from rfl]; omega
      rw [if_pos h4, ← h0]
      simp [h3]
  · have h4 : (n ≥ w.next ∨ w.at n ≥ 128) := by
        simp only [ge_iff_le, UInt64.le_iff_toNat_le]; omega
    rw [if_pos h4]
    simp [h1]
theorem at_toNat (w : Win) (n : UInt64) (h : n.toNat < w.next.toNat) : (w.at n).toNat = w.next.toNat - 1 - n.toNat := by
  unfold Win.at
  have h2 : (w.next - 1).toNat = w.next.toNat - 1 := by
    rw [UInt64.toNat_sub_of_le _ _ (by rw [UInt64.le_iff_toNat_le]; show 1 ≤ w.next.toNat; omega)]; rfl
  rw [UInt64.toNat_sub_of_le _ _ (by rw [UInt64.le_iff_toNat_le, h2]; omega), h2]
theorem move_bit (w : Win) (k : UInt64) (hk : k.toNat < 128) (j : Nat) (hj : j < 128) : (wMove w k).bit j = (decide (k.toNat ≤ j) && w.bit (j - k.toNat)) := by
  have h4 := mod64 k
  have h5 : (k % 64).toNat = k.toNat % 64 := by rw [UInt64.toNat_mod]; rfl
  have h6 : (k / 64).toNat = k.toNat / 64 := by rw [UInt64.toNat_div]; rfl
  unfold wMove
  rw [h6]
  by_cases h0 : k.toNat / 64 = 0
  · rw [if_pos h0]
    have hk64 : k.toNat < 64 := by omega
    have hm : k.toNat % 64 = k.toNat := Nat.mod_eq_of_lt hk64
    by_cases hj1 : j < 64
    · have e1 : j / 64 = 0 := by omega
      have e2 : j % 64 = j := by omega
      have e3 : (j - k.toNat) / 64 = 0 := by omega
      have e4 : (j - k.toNat) % 64 = j - k.toNat := by omega
      simp only [Win.bit, Win.word, e1, e2, e3, e4, if_true, shl_bit _ _ h4, h5, hm, hj1, decide_true, Bool.true_and, ge_iff_le]
    · have e1 : j / 64 = 1 := by omega
      have e2 : j % 64 = j - 64 := by omega
      by_cases hr : k % 64 > 0
      · have hr0 : 0 < k.toNat := by
          have := UInt64.lt_iff_toNat_lt.1 hr
          rw [h5, hm] at this; simpa using this
        have h8 : (64 - k % 64).toNat = 64 - k.toNat := by
          rw [UInt64.toNat_sub_of_le _ _ (by rw [UInt64.le_iff_toNat_le, h5, hm]; show k.toNat ≤ 64; omega), h5, hm]; rfl
        simp only [Win.bit, Win.word, e1, e2, if_pos hr]
        by_cases hjk : j - 64 ≥ k.toNat
        · have e3 : (j - k.toNat) / 64 = 1 := by omega
          have e4 : (j - k.toNat) % 64 = j - 64 - k.toNat := by omega
          have e5 : w.a.toNat.testBit (64 - k.toNat + (j - 64)) = false := big_bit _ _ (by omega)
          simp [-UInt64.toNat_shiftLeft, -UInt64.toNat_shiftRight, -UInt64.toNat_or, or_bit, shl_bit _ _ h4, shr_bit _ (64 - k % 64) (by omega : (64 - k % 64).toNat < 64), h8, h5, hm, e3, e4, e5, hjk, show j - 64 < 64 by omega, show k.toNat ≤ j by omega]
        · have e3 : (j - k.toNat) / 64 = 0 := by omega
          have e4 : (j - k.toNat) % 64 = 64 - k.toNat + (j - 64) := by omega
          have hx : ¬ (k.toNat ≤ j - 64) := by omega
          simp [-UInt64.toNat_shiftLeft, -UInt64.toNat_shiftRight, -UInt64.toNat_or, or_bit, shl_bit _ _ h4, shr_bit _ (64 - k % 64) (by omega : (64 - k % 64).toNat < 64), h8, h5, hm, e3, e4, hx, show k.toNat ≤ j by omega]
      · have hr0 : k.toNat = 0 := by
          have := fun h => hr (UInt64.lt_iff_toNat_lt.2 h)
          rw [h5, hm] at this
          have h9 : ¬ (0 < k.toNat) := fun h => this h
          omega
        simp [-UInt64.toNat_shiftLeft, -UInt64.toNat_shiftRight, -UInt64.toNat_or, Win.bit, Win.word, e1, e2, hr, shl_bit _ _ h4, h5, hr0]
        try omega
  · rw [if_neg h0]
    have h7 : k.toNat / 64 = 1 := by omega
    by_cases hj1 : j < 64
    · have e1 : j / 64 = 0 := by omega
      simp [Win.bit, Win.word, e1, show ¬ k.toNat ≤ j by omega]
    · have e1 : j / 64 = 1 := by omega
      have e2 : j % 64 = j - 64 := by omega
      have h9 : k.toNat % 64 = k.toNat - 64 := by omega
      by_cases hjk : k.toNat ≤ j
      · have e3 : (j - k.toNat) / 64 = 0 := by omega
        have e4 : (j - k.toNat) % 64 = j - 64 - (k.toNat - 64) := by omega
        have hy : k.toNat - 64 ≤ j - 64 := by omega
        simp [-UInt64.toNat_shiftLeft, Win.bit, Win.word, e1, e2, e3, e4, shl_bit _ _ h4, h5, h9, show j - 64 < 64 by omega, hjk, hy]
      · have hy : ¬ (k.toNat - 64 ≤ j - 64) := by omega
        simp [-UInt64.toNat_shiftLeft, Win.bit, Win.word, e1, e2, shl_bit _ _ h4, h5, h9, hjk, hy]
theorem mark_bit (w : Win) (n : UInt64) (h : (w.at n).toNat < 128) (j : Nat) (hj : j < 128) : (w.mark n).bit j = (w.bit j || decide (j = (w.at n).toNat)) := by
  have h4 := mod64 (w.at n)
  have h5 : (w.at n % 64).toNat = (w.at n).toNat % 64 := by rw [UInt64.toNat_mod]; rfl
  have h6 : (w.at n / 64).toNat = (w.at n).toNat / 64 := by rw [UInt64.toNat_div]; rfl
  have h1 : ∀ k : Nat, (1 : UInt64).toNat.testBit k = decide (k = 0) := fun k => by
    show Nat.testBit 1 k = _
    cases k with
    | zero => rfl
    | succ k => rw [Nat.testBit_succ]; simp
  unfold Win.mark
  rw [h6]
  by_cases h0 : (w.at n).toNat / 64 = 0
  · rw [if_pos h0]
    by_cases hj1 : j < 64
    · have e1 : j / 64 = 0 := by omega
      have e2 : j % 64 = j := by omega
      simp only [Win.bit, Win.word, e1, e2, if_true, or_bit, shl_bit _ _ h4, h5, h1, hj1, decide_true, Bool.true_and]
      congr 1
      rw [Bool.eq_iff_iff]; simp; omega
    · have e1 : j / 64 = 1 := by omega
      simp [Win.bit, Win.word, e1, show ¬ j = (w.at n).toNat by omega]
  · rw [if_neg h0]
    by_cases hj1 : j < 64
    · have e1 : j / 64 = 0 := by omega
      simp [Win.bit, Win.word, e1, show ¬ j = (w.at n).toNat by omega]
    · have e1 : j / 64 = 1 := by omega
      have e2 : j % 64 = j - 64 := by omega
      simp only [Win.bit, Win.word, e1, e2, show ¬ (1 = 0) by omega, if_false]
      rw [or_bit, shl_bit _ _ h4, h5, h1]
      congr 1
      rw [Bool.eq_iff_iff]
      simp only [Bool.and_eq_true, decide_eq_true_eq]; omega
theorem Win.ext_bits {v w : Win} (hn : v.next = w.next) (h : ∀ k, k < 128 → v.bit k = w.bit k) : v = w := by
  cases v with | mk n a b => cases w with | mk m c d =>
  simp only at hn
  subst hn
  have ha : a = c := by
    apply UInt64.toNat_inj.1
    apply Nat.eq_of_testBit_eq
    intro i
    rcases Nat.lt_or_ge i 64 with hi | hi
    · have := h i (by omega)
      simpa [Win.bit, Win.word, show i / 64 = 0 by omega, Nat.mod_eq_of_lt hi] using this
    · rw [big_bit _ _ hi, big_bit _ _ hi]
  have hb : b = d := by
    apply UInt64.toNat_inj.1
    apply Nat.eq_of_testBit_eq
    intro i
    rcases Nat.lt_or_ge i 64 with hi | hi
    · have := h (64 + i) (by omega)
      simpa [Win.bit, Win.word, show (64 + i) / 64 = 1 by omega, show (64 + i) % 64 = i by omega] using this
    · rw [big_bit _ _ hi, big_bit _ _ hi]
  rw [ha, hb]
def top (l : List UInt64) : Nat := l.foldl (fun n x => max n (x.toNat + 1)) 0
def rLate (l : List UInt64) (n : UInt64) : Bool := decide (n.toNat + 128 < top l)
def rHas (l : List UInt64) (n : UInt64) : Bool := l.contains n && !rLate l n
def rCheck (l : List UInt64) (n : UInt64) : Int := if n ≥ spent then 81 else if l.contains n || rLate l n then 80 else 0
theorem top_fold (l : List UInt64) : ∀ (m : Nat), m ≤ l.foldl (fun n x => max n (x.toNat + 1)) m ∧ (∀ x ∈ l, x.toNat < l.foldl (fun n x => max n (x.toNat + 1)) m) ∧ (l.foldl (fun n x => max n (x.toNat + 1)) m = m ∨ ∃ x ∈ l, l.foldl (fun n x => max n (x.toNat + 1)) m = x.toNat + 1) := by
  induction l with
  | nil => intro m; simp
  | cons y l ih =>
    intro m
    simp only [List.foldl_cons]
    obtain ⟨h1, h2, h3⟩ := ih (max m (y.toNat + 1))
    refine ⟨by omega, ?_, ?_⟩
    · intro x hx
      rcases List.mem_cons.1 hx with rfl | hx
      · omega
      · exact h2 x hx
    · rcases h3 with h3 | ⟨x, hx, h3⟩
      · rw [h3]
        rcases Nat.le_total m (y.toNat + 1) with h | h
        · exact .inr ⟨y, by simp, by omega⟩
        · exact .inl (by omega)
      · exact .inr ⟨x, by simp [hx], h3⟩
theorem top_gt {l : List UInt64} {x : UInt64} (h : x ∈ l) : x.toNat < top l := (top_fold l 0).2.1 x h
theorem top_is (l : List UInt64) : top l = 0 ∨ ∃ x ∈ l, top l = x.toNat + 1 := (top_fold l 0).2.2
theorem top_push (l : List UInt64) (x : UInt64) : top (l ++ [x]) = max (top l) (x.toNat + 1) := by
  unfold top; rw [List.foldl_append]; rfl
structure Rep (w : Win) (l : List UInt64) : Prop where
  next : w.next.toNat = top l
  bits : ∀ k, k < 128 → (w.bit k = true ↔ ∃ x ∈ l, x.toNat + 1 + k = top l)
  low : ∀ x ∈ l, x < spent
theorem Rep.unique {v w : Win} {l : List UInt64} (h : Rep v l) (k : Rep w l) : v = w :=
  Win.ext_bits (UInt64.toNat_inj.1 (by rw [h.next, k.next])) fun j hj => by
    rw [Bool.eq_iff_iff, h.bits j hj, k.bits j hj]
theorem Rep.set {w : Win} {l l' : List UInt64} (h : Rep w l) (hs : ∀ x, x ∈ l ↔ x ∈ l') : Rep w l' := by
  have ht : top l = top l' := by
    have h1 := top_is l; have h2 := top_is l'
    rcases h1 with h1 | ⟨x, hx, h1⟩
    · rcases h2 with h2 | ⟨y, hy, h2⟩
      · omega
      · have := top_gt ((hs y).2 hy); omega
    · have := top_gt ((hs x).1 hx)
      rcases h2 with h2 | ⟨y, hy, h2⟩
      · omega
      · have := top_gt ((hs y).2 hy); omega
  refine ⟨by rw [h.next, ht], fun k hk => ?_, fun x hx => h.low x ((hs x).2 hx)⟩
  rw [h.bits k hk, ht]
  exact ⟨fun ⟨x, a, b⟩ => ⟨x, (hs x).1 a, b⟩, fun ⟨x, a, b⟩ => ⟨x, (hs x).2 a, b⟩⟩
theorem Rep.zero : Rep ⟨0, 0, 0⟩ [] := by
  refine ⟨rfl, fun k hk => ?_, fun x hx => by simp at hx⟩
  simp [Win.bit, Win.word]
theorem Rep.has {w : Win} {l : List UInt64} (h : Rep w l) (n : UInt64) : wHas w n = rHas l n := by
  rw [wHas_bit, Bool.eq_iff_iff]
  simp only [Bool.and_eq_true, decide_eq_true_eq, rHas, rLate, List.contains_iff_mem, Bool.not_eq_true', decide_eq_false_iff_not]
  rw [h.next]
  constructor
  · rintro ⟨⟨h1, h2⟩, h3⟩
    obtain ⟨x, hx, h4⟩ := (h.bits _ h2).1 h3
    have : x = n := UInt64.toNat_inj.1 (by omega)
    subst this
    exact ⟨hx, by omega⟩
  · rintro ⟨h1, h2⟩
    have := top_gt h1
    refine ⟨⟨this, by omega⟩, (h.bits _ (by omega)).2 ⟨n, h1, by omega⟩⟩
theorem Rep.check {w : Win} {l : List UInt64} (h : Rep w l) (n : UInt64) : wCheck w n = rCheck l n := by
  unfold wCheck rCheck
  split
  · rfl
  · rw [h.has]
    have : (rHas l n = true ∨ (n < w.next ∧ w.at n ≥ 128)) ↔ (l.contains n || rLate l n) = true := by
      have hlate : (n < w.next ∧ w.at n ≥ 128) ↔ rLate l n = true := by
        unfold rLate
        rw [decide_eq_true_eq, ← h.next, UInt64.lt_iff_toNat_lt, ge_iff_le, UInt64.le_iff_toNat_le]
        constructor
        · rintro ⟨h1, h2⟩
          rw [at_toNat w n h1] at h2
          have : (128 : UInt64).toNat = 128 := rfl
          omega
        · intro h1
          refine ⟨by omega, ?_⟩
          rw [at_toNat w n (by omega)]
          have : (128 : UInt64).toNat = 128 := rfl
          omega
      rw [hlate]
      unfold rHas
      cases l.contains n <;> cases rLate l n <;> simp
    by_cases hc : (l.contains n || rLate l n) = true
    · rw [if_pos (this.2 hc), if_pos hc]
    · rw [if_neg (fun hx => hc (this.1 hx)), if_neg hc]
theorem wHas_word (w : Win) (n : UInt64) (h : wCheck w n = 0) : n < spent ∧ wHas w n = false ∧ ¬ (n < w.next ∧ w.at n ≥ 128) := by
  unfold wCheck at h
  split at h
  · cases h
  · rename_i h1
    split at h
    · cases h
    · rename_i h2
      refine ⟨by simpa [UInt64.lt_iff_toNat_lt, UInt64.le_iff_toNat_le] using h1, ?_, fun hx => h2 (.inr hx)⟩
      cases hh : wHas w n
      · rfl
      · exact absurd (.inl hh) h2
theorem Rep.take {w : Win} {l : List UInt64} (h : Rep w l) {n : UInt64} (hc : wCheck w n = 0) : Rep ((w.up n).mark n) (l ++ [n]) := by
  have hat := up_at w n hc
  obtain ⟨hs, _, _⟩ := wHas_word w n hc
  have hat' : ((w.up n).at n).toNat < 128 := by
    simpa [UInt64.le_iff_toNat_le] using hat
  have hlow : ∀ x ∈ l ++ [n], x < spent := by
    intro x hx
    rcases List.mem_append.1 hx with hx | hx
    · exact h.low x hx
    · simp at hx; rw [hx]; exact hs
  have hmn : ((w.up n).mark n).next = (w.up n).next := by unfold Win.mark; split <;> rfl
  have hsn := UInt64.lt_iff_toNat_lt.1 hs
  have hspent : spent.toNat = 18446744073709543423 := rfl
  have hn1 : (n + 1).toNat = n.toNat + 1 := by
    rw [UInt64.toNat_add]; show (n.toNat + 1) % 2 ^ 64 = _; omega
  by_cases h1 : n ≥ w.next
  · have h1' := UInt64.le_iff_toNat_le.1 h1
    rw [h.next] at h1'
    have htop : top (l ++ [n]) = n.toNat + 1 := by rw [top_push]; omega
    have hun : (w.up n).next = n + 1 := by unfold Win.up; rw [if_pos h1]; split <;> rfl
    have ha0 : ((w.up n).at n).toNat = 0 := by
      rw [at_toNat _ _ (by rw [hun, hn1]; omega), hun, hn1]; omega
    refine ⟨by rw [hmn, hun, hn1, htop], fun k hk => ?_, hlow⟩
    rw [mark_bit _ _ hat' _ hk, ha0, htop]
    have hby : (n + 1 - w.next).toNat = n.toNat + 1 - top l := by
      rw [UInt64.toNat_sub_of_le _ _ (by rw [UInt64.le_iff_toNat_le, h.next, hn1]; omega), hn1, h.next]
    have hup : (w.up n).bit k = true ↔ ∃ x ∈ l, x.toNat + 1 + k = n.toNat + 1 := by
      unfold Win.up
      rw [if_pos h1]
      by_cases h2 : n + 1 - w.next < 128
      · rw [if_pos h2]
        have h2' : n.toNat + 1 - top l < 128 := by
          have := UInt64.lt_iff_toNat_lt.1 h2
          rw [hby] at this; exact this
        have e1 : Win.bit { wMove w (n + 1 - w.next) with next := n + 1 } k = (wMove w (n + 1 - w.next)).bit k := rfl
        rw [e1, move_bit _ _ (by rw [hby]; exact h2') _ hk, hby, Bool.and_eq_true, decide_eq_true_eq]
        constructor
        · rintro ⟨a, b⟩
          obtain ⟨x, hx, hb⟩ := (h.bits _ (by omega)).1 b
          exact ⟨x, hx, by omega⟩
        · rintro ⟨x, hx, hb⟩
          have := top_gt hx
          exact ⟨by omega, (h.bits _ (by omega)).2 ⟨x, hx, by omega⟩⟩
      · rw [if_neg h2]
        have h2' : ¬ (n.toNat + 1 - top l < 128) := by
          intro h3
          apply h2
          rw [UInt64.lt_iff_toNat_lt, hby]; exact h3
        constructor
        · intro hb; simp [Win.bit, Win.word] at hb
        · rintro ⟨x, hx, hb⟩
          have := top_gt hx
          omega
    rw [Bool.or_eq_true, hup, decide_eq_true_eq]
    constructor
    · rintro (⟨x, hx, hb⟩ | hb)
      · exact ⟨x, by simp [hx], hb⟩
      · exact ⟨n, by simp, by omega⟩
    · rintro ⟨x, hx, hb⟩
      rcases List.mem_append.1 hx with hx | hx
      · exact .inl ⟨x, hx, hb⟩
      · simp at hx; subst hx; exact .inr (by omega)
  · have h1' : n.toNat < top l := by
      rw [← h.next]
      have : ¬ (w.next.toNat ≤ n.toNat) := fun hx => h1 (UInt64.le_iff_toNat_le.2 hx)
      omega
    have hu : w.up n = w := by unfold Win.up; rw [if_neg h1]
    rw [hu] at hat' ⊢
    have htop : top (l ++ [n]) = top l := by rw [top_push]; omega
    have hmn' : (w.mark n).next = w.next := by unfold Win.mark; split <;> rfl
    refine ⟨by rw [hmn', h.next, htop], fun k hk => ?_, hlow⟩
    rw [mark_bit _ _ hat' _ hk, Bool.or_eq_true, decide_eq_true_eq, h.bits k hk, htop]
    have hat2 := at_toNat w n (by rw [h.next]; exact h1')
    rw [h.next] at hat2
    constructor
    · rintro (⟨x, hx, hb⟩ | hb)
      · exact ⟨x, by simp [hx], hb⟩
      · exact ⟨n, by simp, by omega⟩
    · rintro ⟨x, hx, hb⟩
      rcases List.mem_append.1 hx with hx | hx
      · exact .inl ⟨x, hx, hb⟩
      · simp at hx; subst hx; exact .inr (by omega)
def wPlay : Win → List UInt64 → List UInt64 → Win × List UInt64
  | w, out, [] => (w, out)
  | w, out, n :: l => if wCheck w n = 0 then wPlay ((w.up n).mark n) (out ++ [n]) l else wPlay w out l
theorem wPlay_push : ∀ (l : List UInt64) (w : Win) (out : List UInt64) (n : UInt64), wPlay w out (l ++ [n]) = (if wCheck (wPlay w out l).1 n = 0 then (((wPlay w out l).1.up n).mark n, (wPlay w out l).2 ++ [n]) else wPlay w out l)
  | [], w, out, n => by
    rw [show wPlay w out [] = (w, out) from rfl]
    rfl
  | x :: l, w, out, n => by
    simp only [List.cons_append, wPlay]
    split
    · exact wPlay_push l _ _ n
    · exact wPlay_push l _ _ n
theorem wPlay_rep : ∀ (l : List UInt64) (w : Win) (out : List UInt64), Rep w out → out.Nodup → Rep (wPlay w out l).1 (wPlay w out l).2 ∧ (wPlay w out l).2.Nodup
  | [], w, out, h, hn => ⟨h, hn⟩
  | n :: l, w, out, h, hn => by
    unfold wPlay
    split
    · rename_i hc
      refine wPlay_rep l _ _ (h.take hc) ?_
      rw [List.nodup_append]
      refine ⟨hn, by simp, fun a ha b hb hab => ?_⟩
      simp at hb; subst hb; subst hab
      rw [h.check] at hc
      unfold rCheck at hc
      split at hc
      · cases hc
      · simp [ha] at hc
    · exact wPlay_rep l _ _ h hn
theorem wPlay_again : ∀ (l : List UInt64) (w : Win) (out : List UInt64), ∃ k, (wPlay w out l).2 = out ++ k ∧ ∀ out', wPlay w out' k = ((wPlay w out l).1, out' ++ k)
  | [], w, out => ⟨[], by simp [wPlay], fun out' => by simp [wPlay]⟩
  | n :: l, w, out => by
    by_cases hc : wCheck w n = 0
    · obtain ⟨k, h1, h2⟩ := wPlay_again l ((w.up n).mark n) (out ++ [n])
      refine ⟨n :: k, by simp only [wPlay, if_pos hc]; rw [h1]; simp, fun out' => ?_⟩
      simp only [wPlay, if_pos hc]; rw [h2]; simp
    · simp only [wPlay, if_neg hc]
      exact wPlay_again l w out
end Go.Sx.TA
