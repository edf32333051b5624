import Derived.Test.YtkhkbenihjngpaaBaseC
import Derived.Test.YtkhkbenihjngpaaTAX
set_option linter.all false
namespace Go.Sx.TA
open Go Go.Sx
section
variable {H : Heap} {v : AV} {l : List UInt64}
theorem drop_cons_of {α : Type} {l : List α} {i : Nat} (h : i < l.length) : l.drop i = l[i] :: l.drop (i + 1) := List.drop_eq_getElem_cons h
theorem i_lt (i n : Nat) : decide ((i : Int) < (n : Int)) = decide (i < n) := by
  rw [Bool.eq_iff_iff]; simp
theorem add1 (i n : Nat) (h : i < n) (hn : n < 4611686018427387904) : AV.bin .add (i64 (i : Int)) (i64 1) = some (i64 ((i + 1 : Nat) : Int)) := by
  rw [bin_add_i64 (by omega) (by omega)]; simp
theorem has_loop (hs : IsSl u64 H v l) (hl : l.length < 4611686018427387904) (n : UInt64) : ∀ k i, i + k = l.length → ∃ vs, loopD (fun vs H' => (aditref15_has_l1 [v, u64 n] H vs H').bd (roundEnd H.length)) [.bool false, i64 (i : Int)] H = some (if (l.drop i).contains n then (.ret, vs, H) else (.exit 0, vs, H)) ∧ ((l.drop i).contains n = true → vs.getD 0 .top = .bool true) := by
  intro k
  induction k with
  | zero =>
    intro i hi
    rw [List.drop_of_length_le (show l.length ≤ i by omega)]
    refine ⟨[.bool false, i64 (i : Int)], loopD_stop ?_, by simp⟩
    unfold aditref15_has_l1
    simp [hs.len, show ¬ i < l.length by omega]
  | succ k ih =>
    intro i hi
    have hi' : i < l.length := by omega
    rw [drop_cons_of hi']
    by_cases hx : l[i] = n
    · refine ⟨[.bool true, i64 (i : Int)], ?_, fun _ => rfl⟩
      have hx1 : (l[i] :: l.drop (i + 1)).contains n = true := by simp [hx]
      rw [hx1, if_pos rfl]
      refine loopD_stop ?_
      unfold aditref15_has_l1
      simp [hs.len, hi', hs.idx hi', hs.ld hi', hx]
    · obtain ⟨vs, h1, h2⟩ := ih (i + 1) (by omega)
      have hx1 : (n == l[i]) = false := by simp; exact fun h => hx h.symm
      have hx2 : (l[i] == n) = false := by simp; exact hx
      rw [List.contains_cons, hx1, Bool.false_or]
      refine ⟨vs, loopD_step ?_ h1, h2⟩
      unfold aditref15_has_l1
      simp [hs.len, hi', hs.idx hi', hs.ld hi', hx2, add1 i l.length hi' hl, retract_self]
theorem rhas_ok (hs : IsSl u64 H v l) (hl : l.length < 4611686018427387904) (n : UInt64) : aditref15_has [v, u64 n] H = some (.bool (l.contains n), H) := by
  obtain ⟨vs, h1, h2⟩ := has_loop hs hl n l.length 0 (by omega)
  unfold aditref15_has
  rw [show (i64 ((0 : Nat) : Int)) = i64 0 from rfl] at h1
  rw [h1]
  rw [List.drop_zero] at h2 ⊢
  cases hc : l.contains n
  · simp [retract_self]
  · have := h2 hc
    simp at this
    simp [this, retract_self]
theorem greatest_loop (hs : IsSl u64 H v l) (hl : l.length < 4611686018427387904) (hlow : ∀ x ∈ l, x < spent) : ∀ k i (m : UInt64), i + k = l.length → loopD (fun vs H' => (aditref15_Greatest_l1 [v] H vs H').bd (roundEnd H.length)) [u64 m, i64 (i : Int)] H = some (.exit 0, [u64 (UInt64.ofNat ((l.drop i).foldl (fun n x => max n (x.toNat + 1)) m.toNat)), i64 l.length], H) := by
  intro k
  induction k with
  | zero =>
    intro i m hi
    rw [List.drop_of_length_le (show l.length ≤ i by omega)]
    have : i = l.length := by omega
    subst this
    refine loopD_stop ?_
    unfold aditref15_Greatest_l1
    simp [hs.len]
  | succ k ih =>
    intro i m hi
    have hi' : i < l.length := by omega
    rw [drop_cons_of hi', List.foldl_cons]
    have hlo := UInt64.lt_iff_toNat_lt.1 (hlow l[i] (List.getElem_mem hi'))
    have hsp : spent.toNat = 18446744073709543423 := rfl
    have hn1 : (l[i] + 1).toNat = l[i].toNat + 1 := by
      rw [UInt64.toNat_add]; show (l[i].toNat + 1) % 2 ^ 64 = _; omega
    by_cases hx : l[i] + 1 > m
    · have hx' := UInt64.lt_iff_toNat_lt.1 hx
      rw [show max m.toNat (l[i].toNat + 1) = (l[i] + 1).toNat by omega]
      refine loopD_step ?_ (ih (i + 1) (l[i] + 1) (by omega))
      unfold aditref15_Greatest_l1
      simp [hs.len, hi', hs.idx hi', hs.ld hi', hx, add1 i l.length hi' hl, retract_self]
    · have hx' : ¬ (m.toNat < l[i].toNat + 1) := by
        intro h; apply hx; apply UInt64.lt_iff_toNat_lt.2; omega
      rw [show max m.toNat (l[i].toNat + 1) = m.toNat by omega]
      refine loopD_step ?_ (ih (i + 1) m (by omega))
      unfold aditref15_Greatest_l1
      simp [hs.len, hi', hs.idx hi', hs.ld hi', hx, add1 i l.length hi' hl, retract_self]
theorem greatest_ok (hs : IsSl u64 H v l) (hl : l.length < 4611686018427387904) (hlow : ∀ x ∈ l, x < spent) : aditref15_Greatest [v] H = some (u64 (UInt64.ofNat (top l)), H) := by
  have := greatest_loop hs hl hlow l.length 0 0 (by omega)
  rw [List.drop_zero] at this
  unfold aditref15_Greatest
  rw [show (i64 ((0 : Nat) : Int)) = i64 0 from rfl] at this
  simp [this, retract_self, top]
theorem top_low (hlow : ∀ x ∈ l, x < spent) : top l ≤ 18446744073709543423 := by
  rcases top_is l with h | ⟨x, hx, h⟩
  · omega
  · have := UInt64.lt_iff_toNat_lt.1 (hlow x hx)
    have hsp : spent.toNat = 18446744073709543423 := rfl
    omega
theorem late_ok (hs : IsSl u64 H v l) (hl : l.length < 4611686018427387904) (hlow : ∀ x ∈ l, x < spent) (n : UInt64) : aditref15_late [v, u64 n] H = some (.bool (rLate l n), H) := by
  have ht := top_low hlow
  have hg : (UInt64.ofNat (top l)).toNat = top l := by rw [UInt64.toNat_ofNat']; omega
  unfold aditref15_late
  simp only [List.getD_cons_zero, List.getD_cons_succ, greatest_ok hs hl hlow, Option.bd_some]
  generalize hgd : UInt64.ofNat (top l) = g at hg
  unfold rLate
  rw [← hg]
  by_cases h1 : g > 0
  · by_cases h2 : n < g
    · have h1' := UInt64.lt_iff_toNat_lt.1 h1
      have h2' := UInt64.lt_iff_toNat_lt.1 h2
      have e1 : (g - 1 - n).toNat = g.toNat - 1 - n.toNat := by
        have h3 : (g - 1).toNat = g.toNat - 1 := by
          rw [UInt64.toNat_sub_of_le _ _ (by rw [UInt64.le_iff_toNat_le]; show 1 ≤ g.toNat; omega)]; rfl
        rw [UInt64.toNat_sub_of_le _ _ (by rw [UInt64.le_iff_toNat_le, h3]; omega), h3]
      have e2 : decide (g - 1 - n ≥ 128) = decide (n.toNat + 128 < g.toNat) := by
        rw [Bool.eq_iff_iff, decide_eq_true_eq, decide_eq_true_eq, ge_iff_le, UInt64.le_iff_toNat_le, e1]
        show 128 ≤ _ ↔ _
        omega
      simp [h1, h2, e2, retract_self]
    · have h2' : ¬ (n.toNat < g.toNat) := fun h => h2 (UInt64.lt_iff_toNat_lt.2 h)
      simp [h1, h2, retract_self]
      omega
  · have h1' : ¬ (0 < g.toNat) := fun h => h1 (UInt64.lt_iff_toNat_lt.2 h)
    simp [h1, retract_self]
    omega
theorem spent_gt (n : UInt64) : n > 18446744073709543422 ↔ n ≥ spent := by
  rw [gt_iff_lt, ge_iff_le, UInt64.lt_iff_toNat_lt, UInt64.le_iff_toNat_le]
  have h2 : spent.toNat = 18446744073709543423 := rfl
  have h3 : (18446744073709543422 : UInt64).toNat = 18446744073709543422 := rfl
  omega
theorem rcheck_ok (hs : IsSl u64 H v l) (hl : l.length < 4611686018427387904) (hlow : ∀ x ∈ l, x < spent) (n : UInt64) : aditref15_Check [v, u64 n] H = some (i64 (rCheck l n), H) := by
  have e1 := rhas_ok hs hl
  have e2 := late_ok hs hl hlow
  unfold aditref15_Check rCheck
  generalize aditref15_has = c1 at e1 ⊢
  generalize aditref15_late = c2 at e2 ⊢
  simp only [List.getD_cons_zero, List.getD_cons_succ, Option.bd_some, bin_gtr_u64, asB_bool]
  by_cases h1 : n ≥ spent
  · rw [if_pos h1, decide_eq_true ((spent_gt n).2 h1)]
    simp [retract_self]
  · rw [if_neg h1, decide_eq_false (fun h => h1 ((spent_gt n).1 h))]
    simp only [cond_ff, Option.bd_some, andThen_norm, e1]
    cases h2 : l.contains n
    · cases h3 : rLate l n <;> simp [e2, h3, retract_self]
    · simp [retract_self]
theorem rHas_ok (hs : IsSl u64 H v l) (hl : l.length < 4611686018427387904) (hlow : ∀ x ∈ l, x < spent) (n : UInt64) : aditref15_Has [v, u64 n] H = some (.bool (rHas l n), H) := by
  have e1 := rhas_ok hs hl
  have e2 := late_ok hs hl hlow
  unfold aditref15_Has rHas
  generalize aditref15_has = c1 at e1 ⊢
  generalize aditref15_late = c2 at e2 ⊢
  simp only [List.getD_cons_zero, List.getD_cons_succ, Option.bd_some, e1]
  cases h2 : l.contains n <;> simp [e2, retract_self]
end
theorem alive_ok (H : Heap) : aditlaw15_alive [] H = some (.bool true, H) := by
  have h1 : [u64 0, u64 0, u64 0] = [u64 (Win.mk 0 0 0).next, u64 (Win.mk 0 0 0).a, u64 (Win.mk 0 0 0).b] := rfl
  have t1 := fun H => Take_ok ⟨0, 0, 0⟩ 5 H
  have e1 : wTake ⟨0, 0, 0⟩ 5 = (⟨6, 1, 0⟩, 0) := by decide
  have t2 := fun H => Take_ok ⟨6, 1, 0⟩ 5 H
  have e2 : wTake ⟨6, 1, 0⟩ 5 = (⟨6, 1, 0⟩, 80) := by decide
  have t3 := fun H => Take_ok ⟨6, 1, 0⟩ 200 H
  have e3 : wTake ⟨6, 1, 0⟩ 200 = (⟨201, 1, 0⟩, 0) := by decide
  have t4 := fun H => Check_ok ⟨201, 1, 0⟩ 72 H
  have e4 : wCheck ⟨201, 1, 0⟩ 72 = 80 := by decide
  have t5 := fun H => Check_ok ⟨201, 1, 0⟩ 73 H
  have e5 : wCheck ⟨201, 1, 0⟩ 73 = 0 := by decide
  have t6 := fun H => Next_ok ⟨201, 1, 0⟩ H
  have t7 := fun H => Has_ok ⟨6, 1, 0⟩ 5 H
  have e7 : wHas ⟨6, 1, 0⟩ 5 = true := by decide
  simp only [e1, e2, e3, e4, e5, e7, Win.av] at t1 t2 t3 t4 t5 t6 t7
  unfold aditlaw15_alive
  generalize window_Window_Take = c1 at t1 t2 t3 ⊢
  generalize window_Window_Check = c2 at t4 t5 ⊢
  generalize window_Window_Next = c3 at t6 ⊢
  generalize window_Window_Has = c4 at t7 ⊢
  simp [t1, t2, t3, t4, t5, t6, t7, piece_some, put_more, retract_app]
end Go.Sx.TA
