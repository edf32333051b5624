import Derived.Test.YtkhkbenihjngpaaTAM
set_option linter.all false
namespace Go.Sx.TA
open Go Go.Sx
section
variable {H : Heap} {v : AV} {l : List UInt64}
theorem own_at (B T : Heap) (l : List UInt64) {n : Nat} (hn : n = B.length) : IsSl u64 (B ++ (ownH u64 l ++ T)) (own n l) l := by
  rw [← List.append_assoc]; exact IsSl.own B T l hn
theorem eqg3 (neg : Bool) (a b c d e f : UInt64) : AV.eqg neg [CK.i, CK.i, CK.i] (.agg [u64 a, u64 b, u64 c]) (.agg [u64 d, u64 e, u64 f]) = some (.bool (bif neg then !((a == d) && ((b == e) && (c == f))) else ((a == d) && ((b == e) && (c == f))))) := by
  have h : ∀ x y : UInt64, ((x.toNat : Int) == (y.toNat : Int)) = (x == y) := by
    intro x y
    rw [Bool.eq_iff_iff]; simp [← UInt64.toNat_inj]; omega
  simp [AV.eqg, cellsEq, cellEq, u64, h]
theorem lives_step (hs : IsSl u64 H v l) (q : UInt64) {i : Nat} (hi : i < l.length) (h3 : i < 300) (w : Win) (out : List UInt64) (hout : out.length ≤ 300) (hr : Rep w out) :
    let B := fun (w : Win) => H ++ [Blk.rw [u64 w.next, u64 w.a, u64 w.b]]
    let r := if wCheck w l[i] = 0 then ((w.up l[i]).mark l[i], out ++ [l[i]]) else (w, out)
    (aditlaw15_WindowLives_l1 [v, u64 q] H (H ++ [Blk.rw [u64 0, u64 0, u64 0]]) [.bool false, own (H.length + 1) out, i64 (i : Int)] (B w ++ ownH u64 out)).bd (roundEnd (H.length + 1)) = some (.inl ([.bool false, own (H.length + 1) r.2, i64 ((i + 1 : Nat) : Int)], B r.1 ++ ownH u64 r.2)) := by
  intro B r
  have e1 := fun x H => Check_ok w x H
  have e2 := fun x H => Has_ok w x H
  have e3 := fun H => Take_ok w l[i] H
  have e5 := fun w H => Next_ok w H
  have f1 := fun (T : Heap) x => rcheck_ok (own_at (B w) T out (n := H.length + 1) (by simp [B])) (by omega) hr.low x
  have f2 := fun (T : Heap) x => rHas_ok (own_at (B w) T out (n := H.length + 1) (by simp [B])) (by omega) hr.low x
  have g1 := hr.check
  have g2 := hr.has
  have h3' : ((i : Int) < 300) := by omega
  have ha := add1 i 300 h3 (by omega)
  unfold aditlaw15_WindowLives_l1
  generalize window_Window_Check = c1 at e1 ⊢
  generalize window_Window_Has = c2 at e2 ⊢
  generalize window_Window_Take = c3 at e3 ⊢
  generalize window_Window_Next = c4 at e5 ⊢
  generalize aditref15_Check = c5 at f1 ⊢
  generalize aditref15_Has = c6 at f2 ⊢
  simp only [Win.av] at e1 e2 e3 e5
  have f1' := f1 []
  have f2' := f2 []
  simp only [List.append_nil, B, List.append_assoc, List.cons_append, List.nil_append] at f1 f2 f1' f2'
  by_cases hc : wCheck w l[i] = 0
  · have hrr : r = ((w.up l[i]).mark l[i], out ++ [l[i]]) := by simp [r, hc]
    have hrep := hr.take hc
    have k1 := fun y H' (hy : IsSl u64 H' y (out ++ [l[i]])) => greatest_ok hy (by simp; omega) hrep.low
    have hnx : UInt64.ofNat (top (out ++ [l[i]])) = ((w.up l[i]).mark l[i]).next := by rw [← hrep.next, UInt64.ofNat_toNat]
    have hc2 : rCheck out l[i] = 0 := by rw [← g1]; exact hc
    rw [hnx] at k1
    generalize aditref15_Greatest = c7 at k1 ⊢
    rw [taken_eq hc] at e3
    rw [hrr]
    generalize ((w.up l[i]).mark l[i]) = w' at e3 k1 ⊢
    by_cases ho : out = []
    · subst ho
      simp only [own_nil, ownH_nil, List.nil_append] at f1 f2 f1' f2'
      simp [B, own, ownH, hs.len, hi, h3', hs.idx hi, hs.ldB _ hi, piece_some, put_more, lim, ha, e1, e2, e3, e5, f1', f2', f1, f2, g1, g2, hc, hc2, chk]
      rw [k1]
      · simp
      · exact .whole (by simp) (by simp) (by simp)
    · simp only [own_pos ho, ownH_pos ho, List.cons_append, List.nil_append] at f1 f2 f1' f2'
      have hl : out.length + 1 ≤ lim := by simp [lim]; omega
      simp [B, own, ownH, ho, hs.len, hi, h3', hs.idx hi, hs.ldB _ hi, piece_some, put_more, hl, ha, e1, e2, e3, e5, f1', f2', f1, f2, g1, g2, hc, hc2, chk]
      rw [k1]
      · simp
      · exact .whole (by simp) (by simp) (by simp)
  · have hrr : r = (w, out) := by simp [r, hc]
    have k1 := fun (T : Heap) => greatest_ok (own_at (B w) T out (n := H.length + 1) (by simp [B])) (by omega) hr.low
    have hnx : UInt64.ofNat (top out) = w.next := by rw [← hr.next, UInt64.ofNat_toNat]
    have hc' : (rCheck out l[i] == 0) = false := by rw [← g1]; simpa using hc
    have hc3 : (rCheck out l[i] != 0) = true := by rw [← g1]; simpa using hc
    rw [hnx] at k1
    generalize aditref15_Greatest = c7 at k1 ⊢
    rw [taken_ne hc] at e3
    rw [hrr]
    simp only [List.append_nil, B, List.append_assoc, List.cons_append, List.nil_append] at k1
    by_cases ho : out = []
    · subst ho
      simp only [own_nil, ownH_nil, List.nil_append] at f1 f2 f1' f2' k1
      simp [B, own, ownH, hs.len, hi, h3', hs.idx hi, hs.ldB _ hi, piece_some, put_more, lim, ha, e1, e2, e3, e5, f1', f2', f1, f2, g1, g2, hc, hc', hc3, k1, eqg3, chk]
    · simp only [own_pos ho, ownH_pos ho, List.cons_append, List.nil_append] at f1 f2 f1' f2' k1
      simp [B, own, ownH, ho, hs.len, hi, h3', hs.idx hi, hs.ldB _ hi, piece_some, put_more, ha, e1, e2, e3, e5, f1', f2', f1, f2, g1, g2, hc, hc', hc3, k1, eqg3, chk]
theorem lives_loop (hs : IsSl u64 H v l) (q : UInt64) : ∀ k i, i + k = min l.length 300 → ∃ vs H', loopD (fun vs H' => (aditlaw15_WindowLives_l1 [v, u64 q] H (H ++ [Blk.rw [u64 0, u64 0, u64 0]]) vs H').bd (roundEnd (H.length + 1)))
    [.bool false, own (H.length + 1) (plays l i).2, i64 (i : Int)] (H ++ [Blk.rw [u64 (plays l i).1.next, u64 (plays l i).1.a, u64 (plays l i).1.b]] ++ ownH u64 (plays l i).2) = some (.exit 0, vs, H ++ H') := by
  intro k
  induction k with
  | zero =>
    intro i hi
    refine ⟨_, [Blk.rw [u64 (plays l i).1.next, u64 (plays l i).1.a, u64 (plays l i).1.b]] ++ ownH u64 (plays l i).2, loopD_stop (r := (.exit 0, [.bool false, own (H.length + 1) (plays l i).2, i64 (i : Int)], H ++ ([Blk.rw [u64 (plays l i).1.next, u64 (plays l i).1.a, u64 (plays l i).1.b]] ++ ownH u64 (plays l i).2))) ?_⟩
    unfold aditlaw15_WindowLives_l1
    by_cases h : i < l.length
    · have h3 : ¬ ((i : Int) < 300) := by omega
      simp [hs.len, h, h3]
    · simp [hs.len, h]
  | succ k ih =>
    intro i hi
    obtain ⟨vs, H', h⟩ := ih (i + 1) (by omega)
    refine ⟨vs, H', loopD_step ?_ h⟩
    have := lives_step hs q (i := i) (by omega) (by omega) (plays l i).1 (plays l i).2 (by have := plays_len l i; omega) (plays_rep l i).1
    simp only at this
    rw [this, plays_succ l (by omega)]
theorem windowLives (hs : IsSl u64 H v l) (q : UInt64) : aditlaw15_WindowLives [v, u64 q] H = some (.bool true, H) := by
  obtain ⟨vs, H', h⟩ := lives_loop hs q (min l.length 300) 0 (by omega)
  rw [plays_zero] at h
  have ea := fun H => alive_ok H
  unfold aditlaw15_WindowLives
  generalize aditlaw15_alive = c1 at ea ⊢
  simp [own_nil, ownH_nil, W0] at h ⊢
  rw [h]
  simp [ea]
theorem once_inner {H : Heap} {y : AV} {m : List UInt64} (hs : IsSl u64 H y m) (hn : m.Nodup) (hl : m.length ≤ 300) {i : Nat} (hi : i < m.length) (b : AV) : ∀ k j, j + k = i → loopD (fun vs H' => (aditlaw15_WindowOnce_l2 [b, i64 (i : Int)] y H vs H').bd (roundEnd H.length)) [.bool false, i64 (j : Int)] H = some (.exit 2, [.bool false, i64 (i : Int)], H) := by
  intro k
  induction k with
  | zero =>
    intro j hj
    have : j = i := by omega
    subst this
    refine loopD_stop ?_
    unfold aditlaw15_WindowOnce_l2
    simp
  | succ k ih =>
    intro j hj
    refine loopD_step ?_ (ih (j + 1) (by omega))
    have hne : (m[j]'(by omega) == m[i]) = false := by
      simp only [beq_eq_false_iff_ne]
      exact List.pairwise_iff_getElem.1 hn j i (by omega) hi (by omega)
    have ha := add1 j 300 (by omega) (by omega)
    unfold aditlaw15_WindowOnce_l2
    simp [hs.idx (i := j) (by omega), hs.idx hi, hs.ld (i := j) (by omega), hs.ld hi, show j < i by omega, hne, ha]
theorem once_loop {H : Heap} {y : AV} {m : List UInt64} (hs : IsSl u64 H y m) (hn : m.Nodup) (hl : m.length ≤ 300) : ∀ k i, i + k = m.length → loopD (fun vs H' => (aditlaw15_WindowOnce_l1 y H vs H').bd (roundEnd H.length)) [.bool false, i64 (i : Int)] H = some (.exit 0, [.bool false, i64 (m.length : Int)], H) := by
  intro k
  induction k with
  | zero =>
    intro i hi
    have : i = m.length := by omega
    subst this
    refine loopD_stop ?_
    unfold aditlaw15_WindowOnce_l1
    simp [hs.len]
  | succ k ih =>
    intro i hi
    refine loopD_step ?_ (ih (i + 1) (by omega))
    have h2 := once_inner hs hn hl (i := i) (by omega) (.bool false) i 0 (by omega)
    have ha := add1 i 300 (by omega) (by omega)
    unfold aditlaw15_WindowOnce_l1
    simp at h2
    simp [hs.len, show i < m.length by omega, h2, ha]
theorem plays_first (l : List UInt64) (h : l ≠ []) (hx : ∀ h0 : 0 < l.length, l[0] < spent) : (plays l (min l.length 300)).2 ≠ [] := by
  have h0 : 0 < l.length := by cases l <;> simp_all
  have h1 : (plays l 1).2 = [l[0]] := by
    rw [plays_succ l h0, plays_zero]
    have : wCheck W0 l[0] = 0 := by
      have := Rep.zero.check l[0]
      rw [show W0 = ⟨0, 0, 0⟩ from rfl, this]
      unfold rCheck
      have := hx h0
      rw [if_neg (by simpa using this)]
      simp [rLate, top]
    simp [this]
  have : ∀ k, 1 ≤ k → k ≤ l.length → (plays l k).2 ≠ [] := by
    intro k
    induction k with
    | zero => intro h; omega
    | succ k ih =>
      intro _ hk
      rcases Nat.eq_zero_or_pos k with hz | hz
      · subst hz; rw [h1]; simp
      · rw [plays_succ l (by omega)]
        split
        · simp
        · exact ih hz (by omega)
  exact this _ (by omega) (by omega)
theorem windowOnce (hs : IsSl u64 H v l) : ∃ H', aditlaw15_WindowOnce [v] H = some (.bool true, H') := by
  have e0 := played_ok hs
  have ea := fun H => alive_ok H
  have hrep := plays_rep l (min l.length 300)
  have hlen := plays_len l (min l.length 300)
  have hfst := plays_first l
  generalize plays l (min l.length 300) = r at e0 hrep hlen hfst
  have hl := once_loop (own_at H [Blk.rw [u64 r.1.next, u64 r.1.a, u64 r.1.b]] r.2 rfl) hrep.2 (by omega) r.2.length 0 (by omega)
  simp at hl
  unfold aditlaw15_WindowOnce
  generalize aditlaw15_alive = c1 at ea ⊢
  generalize aditlaw15_played = c2 at e0 ⊢
  refine ⟨H, ?_⟩
  by_cases h0 : l = []
  · simp [e0, ea, Win.av, piece_some, put_more, hl, hs.len, h0]
  · have h0' : (((l.length : Int)) == 0) = false := by simpa using h0
    by_cases h1 : ∀ h0 : 0 < l.length, l[0] < spent
    · have h2 := hfst h0 h1
      have h3 : 0 < r.2.length := by cases hr : r.2 <;> simp_all
      have h4 := (own_at H [Blk.rw [u64 r.1.next, u64 r.1.a, u64 r.1.b]] r.2 rfl).len
      simp [e0, ea, Win.av, piece_some, put_more, hl, hs.len, h0', h4, h3]
    · have h2 := (own_at H [Blk.rw [u64 r.1.next, u64 r.1.a, u64 r.1.b]] r.2 rfl).len
      have h00 : 0 < l.length := by cases l <;> simp_all
      have h3 : l[0] ≥ 18446744073709543423 := by
        apply Decidable.byContradiction
        intro h; apply h1; intro _; exact UInt64.not_le.1 h
      have i0 := hs.idx h00
      simp at i0
      have l0 := hs.ldB (ownH u64 r.2 ++ [Blk.rw [u64 r.1.next, u64 r.1.a, u64 r.1.b]]) h00
      by_cases h5 : 0 < r.2.length
      · simp [e0, ea, Win.av, piece_some, put_more, hl, hs.len, h0', h2, h5]
      · simp [e0, ea, Win.av, piece_some, put_more, hl, hs.len, h0', h2, h5, i0, l0]
        exact h3
end
end Go.Sx.TA
