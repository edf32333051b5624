import Derived.Test.YtkhkbenihjngpaaTAN
set_option linter.all false
namespace Go.Sx.TA
open Go Go.Sx
section
variable {H : Heap} {v : AV} {l : List UInt64}
theorem takes_loop {H : Heap} {y z : AV} {m : List UInt64} (hs : IsSl u64 H y m) (hl : m.length ≤ 300) (n : UInt64) : ∀ k i, i + k = m.length → loopD (fun vs H' => (aditlaw15_WindowTakes_l1 y [z, u64 n] H vs H').bd (roundEnd H.length)) [.bool ((m.take i).contains n), i64 (i : Int)] H = some (.exit 0, [.bool (m.contains n), i64 (m.length : Int)], H) := by
  intro k
  induction k with
  | zero =>
    intro i hi
    have : i = m.length := by omega
    subst this
    refine loopD_stop ?_
    unfold aditlaw15_WindowTakes_l1
    simp [hs.len]
  | succ k ih =>
    intro i hi
    refine loopD_step ?_ (ih (i + 1) (by omega))
    have ha := add1 i 300 (by omega) (by omega)
    have hi' : i < m.length := by omega
    have h1 : (m.take (i + 1)).contains n = ((m.take i).contains n || m[i] == n) := by
      rw [List.take_add_one, List.getElem?_eq_getElem hi', Option.toList_some, Bool.eq_iff_iff]
      simp only [List.contains_iff_mem, List.mem_append, List.mem_singleton, Bool.or_eq_true, beq_iff_eq]
      exact or_congr_right eq_comm
    rw [h1]
    unfold aditlaw15_WindowTakes_l1
    cases hb : (m.take i).contains n
    · simp [hs.len, hi', hs.idx hi', hs.ld hi', ha]
    · simp [hs.len, hi', ha]
theorem windowTakes (hs : IsSl u64 H v l) (n : UInt64) : ∃ H', aditlaw15_WindowTakes [v, u64 n] H = some (.bool true, H') := by
  have e0 := played_ok hs
  have ea := fun H => alive_ok H
  have hrep := (plays_rep l (min l.length 300)).1
  have hlen := plays_len l (min l.length 300)
  generalize plays l (min l.length 300) = r at e0 hrep hlen
  obtain ⟨w, out⟩ := r
  simp only at e0 hrep hlen
  have hl := takes_loop (z := v) (own_at H [Blk.rw [u64 w.next, u64 w.a, u64 w.b]] out rfl) (by omega) n out.length 0 (by omega)
  simp at hl
  have e1 := fun H => Take_ok w n H
  have e2 := fun w H => Next_ok w H
  have e3 := fun w H => Has_ok w n H
  have e4 := fun w H => Check_ok w n H
  have hc := hrep.check n
  unfold aditlaw15_WindowTakes
  refine ⟨H, ?_⟩
  generalize aditlaw15_alive = c1 at ea ⊢
  generalize aditlaw15_played = c2 at e0 ⊢
  generalize window_Window_Take = c3 at e1 ⊢
  generalize window_Window_Next = c4 at e2 ⊢
  generalize window_Window_Has = c5 at e3 ⊢
  generalize window_Window_Check = c6 at e4 ⊢
  simp only [Win.av] at e0 e1 e2 e3 e4
  have hnext := hrep.next
  have hsp : (18446744073709543423 : UInt64) = spent := rfl
  rw [hsp]
  have hnear : ∀ (h1 : ¬ n ≥ w.next), decide (w.next - n ≤ 128) = !rLate out n := by
    intro h1
    have h1' : ¬ (w.next.toNat ≤ n.toNat) := fun h => h1 (UInt64.le_iff_toNat_le.2 h)
    rw [Bool.eq_iff_iff]
    simp only [decide_eq_true_eq, rLate, Bool.not_eq_true', decide_eq_false_iff_not, UInt64.le_iff_toNat_le]
    rw [UInt64.toNat_sub_of_le _ _ (by rw [UInt64.le_iff_toNat_le]; omega), hnext]
    show _ ≤ 128 ↔ _
    omega
  have hfar : n ≥ w.next → rLate out n = false := by
    intro h1
    have h1' := UInt64.le_iff_toNat_le.1 h1
    simp only [rLate, decide_eq_false_iff_not]
    omega
  by_cases h0 : n ≥ spent
  · have h81 : wCheck w n = 81 := by rw [hc]; unfold rCheck; rw [if_pos h0]
    rw [taken_ne (by rw [h81]; decide), h81] at e1
    by_cases h1 : n ≥ w.next
    · simp [e0, ea, piece_some, put_more, hl, e1, e2, h1, h0]
    · simp [e0, ea, piece_some, put_more, hl, e1, e2, h1, h0]
  · have hcc : wCheck w n = if out.contains n || rLate out n then 80 else 0 := by rw [hc]; unfold rCheck; rw [if_neg h0]
    cases hlate : rLate out n
    · cases hcon : out.contains n
      · have hcon' : ¬ n ∈ out := by simpa using hcon
        have hc0 : wCheck w n = 0 := by rw [hcc, hlate, hcon]; rfl
        have hrep2 := hrep.take hc0
        rw [taken_eq hc0] at e1
        have k1 : wHas ((w.up n).mark n) n = true := by
          rw [hrep2.has]
          simp only [rHas, rLate, Bool.and_eq_true, List.contains_iff_mem, Bool.not_eq_true', decide_eq_false_iff_not, top_push]
          simp only [rLate, decide_eq_false_iff_not] at hlate
          exact ⟨by simp, by omega⟩
        have k2 : wCheck ((w.up n).mark n) n = 80 := by
          rw [hrep2.check]; unfold rCheck; rw [if_neg h0]; simp
        have k3 : n < ((w.up n).mark n).next := by
          rw [UInt64.lt_iff_toNat_lt, hrep2.next]; exact top_gt (by simp)
        generalize (w.up n).mark n = x at e1 k1 k2 k3
        by_cases h1 : n ≥ w.next
        · simp [e0, ea, piece_some, put_more, hl, e1, e2, e3, e4, h1, h0, hcon', k1, k2, k3]
        · have hn := hnear h1
          rw [hlate] at hn
          simp [e0, ea, piece_some, put_more, hl, e1, e2, e3, e4, h1, h0, hn, hcon', k1, k2, k3]
      · have hcon' : n ∈ out := by simpa using hcon
        have h80 : wCheck w n = 80 := by rw [hcc, hlate, hcon]; rfl
        rw [taken_ne (by rw [h80]; decide), h80] at e1
        by_cases h1 : n ≥ w.next
        · simp [e0, ea, piece_some, put_more, hl, e1, e2, h1, h0, hcon']
        · have hn := hnear h1
          rw [hlate] at hn
          simp [e0, ea, piece_some, put_more, hl, e1, e2, h1, h0, hn, hcon']
    · have h80 : wCheck w n = 80 := by rw [hcc, hlate]; simp
      rw [taken_ne (by rw [h80]; decide), h80] at e1
      have h1 : ¬ n ≥ w.next := fun h => by rw [hfar h] at hlate; cases hlate
      have hn := hnear h1
      rw [hlate] at hn
      simp [e0, ea, piece_some, put_more, hl, e1, e2, h1, h0, hn]
theorem windowRefuses (hs : IsSl u64 H v l) : ∃ H', aditlaw15_WindowRefuses [v] H = some (.bool true, H') := by
  have e0 := played_ok hs
  have ea := fun H => alive_ok H
  have hlen := plays_len l (min l.length 300)
  have hk0 : min l.length 300 ≤ 300 := by omega
  generalize min l.length 300 = k0 at e0 hlen hk0
  have hag : plays (plays l k0).2 (min (plays l k0).2.length 300) = plays l k0 := by
    obtain ⟨k, h1, h2⟩ := wPlay_again (l.take k0) W0 []
    have h3 := h2 []
    rw [show wPlay W0 [] (l.take k0) = plays l k0 from rfl] at h1 h3
    rw [Nat.min_eq_left (by omega)]
    rw [show plays (plays l k0).2 (plays l k0).2.length = wPlay W0 [] (plays l k0).2 by simp [plays]]
    rw [List.nil_append] at h1 h3
    rw [h1, h3, ← h1]
  generalize plays l k0 = r at e0 hlen hag
  obtain ⟨w, out⟩ := r
  simp only at e0 hlen hag
  have e1 := played_ok (own_at H [Blk.rw [u64 w.next, u64 w.a, u64 w.b]] out rfl)
  rw [hag] at e1
  have h4 := (own_at H [Blk.rw [u64 w.next, u64 w.a, u64 w.b]] out rfl).len
  have h5 := (IsSl.own (enc := u64) (H ++ (ownH u64 out ++ [Blk.rw [u64 w.next, u64 w.a, u64 w.b]])) [] out rfl).len
  simp only [Win.av] at e0 e1
  unfold aditlaw15_WindowRefuses
  refine ⟨H, ?_⟩
  generalize aditlaw15_alive = c1 at ea ⊢
  generalize aditlaw15_played = c2 at e0 e1 ⊢
  simp at e1 h4 h5
  simp [e0, ea, e1, piece_some, put_more, eqg3, h4, h5]
theorem near_plays {m : List UInt64} {base : Nat} (hb : base + 128 ≤ 9223372036854775808) (hm : ∀ x ∈ m, base ≤ x.toNat ∧ x.toNat < base + 128) : ∀ i, i ≤ m.length → ∀ x, x ∈ (plays m i).2 ↔ x ∈ m.take i := by
  intro i
  induction i with
  | zero => intro _ x; rw [plays_zero]; simp
  | succ i ih =>
    intro hi x
    have hi' : i < m.length := by omega
    have ih := ih (by omega)
    have hr := (plays_rep m i).1
    rw [plays_succ m hi', List.take_add_one, List.getElem?_eq_getElem hi', Option.toList_some, List.mem_append, List.mem_singleton]
    split
    · rw [List.mem_append, List.mem_singleton, ih]
    · rename_i hc
      have hin : m[i] ∈ (plays m i).2 := by
        rw [hr.check] at hc
        unfold rCheck at hc
        have h1 := hm m[i] (List.getElem_mem hi')
        rw [if_neg (by rw [ge_iff_le, UInt64.le_iff_toNat_le]; have : spent.toNat = 18446744073709543423 := rfl; omega)] at hc
        have hlate : rLate (plays m i).2 m[i] = false := by
          unfold rLate
          rw [decide_eq_false_iff_not]
          rcases top_is (plays m i).2 with h | ⟨y, hy, h⟩
          · omega
          · have := hm y (List.mem_of_mem_take ((ih y).1 hy)); omega
        rw [hlate] at hc
        simpa using hc
      rw [ih]
      constructor
      · exact .inl
      · rintro (h | h)
        · exact h
        · rw [h]; exact (ih _).1 hin
theorem order_same {a b : List UInt64} {base : Nat} (hb : base + 128 ≤ 9223372036854775808) (ha : ∀ x ∈ a, base ≤ x.toNat ∧ x.toNat < base + 128) (hs : ∀ x, x ∈ a ↔ x ∈ b) : (plays a a.length).1 = (plays b b.length).1 := by
  have h1 := near_plays hb ha a.length (Nat.le_refl _)
  have h2 := near_plays hb (fun x hx => ha x ((hs x).2 hx)) b.length (Nat.le_refl _)
  refine (plays_rep a _).1.unique ((plays_rep b _).1.set fun x => ?_)
  rw [h1, h2, List.take_length, List.take_length]
  exact (hs x).symm
theorem order_next {a : List UInt64} {base : Nat} (hb : base + 128 ≤ 9223372036854775808) (ha : ∀ x ∈ a, base ≤ x.toNat ∧ x.toNat < base + 128) (h0 : a ≠ []) : base < (plays a a.length).1.next.toNat := by
  have h1 := near_plays hb ha a.length (Nat.le_refl _)
  rw [(plays_rep a _).1.next]
  obtain ⟨x, hx⟩ := List.exists_mem_of_ne_nil a h0
  have := top_gt ((h1 x).2 (by rw [List.take_length]; exact hx))
  have := ha x hx
  omega
def nearA (base : UInt64) (l : List UInt8) : List UInt64 := l.map fun x => base + UInt64.ofNat (x &&& 127).toNat
def nearB (base : UInt64) (l : List UInt8) (c : Nat) : List UInt64 := (List.range l.length).map fun i => base + UInt64.ofNat ((l.getD ((i + c) % l.length) 0) &&& 127).toNat
theorem small7 (x : UInt8) : (x &&& 127).toNat < 128 := by
  rw [UInt8.toNat_and]
  exact Nat.lt_of_le_of_lt Nat.and_le_right (by decide)
theorem near_num (base : UInt64) (hb : base ≤ 4611686018427387904) (x : UInt8) : (base + UInt64.ofNat (x &&& 127).toNat).toNat = base.toNat + (x &&& 127).toNat := by
  have h1 := small7 x
  have h2 := UInt64.le_iff_toNat_le.1 hb
  have h3 : (4611686018427387904 : UInt64).toNat = 4611686018427387904 := rfl
  rw [UInt64.toNat_add, UInt64.toNat_ofNat']
  omega
theorem nearA_in (base : UInt64) (hb : base ≤ 4611686018427387904) (l : List UInt8) : ∀ x ∈ nearA base l, base.toNat ≤ x.toNat ∧ x.toNat < base.toNat + 128 := by
  intro x hx
  unfold nearA at hx
  rw [List.mem_map] at hx
  obtain ⟨y, _, rfl⟩ := hx
  have := small7 y
  rw [near_num base hb]
  omega
theorem near_same (base : UInt64) (l : List UInt8) (c : Nat) : ∀ x, x ∈ nearA base l ↔ x ∈ nearB base l c := by
  intro x
  unfold nearA nearB
  simp only [List.mem_map, List.mem_range]
  constructor
  · rintro ⟨y, hy, rfl⟩
    obtain ⟨j, hj, rfl⟩ := List.mem_iff_getElem.1 hy
    have hc := Nat.mod_lt c (show 0 < l.length by omega)
    have hd := Nat.div_add_mod c l.length
    refine ⟨(j + (l.length - c % l.length)) % l.length, Nat.mod_lt _ (by omega), ?_⟩
    have : ((j + (l.length - c % l.length)) % l.length + c) % l.length = j := by
      rw [Nat.mod_add_mod]
      have : j + (l.length - c % l.length) + c = j + l.length * (1 + c / l.length) := by
        rw [Nat.mul_add, Nat.mul_one]; omega
      rw [this, Nat.add_mul_mod_self_left, Nat.mod_eq_of_lt hj]
    rw [this, List.getD_eq_getElem?_getD, List.getElem?_eq_getElem hj]; rfl
  · rintro ⟨i, hi, rfl⟩
    have := Nat.mod_lt (i + c) (show 0 < l.length by omega)
    exact ⟨_, List.getElem_mem this, by rw [List.getD_eq_getElem?_getD, List.getElem?_eq_getElem this]; rfl⟩
end
end Go.Sx.TA
