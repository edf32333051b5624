import Derived.Test.YtkhkbenihjngpaaBaseC
import Derived.Test.YtkhkbenihjngpaaShAditlaw15
set_option linter.all false
namespace Go.Sx.TA
open Go Go.Sx
structure Win where
  next : UInt64
  a : UInt64
  b : UInt64
  deriving DecidableEq
def Win.av (w : Win) : AV := .agg [u64 w.next, u64 w.a, u64 w.b]
def Win.at (w : Win) (n : UInt64) : UInt64 := w.next - 1 - n
def Win.word (w : Win) (k : Nat) : UInt64 := if k = 0 then w.a else w.b
def wHas (w : Win) (n : UInt64) : Bool :=
  if n ≥ w.next ∨ w.at n ≥ 128 then false
  else ((w.word (w.at n / 64).toNat) >>> (w.at n % 64)) &&& 1 == 1
theorem word_ok (w : Win) (k : Nat) (h : k < 2) : [u64 w.next, u64 w.a, u64 w.b][1 + k]? = some (u64 (w.word k)) := by
  unfold Win.word
  have : k = 0 ∨ k = 1 := by omega
  rcases this with rfl | rfl <;> rfl
theorem at_div (x : UInt64) (h : ¬ x ≥ 128) : (x / 64).toNat < 2 := by
  rw [UInt64.toNat_div]
  have : x.toNat < 128 := by
    simp only [ge_iff_le, UInt64.le_iff_toNat_le] at h
    simpa using h
  simp; omega
theorem mod64 (x : UInt64) : (x % 64).toNat < 64 := by
  rw [UInt64.toNat_mod]; exact Nat.mod_lt _ (by decide)
theorem shr_ok (x y : UInt64) (h : y.toNat < 64) : AV.bin .shr (u64 x) (u64 y) = some (u64 (x >>> y)) := by
  have := bin_shr_u64 x .u64 y.toNat h
  rwa [UInt64.ofNat_toNat] at this
theorem shl_ok (x y : UInt64) (h : y.toNat < 64) : AV.bin .shl (u64 x) (u64 y) = some (u64 (x <<< y)) := by
  have := bin_shl_u64 x .u64 y.toNat h
  rwa [UInt64.ofNat_toNat] at this
theorem Has_ok (w : Win) (n : UInt64) (H : Heap) : window_Window_Has [w.av, u64 n] H = some (.bool (wHas w n), H) := by
  unfold window_Window_Has
  simp only [Win.av, List.getD_cons_zero, List.getD_cons_succ, vcells_agg, Option.bd_some, fldP_ptr, ld_hi, Nat.le_refl, Nat.sub_self, ld_hit, piece_none, Nat.zero_add, List.getElem?_cons_zero, bin_geq_u64, asB_bool]
  by_cases h1 : n ≥ w.next
  · simp [h1, wHas, retract_app]
  · by_cases h2 : w.at n ≥ 128
    · simp only [Win.at] at h2
      simp [h1, h2, wHas, Win.at, retract_app]
    · have h3 := at_div _ h2
      have h4 := mod64 (w.at n)
      simp only [Win.at] at h2 h3 h4
      have h5 := h3
      rw [UInt64.toNat_div, show (64 : UInt64).toNat = 64 from rfl] at h5
      simp [h1, h2, bin_quo_u64, bin_rem_u64, idxP_u64 h3, word_ok w _ h5, shr_ok _ _ h4, wHas, Win.at, retract_app]
def spent : UInt64 := 18446744073709543423
def wCheck (w : Win) (n : UInt64) : Int :=
  if n ≥ spent then 81 else if wHas w n = true ∨ (n < w.next ∧ w.at n ≥ 128) then 80 else 0
theorem Check_ok (w : Win) (n : UInt64) (H : Heap) : window_Window_Check [w.av, u64 n] H = some (i64 (wCheck w n), H) := by
  have hh := Has_ok w n
  unfold window_Window_Check
  simp only [Win.av] at hh ⊢
  simp only [List.getD_cons_zero, List.getD_cons_succ, vcells_agg, Option.bd_some, fldP_ptr, ld_hi, Nat.le_refl, Nat.sub_self, ld_hit, piece_none, Nat.zero_add, List.getElem?_cons_zero, bin_geq_u64, asB_bool]
  by_cases h1 : n ≥ spent
  · have h1' := h1
    simp only [spent] at h1'
    simp [h1, h1', wCheck, retract_app]
  · have h1' := h1
    simp only [spent] at h1'
    simp only [h1', decide_false, cond_ff, piece_some, List.length_cons, List.length_nil, Nat.zero_add, Nat.le_refl, if_true, List.drop_zero, Option.bd_some]
    rw [show [u64 w.next, u64 w.a, u64 w.b].take 3 = [u64 w.next, u64 w.a, u64 w.b] from rfl, hh]
    cases h2 : wHas w n
    · by_cases h3 : n < w.next
      · by_cases h4 : w.at n ≥ 128
        · simp only [Win.at] at h4
          simp [h1, h2, h3, h4, wCheck, Win.at, retract_app]
        · simp only [Win.at] at h4
          simp [h1, h2, h3, h4, wCheck, Win.at, retract_app]
      · simp [h1, h2, h3, wCheck, Win.at, retract_app]
    · simp [h1, h2, wCheck, retract_app]
theorem Next_ok (w : Win) (H : Heap) : window_Window_Next [w.av] H = some (u64 w.next, H) := by
  unfold window_Window_Next
  simp [Win.av, retract_app]
def wMove (w : Win) (k : UInt64) : Win :=
  if (k / 64).toNat = 0 then ⟨w.next, w.a <<< (k % 64), if k % 64 > 0 then w.b <<< (k % 64) ||| w.a >>> (64 - k % 64) else w.b <<< (k % 64)⟩
  else ⟨w.next, 0, w.a <<< (k % 64)⟩
theorem sub_small (x : UInt64) (h : (x).toNat < 128) : (x / 64).toNat = 0 ∨ (x / 64).toNat = 1 := by
  rw [UInt64.toNat_div, show (64 : UInt64).toNat = 64 from rfl]; omega
theorem conv_i64_u64 (x : UInt64) (h : x.toNat < 9223372036854775808) : AV.conv .i64 (u64 x) = some (i64 (x.toNat : Int)) := by
  simp only [AV.conv, u64]
  rw [i64_wrap (by omega) (by omega)]
theorem move0 (w : Win) (k : UInt64) (H : Heap) (h : (k / 64).toNat = 0) : window_Window_move [w.av, u64 k] H = some ((wMove w k).av, H) := by
  have h4 := mod64 k
  unfold window_Window_move
  simp only [Win.av, List.getD_cons_zero, List.getD_cons_succ, vcells_agg, Option.bd_some, bin_quo_u64 _ _ (show (64 : UInt64) ≠ 0 by decide), bin_rem_u64 _ _ (show (64 : UInt64) ≠ 0 by decide), conv_i64_u64 (k / 64) (by omega), h, List.append_assoc, List.cons_append, List.nil_append, List.length_append, List.length_cons, List.length_nil, Nat.zero_add]
  rw [loopD_eq (vs' := [i64 1]) (H' := H ++ [.rw [u64 w.next, u64 w.a, u64 w.b], .rw [u64 0, u64 0, u64 0], .rw [u64 (w.a <<< (k % 64)), u64 0]])]
  rotate_left
  · unfold window_Window_move_l1
    simp [shl_ok _ _ h4, bin_sub_i64, bin_add_i64, retract_len, Nat.add_assoc]
  by_cases hr : k % 64 > 0
  · have h6 : (64 - k % 64).toNat < 64 := by
      rw [UInt64.toNat_sub_of_le _ _ (by rw [UInt64.le_iff_toNat_le]; show (k % 64).toNat ≤ 64; omega)]
      have : 0 < (k % 64).toNat := by simpa [UInt64.lt_iff_toNat_lt] using hr
      show 64 - (k % 64).toNat < 64
      omega
    rw [loopD_eq (vs' := [i64 2]) (H' := H ++ [.rw [u64 w.next, u64 w.a, u64 w.b], .rw [u64 0, u64 0, u64 0], .rw [u64 (w.a <<< (k % 64)), u64 (w.b <<< (k % 64) ||| w.a >>> (64 - k % 64))]])]
    rotate_left
    · unfold window_Window_move_l1
      simp [shl_ok _ _ h4, shr_ok _ _ h6, bin_sub_i64, bin_add_i64, retract_len, Nat.add_assoc, hr]
    rw [loopD_stop (r := (.exit 0, [i64 2], H ++ [.rw [u64 w.next, u64 w.a, u64 w.b], .rw [u64 0, u64 0, u64 0], .rw [u64 (w.a <<< (k % 64)), u64 (w.b <<< (k % 64) ||| w.a >>> (64 - k % 64))]]))]
    rotate_left
    · unfold window_Window_move_l1
      simp
    simp [Nat.add_assoc, piece_some, put_more, retract_app, wMove, h, hr]
  · rw [loopD_eq (vs' := [i64 2]) (H' := H ++ [.rw [u64 w.next, u64 w.a, u64 w.b], .rw [u64 0, u64 0, u64 0], .rw [u64 (w.a <<< (k % 64)), u64 (w.b <<< (k % 64))]])]
    rotate_left
    · unfold window_Window_move_l1
      simp [shl_ok _ _ h4, bin_sub_i64, bin_add_i64, retract_len, Nat.add_assoc, hr]
    rw [loopD_stop (r := (.exit 0, [i64 2], H ++ [.rw [u64 w.next, u64 w.a, u64 w.b], .rw [u64 0, u64 0, u64 0], .rw [u64 (w.a <<< (k % 64)), u64 (w.b <<< (k % 64))]]))]
    rotate_left
    · unfold window_Window_move_l1
      simp
    simp [Nat.add_assoc, piece_some, put_more, retract_app, wMove, h, hr]
theorem move1 (w : Win) (k : UInt64) (H : Heap) (h : (k / 64).toNat = 1) : window_Window_move [w.av, u64 k] H = some ((wMove w k).av, H) := by
  have h4 := mod64 k
  unfold window_Window_move
  simp only [Win.av, List.getD_cons_zero, List.getD_cons_succ, vcells_agg, Option.bd_some, bin_quo_u64 _ _ (show (64 : UInt64) ≠ 0 by decide), bin_rem_u64 _ _ (show (64 : UInt64) ≠ 0 by decide), conv_i64_u64 (k / 64) (by omega), h, List.append_assoc, List.cons_append, List.nil_append, List.length_append, List.length_cons, List.length_nil, Nat.zero_add]
  rw [loopD_eq (vs' := [i64 1]) (H' := H ++ [.rw [u64 w.next, u64 w.a, u64 w.b], .rw [u64 0, u64 0, u64 0], .rw [u64 0, u64 0]])]
  rotate_left
  · unfold window_Window_move_l1
    simp [shl_ok _ _ h4, bin_sub_i64, bin_add_i64, retract_len, Nat.add_assoc]
  rw [loopD_eq (vs' := [i64 2]) (H' := H ++ [.rw [u64 w.next, u64 w.a, u64 w.b], .rw [u64 0, u64 0, u64 0], .rw [u64 0, u64 (w.a <<< (k % 64))]])]
  rotate_left
  · unfold window_Window_move_l1
    simp [shl_ok _ _ h4, bin_sub_i64, bin_add_i64, retract_len, Nat.add_assoc]
  rw [loopD_stop (r := (.exit 0, [i64 2], H ++ [.rw [u64 w.next, u64 w.a, u64 w.b], .rw [u64 0, u64 0, u64 0], .rw [u64 0, u64 (w.a <<< (k % 64))]]))]
  rotate_left
  · unfold window_Window_move_l1
    simp
  simp [Nat.add_assoc, piece_some, put_more, retract_app, wMove, h]
theorem move_ok (w : Win) (k : UInt64) (H : Heap) (hk : k.toNat < 128) : window_Window_move [w.av, u64 k] H = some ((wMove w k).av, H) := by
  rcases sub_small k hk with h | h
  · exact move0 w k H h
  · exact move1 w k H h
def Win.mark (w : Win) (n : UInt64) : Win :=
  if (w.at n / 64).toNat = 0 then { w with a := w.a ||| (1 <<< (w.at n % 64)) } else { w with b := w.b ||| (1 <<< (w.at n % 64)) }
def Win.up (w : Win) (n : UInt64) : Win :=
  if n ≥ w.next then (if n + 1 - w.next < 128 then { wMove w (n + 1 - w.next) with next := n + 1 } else ⟨n + 1, 0, 0⟩) else w
def wTake (w : Win) (n : UInt64) : Win × Int :=
  if wCheck w n ≠ 0 then (w, wCheck w n) else ((w.up n).mark n, 0)
theorem mark_ok (w : Win) (n : UInt64) (h : ¬ w.at n ≥ 128) : ∀ (c : List AV), c = [u64 w.next, u64 w.a, u64 w.b] → c.set (1 + (w.at n / 64).toNat) (u64 (w.word (w.at n / 64).toNat ||| (1 <<< (w.at n % 64)))) = [u64 (w.mark n).next, u64 (w.mark n).a, u64 (w.mark n).b] := by
  intro c hc
  subst hc
  have h3 := at_div _ h
  have : (w.at n / 64).toNat = 0 ∨ (w.at n / 64).toNat = 1 := by omega
  unfold Win.mark Win.word
  rcases this with h | h <;> rw [h] <;> simp
theorem up_at (w : Win) (n : UInt64) (h : wCheck w n = 0) : ¬ (w.up n).at n ≥ 128 := by
  unfold Win.up
  by_cases h1 : n ≥ w.next
  · have : ∀ v : Win, v.next = n + 1 → ¬ v.at n ≥ 128 := by
      intro v hv
      unfold Win.at
      rw [hv, show n + 1 - 1 - n = 0 by simp [UInt64.add_sub_cancel]]
      decide
    rw [if_pos h1]
    split
    · exact this _ rfl
    · exact this _ rfl
  · rw [if_neg h1]
    intro h2
    unfold wCheck at h
    split at h
    · cases h
    · split at h
      · cases h
      · rename_i h3
        exact h3 (.inr ⟨by simpa [UInt64.lt_iff_toNat_lt, UInt64.le_iff_toNat_le] using h1, h2⟩)
theorem take3 (a b c : AV) : [a, b, c].take 3 = [a, b, c] := rfl
theorem Take_ok (w : Win) (n : UInt64) (H : Heap) : window_Window_Take [w.av, u64 n] H = some (.tup [(wTake w n).1.av, i64 (wTake w n).2], H) := by
  have hc := Check_ok w n
  unfold window_Window_Take
  simp only [Win.av] at hc ⊢
  simp only [List.getD_cons_zero, List.getD_cons_succ, vcells_agg, Option.bd_some, List.append_assoc, List.cons_append, List.nil_append, ld_hi, Nat.le_refl, Nat.sub_self, ld_hit, piece_some, List.length_cons, List.length_nil, Nat.zero_add, if_true, List.drop_zero, take3, hc]
  by_cases h : wCheck w n = 0
  · have hat := up_at w n h
    have hf : wTake w n = ((w.up n).mark n, 0) := by simp [wTake, h]
    rw [hf]
    simp only [h, bin_neq_i64, Option.bd_some, asB_bool, bne_self_eq_false, cond_ff, andThen_norm, ld_hi, Nat.le_refl, Nat.sub_self, ld_hit, piece_none, Nat.add_zero, fldP_ptr, List.getElem?_cons_zero, bin_geq_u64]
    by_cases h1 : n ≥ w.next
    · have hz : n + 1 - 1 - n = 0 := by simp [UInt64.add_sub_cancel]
      have hmark : ∀ v : Win, v.next = n + 1 → v.mark n = { v with a := v.a ||| 1 } := by
        intro v hv
        unfold Win.mark Win.at
        rw [hv, hz]
        rfl
      have hs : AV.bin .shl (u64 1) (u64 0) = some (u64 1) := shl_ok 1 0 (by decide)
      have hq : (0 : UInt64) / 64 = 0 := rfl
      have hr : (0 : UInt64) % 64 = 0 := rfl
      by_cases h2 : n + 1 - w.next < 128
      · have hm := fun H => move_ok w (n + 1 - w.next) H (by simpa [UInt64.lt_iff_toNat_lt] using h2)
        have hu : w.up n = { wMove w (n + 1 - w.next) with next := n + 1 } := by simp [Win.up, h1, h2]
        rw [hu, hmark _ rfl]
        simp only [Win.av] at hm
        simp [-UInt64.toNat_div, -UInt64.toNat_mod, h1, h2, hm, hz, hs, hq, hr, bin_quo_u64, bin_rem_u64, idxP_u64, piece_some, put_more, retract_app]
        done
      · have hu : w.up n = ⟨n + 1, 0, 0⟩ := by simp [Win.up, h1, h2]
        rw [hu, hmark _ rfl]
        simp [-UInt64.toNat_div, -UInt64.toNat_mod, h1, h2, hz, hs, hq, hr, bin_quo_u64, bin_rem_u64, idxP_u64, piece_some, put_more, retract_app]
        done
    · have hu : w.up n = w := by simp [Win.up, h1]
      rw [hu] at hat ⊢
      have h3 := at_div _ hat
      have h4 := mod64 (w.at n)
      have h5 := mark_ok w n hat _ rfl
      have h6 := word_ok w _ h3
      have h7 : 1 + (w.at n / 64).toNat ≤ 2 := by omega
      simp only [Win.at] at hat h3 h4 h5 h6 h7
      simp [-UInt64.toNat_div, -UInt64.toNat_mod, h1, bin_quo_u64, bin_rem_u64, idxP_u64 h3, h6, h7, shl_ok _ _ h4, h5, piece_some, put_more, retract_app]
      done
  · have hb : (wCheck w n != 0) = true := by simp [h]
    simp [h, hb, piece_some, put_more, wTake, retract_app]
end Go.Sx.TA
