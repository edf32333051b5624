import Derived.Test.YtkhkbenihjngpaaTAL
set_option linter.all false
namespace Go.Sx.TA
open Go Go.Sx
def W0 : Win := ⟨0, 0, 0⟩
def plays (l : List UInt64) (i : Nat) : Win × List UInt64 := wPlay W0 [] (l.take i)
theorem plays_zero (l : List UInt64) : plays l 0 = (W0, []) := by simp [plays, wPlay]
theorem plays_succ (l : List UInt64) {i : Nat} (h : i < l.length) : plays l (i + 1) = if wCheck (plays l i).1 l[i] = 0 then (((plays l i).1.up l[i]).mark l[i], (plays l i).2 ++ [l[i]]) else plays l i := by
  unfold plays
  rw [List.take_add_one, List.getElem?_eq_getElem h, Option.toList_some, wPlay_push]
theorem plays_rep (l : List UInt64) (i : Nat) : Rep (plays l i).1 (plays l i).2 ∧ (plays l i).2.Nodup := wPlay_rep _ _ _ Rep.zero (by simp)
theorem wPlay_len : ∀ (l : List UInt64) (w : Win) (out : List UInt64), (wPlay w out l).2.length ≤ out.length + l.length
  | [], w, out => by simp [wPlay]
  | n :: l, w, out => by
    unfold wPlay
    split
    · have := wPlay_len l ((w.up n).mark n) (out ++ [n]); simp at this ⊢; omega
    · have := wPlay_len l w out; simp at this ⊢; omega
theorem plays_len (l : List UInt64) (i : Nat) : (plays l i).2.length ≤ i := by
  have := wPlay_len (l.take i) W0 []
  simp at this; unfold plays; omega
theorem taken_eq {w : Win} {n : UInt64} (h : wCheck w n = 0) : wTake w n = ((w.up n).mark n, 0) := by simp [wTake, h]
theorem taken_ne {w : Win} {n : UInt64} (h : wCheck w n ≠ 0) : wTake w n = (w, wCheck w n) := by simp [wTake, h]
section
variable {H : Heap} {v : AV} {l : List UInt64}
theorem played_step (hs : IsSl u64 H v l) {i : Nat} (hi : i < l.length) (h3 : i < 300) (w : Win) (out : List UInt64) (hout : out.length ≤ 300) :
    let B := fun (w : Win) => H ++ [Blk.rw [u64 0, u64 0, u64 0], .rw [u64 w.next, u64 w.a, u64 w.b]]
    let r := if wCheck w l[i] = 0 then ((w.up l[i]).mark l[i], out ++ [l[i]]) else (w, out)
    (aditlaw15_played_l1 [v] H (H ++ [Blk.rw [u64 0, u64 0, u64 0], .rw [u64 0, u64 0, u64 0]]) [own (H.length + 2) out, i64 (i : Int)] (B w ++ ownH u64 out)).bd (roundEnd (H.length + 2)) = some (.inl ([own (H.length + 2) r.2, i64 ((i + 1 : Nat) : Int)], B r.1 ++ ownH u64 r.2)) := by
  intro B r
  have ht := fun H => Take_ok w l[i] H
  unfold aditlaw15_played_l1
  generalize window_Window_Take = c1 at ht ⊢
  simp only [Win.av] at ht
  have h3' : ((i : Int) < 300) := by omega
  have ha := add1 i 300 h3 (by omega)
  by_cases hc : wCheck w l[i] = 0
  · have hr : r = ((w.up l[i]).mark l[i], out ++ [l[i]]) := by simp [r, hc]
    rw [taken_eq hc] at ht
    rw [hr]
    by_cases ho : out = []
    · subst ho
      simp [B, own, ownH, hs.len, hi, h3', hs.idx hi, hs.ldB _ hi, ht, piece_some, put_more, lim, ha]
    · have hl : out.length + 1 ≤ lim := by simp [lim]; omega
      simp [B, own, ownH, ho, hs.len, hi, h3', hs.idx hi, hs.ldB _ hi, ht, piece_some, put_more, hl, ha]
  · have hr : r = (w, out) := by simp [r, hc]
    rw [taken_ne hc] at ht
    have hc' : (wCheck w l[i] == 0) = false := by simpa using hc
    rw [hr]
    by_cases ho : out = []
    · subst ho
      simp [B, own, ownH, hs.len, hi, h3', hs.idx hi, hs.ldB _ hi, ht, piece_some, put_more, lim, ha, hc']
    · simp [B, own, ownH, ho, hs.len, hi, h3', hs.idx hi, hs.ldB _ hi, ht, piece_some, put_more, ha, hc']
theorem played_loop (hs : IsSl u64 H v l) : ∀ k i, i + k = min l.length 300 → loopD (fun vs H' => (aditlaw15_played_l1 [v] H (H ++ [Blk.rw [u64 0, u64 0, u64 0], .rw [u64 0, u64 0, u64 0]]) vs H').bd (roundEnd (H.length + 2)))
    [own (H.length + 2) (plays l i).2, i64 (i : Int)] (H ++ [Blk.rw [u64 0, u64 0, u64 0], .rw [u64 (plays l i).1.next, u64 (plays l i).1.a, u64 (plays l i).1.b]] ++ ownH u64 (plays l i).2) =
    some (.exit 0, [own (H.length + 2) (plays l (min l.length 300)).2, i64 (min l.length 300 : Nat)], H ++ [Blk.rw [u64 0, u64 0, u64 0], .rw [u64 (plays l (min l.length 300)).1.next, u64 (plays l (min l.length 300)).1.a, u64 (plays l (min l.length 300)).1.b]] ++ ownH u64 (plays l (min l.length 300)).2) := by
  intro k
  induction k with
  | zero =>
    intro i hi
    have : i = min l.length 300 := by omega
    rw [← this]
    refine loopD_stop ?_
    unfold aditlaw15_played_l1
    by_cases h : i < l.length
    · have h3 : ¬ ((i : Int) < 300) := by omega
      simp [hs.len, h, h3]
    · simp [hs.len, h]
  | succ k ih =>
    intro i hi
    refine loopD_step ?_ (ih (i + 1) (by omega))
    have := played_step hs (i := i) (by omega) (by omega) (plays l i).1 (plays l i).2 (by have := plays_len l i; omega)
    simp only at this
    rw [this, plays_succ l (by omega)]
theorem played_ok (hs : IsSl u64 H v l) : aditlaw15_played [v] H = some (.tup [(plays l (min l.length 300)).1.av, own H.length (plays l (min l.length 300)).2], H ++ ownH u64 (plays l (min l.length 300)).2) := by
  have h := played_loop hs (min l.length 300) 0 (by omega)
  rw [plays_zero] at h
  generalize plays l (min l.length 300) = r at h ⊢
  unfold aditlaw15_played
  simp [own_nil, ownH_nil, W0] at h ⊢
  rw [h]
  by_cases ho : r.2 = []
  · simp [ho, own, ownH, piece_some, put_more, Win.av]
  · simp [ho, own, ownH, piece_some, put_more, Win.av]
end
end Go.Sx.TA
