import Derived.Test.YtkhkbenihjngpaaCE
import Derived.Test.YtkhkbenihjngpaaShAditref02
set_option linter.all false
namespace Go.Sx
open Go
theorem sets8 {α : Type} (s : List α) {a b c d : Nat} (hab : a ≠ b) (hac : a ≠ c) (had : a ≠ d) (hbc : b ≠ c) (hbd : b ≠ d) (hcd : c ≠ d) (w1 z1 y1 x1 w2 z2 y2 x2 : α) :
    (((((((s.set a w1).set d z1).set c y1).set b x1).set a w2).set d z2).set c y2).set b x2 = (((s.set a w2).set b x2).set c y2).set d z2 := by
  apply List.ext_getElem?
  intro i
  simp only [List.getElem?_set, List.length_set]
  by_cases h1 : a = i
  · subst h1; simp [hab.symm, hac.symm, had.symm]
  · by_cases h2 : b = i
    · subst h2; simp [h1, hbc.symm, hbd.symm]
    · by_cases h3 : c = i
      · subst h3; simp [h1, h2, hcd.symm]
      · by_cases h4 : d = i
        · subst h4; simp [h1, h2, h3]
        · simp [h1, h2, h3, h4]
theorem set_get_ne {s : List UInt32} {a b : Nat} (h : a ≠ b) (x : AV) : ((s.map u32).set a x)[b]? = (s.map u32)[b]? := List.getElem?_set_ne h
theorem quarterR_ok (A B : Heap) (s : List UInt32) (hs : s.length = 16) {a b c d : Nat} (ha : a < 16) (hb : b < 16) (hc : c < 16) (hd : d < 16) (hab : a ≠ b) (hac : a ≠ c) (had : a ≠ d) (hbc : b ≠ c) (hbd : b ≠ d) (hcd : c ≠ d) :
    aditref02_quarter [.sl A.length 0 16 16 1, i64 (a : Int), i64 (b : Int), i64 (c : Int), i64 (d : Int)] (A ++ .rw (s.map u32) :: B) = some (.tup [], A ++ .rw ((qr s a b c d).map u32) :: B) := by
  have e1 := fun v => RotateR_ok v 16 (by decide)
  have e2 := fun v => RotateR_ok v 12 (by decide)
  have e3 := fun v => RotateR_ok v 8 (by decide)
  have e4 := fun v => RotateR_ok v 7 (by decide)
  have ga := gw_get (s := s) (i := a) (by omega)
  have gb := gw_get (s := s) (i := b) (by omega)
  have gc := gw_get (s := s) (i := c) (by omega)
  have gd := gw_get (s := s) (i := d) (by omega)
  have ia := idxS_nat (sz := 1) (b := A.length) (o := 0) (len := 16) (cap := 16) (i := a) ha
  have ib := idxS_nat (sz := 1) (b := A.length) (o := 0) (len := 16) (cap := 16) (i := b) hb
  have ic := idxS_nat (sz := 1) (b := A.length) (o := 0) (len := 16) (cap := 16) (i := c) hc
  have id := idxS_nat (sz := 1) (b := A.length) (o := 0) (len := 16) (cap := 16) (i := d) hd
  have hq : (qr s a b c d).map u32 = ((((s.map u32).set a (u32 (mix4 (gw s a) (gw s b) (gw s c) (gw s d)).1)).set b (u32 (mix4 (gw s a) (gw s b) (gw s c) (gw s d)).2.1)).set c (u32 (mix4 (gw s a) (gw s b) (gw s c) (gw s d)).2.2.1)).set d (u32 (mix4 (gw s a) (gw s b) (gw s c) (gw s d)).2.2.2) := by
    simp [qr]
  rw [hq, ← sets8 (s.map u32) hab hac had hbc hbd hcd (u32 (gw s a + gw s b)) (u32 (rotl (gw s d ^^^ (gw s a + gw s b)) 16)) (u32 (gw s c + rotl (gw s d ^^^ (gw s a + gw s b)) 16)) (u32 (rotl (gw s b ^^^ (gw s c + rotl (gw s d ^^^ (gw s a + gw s b)) 16)) 12))]
  unfold aditref02_quarter
  generalize aditref01_Rotate = r at e1 e2 e3 e4 ⊢
  unfold mix4
  generalize gw s a = wa at ga ⊢
  generalize gw s b = wb at gb ⊢
  generalize gw s c = wc at gc ⊢
  generalize gw s d = wd at gd ⊢
  obtain ⟨_, ga'⟩ := List.getElem?_eq_some_iff.1 ga
  obtain ⟨_, gb'⟩ := List.getElem?_eq_some_iff.1 gb
  obtain ⟨_, gc'⟩ := List.getElem?_eq_some_iff.1 gc
  obtain ⟨_, gd'⟩ := List.getElem?_eq_some_iff.1 gd
  simp at e1 e2 e3 e4 ia ib ic id
  simp [e1, e2, e3, e4, ia, ib, ic, id, ga', gb', gc', gd', hs, ha, hb, hc, hd, List.getElem?_set, hab, hac, had, hbc, hbd, hcd, hab.symm, hac.symm, had.symm, hbc.symm, hbd.symm, hcd.symm, show a ≤ 15 by omega, show b ≤ 15 by omega, show c ≤ 15 by omega, show d ≤ 15 by omega, List.take_of_length_le]
theorem two_ok (A B : Heap) (s : List UInt32) (hs : s.length = 16) : aditref02_two [.sl A.length 0 16 16 1] (A ++ .rw (s.map u32) :: B) = some (.tup [], A ++ .rw ((dbl s).map u32) :: B) := by
  have q := fun (s : List UInt32) (hs : s.length = 16) (a b c d : Nat) ha hb hc hd hab hac had hbc hbd hcd => quarterR_ok A B s hs (a := a) (b := b) (c := c) (d := d) ha hb hc hd hab hac had hbc hbd hcd
  have q1 := fun s hs => q s hs 0 4 8 12 (by decide) (by decide) (by decide) (by decide) (by decide) (by decide) (by decide) (by decide) (by decide) (by decide)
  have q2 := fun s hs => q s hs 1 5 9 13 (by decide) (by decide) (by decide) (by decide) (by decide) (by decide) (by decide) (by decide) (by decide) (by decide)
  have q3 := fun s hs => q s hs 2 6 10 14 (by decide) (by decide) (by decide) (by decide) (by decide) (by decide) (by decide) (by decide) (by decide) (by decide)
  have q4 := fun s hs => q s hs 3 7 11 15 (by decide) (by decide) (by decide) (by decide) (by decide) (by decide) (by decide) (by decide) (by decide) (by decide)
  have q5 := fun s hs => q s hs 0 5 10 15 (by decide) (by decide) (by decide) (by decide) (by decide) (by decide) (by decide) (by decide) (by decide) (by decide)
  have q6 := fun s hs => q s hs 1 6 11 12 (by decide) (by decide) (by decide) (by decide) (by decide) (by decide) (by decide) (by decide) (by decide) (by decide)
  have q7 := fun s hs => q s hs 2 7 8 13 (by decide) (by decide) (by decide) (by decide) (by decide) (by decide) (by decide) (by decide) (by decide) (by decide)
  have q8 := fun s hs => q s hs 3 4 9 14 (by decide) (by decide) (by decide) (by decide) (by decide) (by decide) (by decide) (by decide) (by decide) (by decide)
  have hd : dbl s = qr (qr (qr (qr (qr (qr (qr (qr s 0 4 8 12) 1 5 9 13) 2 6 10 14) 3 7 11 15) 0 5 10 15) 1 6 11 12) 2 7 8 13) 3 4 9 14 := rfl
  rw [hd]
  unfold aditref02_two
  generalize aditref02_quarter = f at *
  simp at q1 q2 q3 q4 q5 q6 q7 q8
  simp [q1, q2, q3, q4, q5, q6, q7, q8, hs, List.take_of_length_le]
theorem numbers_ok {H : Heap} {b : AV} {l : List UInt8} (hs : IsSl u8 H b l) (hl : l.length ≤ 1000) : aditref02_numbers [b] H = some (own H.length (words32 l (l.length / 4)), H ++ ownH u32 (words32 l (l.length / 4))) := by
  have hloop : loopD (fun vs H' => (aditref02_numbers_l1 [b] H vs H').bd (roundEnd H.length)) [.nsl, i64 0] H = some (.exit 0, [own H.length (words32 l (l.length / 4)), i64 (4 * (l.length / 4) : Nat)], H ++ ownH u32 (words32 l (l.length / 4))) := by
    have e0 : ([AV.nsl, i64 0] : List AV) = [own H.length (words32 l 0), i64 (4 * 0 : Nat)] := rfl
    have e1 : H = H ++ ownH u32 (words32 l 0) := by simp [words32, ownH]
    refine Eq.trans (b := loopD (fun vs H' => (aditref02_numbers_l1 [b] H vs H').bd (roundEnd H.length)) [own H.length (words32 l 0), i64 (4 * 0 : Nat)] (H ++ ownH u32 (words32 l 0))) (by rw [← e1]; rfl) ?_
    refine loopD_count (st := fun i => ([own H.length (words32 l i), i64 (4 * i : Nat)], H ++ ownH u32 (words32 l i))) (l.length / 4) ?_ ?_
    · intro i hi
      have hi4 : 4 * i + 4 ≤ l.length := by omega
      have a4 := bin_add_i64 (a := (4 * i : Nat)) (b := 4) (by omega) (by omega)
      have hle : (((4 * i : Nat) : Int) + 4 ≤ (l.length : Int)) := by omega
      have hsc := fun B => (hs.grow B).slc (k1 := .i64) (k2 := .i64) (lo := 4 * i) (hi := 4 * i + 4) (by omega) hi4
      have hsub := fun B => (hs.grow B).sub (lo := 4 * i) (hi := 4 * i + 4) (by omega) hi4
      have hle2 := fun B => Least_ok (hsub B) (by simp; omega)
      have hw : words32 l (i + 1) = words32 l i ++ [w32 l i] := by simp [words32, List.range_succ]
      have hv : UInt32.ofNat (UInt64.ofNat (val ((l.drop (4 * i)).take 4))).toNat = w32 l i := by
        unfold w32
        have := val_lt ((l.drop (4 * i)).take 4)
        have hlen : ((l.drop (4 * i)).take 4).length = 4 := by simp; omega
        rw [hlen] at this
        rw [UInt64.toNat_ofNat', Nat.mod_eq_of_lt (by omega)]
      have hwl : (words32 l i).length = i := by simp
      rw [show 4 * i + 4 - 4 * i = 4 by omega] at hle2
      have hsc0 := hsc []
      rw [show ((4 * i + 4 : Nat) : Int) = ((4 * i : Nat) : Int) + 4 by omega] at hsc0
      have hc : AV.conv .u32 (u64 (UInt64.ofNat (val ((l.drop (4 * i)).take 4)))) = some (u32 (w32 l i)) := by rw [conv_u32_u64, hv]
      rw [hw, show 4 * (i + 1) = 4 * i + 4 by omega, show ((4 * i + 4 : Nat) : Int) = ((4 * i : Nat) : Int) + 4 by omega]
      unfold aditref02_numbers_l1
      generalize aditref01_Least = c1 at hle2 ⊢
      generalize UInt64.ofNat (val ((l.drop (4 * i)).take 4)) = x at *
      generalize w32 l i = y at *
      generalize words32 l i = out at *
      have hlm : i + 1 ≤ lim := by simp [lim]; omega
      by_cases ho : out = []
      · subst ho
        have hz : i = 0 := by simpa using hwl.symm
        subst hz
        have h0 := hle2 []
        try simp [-Int.natCast_add, -Int.natCast_mul] at hsc0
        try simp [-Int.natCast_add, -Int.natCast_mul] at h0
        try simp [-Int.natCast_add, -Int.natCast_mul] at hle
        try simp [-Int.natCast_add, -Int.natCast_mul] at a4
        simp [-Int.natCast_add, -Int.natCast_mul, own, ownH, hs.len, a4, hle, hsc0, h0, hc, lim]
      · have h0 := hle2 [.rw (out.map u32)]
        try simp [-Int.natCast_add, -Int.natCast_mul] at hsc0
        try simp [-Int.natCast_add, -Int.natCast_mul] at h0
        simp [-Int.natCast_add, -Int.natCast_mul, own, ownH, ho, hs.len, a4, hle, hsc0, h0, hc, hwl, hlm]
        subst hwl
        simp
    · unfold aditref02_numbers_l1
      have a4 := bin_add_i64 (a := (4 * (l.length / 4) : Nat)) (b := 4) (by omega) (by omega)
      have hle : ¬ (((4 * (l.length / 4) : Nat) : Int) + 4 ≤ (l.length : Int)) := by omega
      simp [-Int.natCast_add, -Int.natCast_mul, -Int.natCast_ediv, hs.len, a4, hle]
  unfold aditref02_numbers
  simp [hloop]
  by_cases ho : words32 l (l.length / 4) = []
  · simp [own, ownH, ho]
  · simp [own, ownH, ho]
end Go.Sx
