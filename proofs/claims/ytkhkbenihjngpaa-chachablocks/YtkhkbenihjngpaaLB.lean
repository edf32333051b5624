import Derived.Test.YtkhkbenihjngpaaRF
import Derived.Test.YtkhkbenihjngpaaShAditlaw02
set_option linter.all false
namespace Go.Sx
open Go
theorem zero_block : (block (List.replicate 32 0) (List.replicate 12 0) 0).take 4 = [118, 184, 224, 173] := by decide +kernel
theorem xorS_twice (key nonce : List UInt8) (c : UInt32) (b : List UInt8) : xorS key nonce c (xorS key nonce c b) = b := by
  apply List.ext_getElem?
  intro i
  rcases Nat.lt_or_ge i b.length with h | h
  · rw [xorS_get _ _ _ _ (by simpa using h)]
    have : (xorS key nonce c b)[i]'(by simpa using h) = b[i] ^^^ (block key nonce (c + UInt32.ofNat (i / 64))).getD (i % 64) 0 := by
      have := xorS_get key nonce c b h
      exact (List.getElem?_eq_some_iff.1 this).2
    rw [this, UInt8.xor_assoc, UInt8.xor_self, UInt8.xor_zero, List.getElem?_eq_getElem h]
  · rw [List.getElem?_eq_none (by simpa using h), List.getElem?_eq_none h]
theorem xorS_take (key nonce : List UInt8) (c : UInt32) (b : List UInt8) (n : Nat) : xorS key nonce c (b.take n) = (xorS key nonce c b).take n := by
  apply List.ext_getElem?
  intro i
  rcases Nat.lt_or_ge i (b.take n).length with h | h
  · have h1 : i < b.length := by simp at h; omega
    have h2 : i < n := by simp at h; omega
    rw [xorS_get _ _ _ _ h, List.getElem?_take, if_pos h2, xorS_get _ _ _ _ h1, List.getElem_take]
  · rw [List.getElem?_eq_none (by simpa using h), List.getElem?_eq_none (by simpa using h)]
theorem xorS_drop (key nonce : List UInt8) (c : UInt32) (b : List UInt8) (j : Nat) : xorS key nonce (c + UInt32.ofNat j) (b.drop (64 * j)) = (xorS key nonce c b).drop (64 * j) := by
  apply List.ext_getElem?
  intro i
  rcases Nat.lt_or_ge i (b.drop (64 * j)).length with h | h
  · have h1 : 64 * j + i < b.length := by simp at h; omega
    rw [xorS_get _ _ _ _ h, List.getElem?_drop, xorS_get _ _ _ _ h1, List.getElem_drop]
    rw [show (64 * j + i) / 64 = j + i / 64 by omega, show (64 * j + i) % 64 = i % 64 by omega, UInt32.ofNat_add, UInt32.add_assoc]
  · rw [List.getElem?_eq_none (by simpa using h), List.getElem?_eq_none (by simpa using h)]
theorem xorS_nil (key nonce : List UInt8) (c : UInt32) : xorS key nonce c [] = [] := rfl
theorem alive02 (H : Heap) : aditlaw02_alive [] H = some (.bool true, H) := by
  have e1 := fun H => Block_ok H (List.replicate 32 0) (List.replicate 12 0) 0 (by simp) (by simp)
  have hb := zero_block
  have hbl := block_length (List.replicate 32 0) (List.replicate 12 0) 0
  have e2 := Xor_long (H ++ [.rw ((block (List.replicate 32 0) (List.replicate 12 0) 0).map u8), .rw (List.replicate 65 (u8 0))]) (b := .sl (H.length + 1) 0 65 65 1) (l := List.replicate 65 0) (key := List.replicate 32 0) (nonce := List.replicate 12 0) (.whole (by simp) (by simp) (by simp)) (by simp) 4294967295 (.inr (by simp))
  generalize block (List.replicate 32 0) (List.replicate 12 0) 0 = K at *
  have k0 : K[0]? = some 118 := by have := congrArg (·[0]?) hb; simpa [List.getElem?_take] using this
  have k1 : K[1]? = some 184 := by have := congrArg (·[1]?) hb; simpa [List.getElem?_take] using this
  have k2 : K[2]? = some 224 := by have := congrArg (·[2]?) hb; simpa [List.getElem?_take] using this
  have k3 : K[3]? = some 173 := by have := congrArg (·[3]?) hb; simpa [List.getElem?_take] using this
  obtain ⟨_, k0'⟩ := List.getElem?_eq_some_iff.1 k0
  obtain ⟨_, k1'⟩ := List.getElem?_eq_some_iff.1 k1
  obtain ⟨_, k2'⟩ := List.getElem?_eq_some_iff.1 k2
  obtain ⟨_, k3'⟩ := List.getElem?_eq_some_iff.1 k3
  unfold aditlaw02_alive
  generalize chacha_Block = c1 at e1 ⊢
  generalize chacha_Xor = c2 at e2 ⊢
  simp [-List.reduceReplicate] at e1 e2
  simp [-List.reduceReplicate, e1, e2, hbl, k0', k1', k2', k3']
section
variable {H : Heap} {v : AV} {key nonce l : List UInt8}
theorem chachaXors (hs : IsSl u8 H v l) (hk : key.length = 32) (hn : nonce.length = 12) (c : UInt32) : ∃ H', aditlaw02_ChachaXors [.agg (key.map u8), .agg (nonce.map u8), u32 c, v] H = some (.bool true, H') := by
  have ea := fun H => alive02 H
  have hc64 : AV.conv .u64 (u32 c) = some (u64 c.toUInt64) := by rw [conv_u64_u32]; simp
  have hk1 : IsSl u8 (H ++ [.rw (key.map u8), .rw (nonce.map u8)]) (.sl H.length 0 32 32 1) key := .whole (by simp) hk.symm (by omega)
  have hn1 : IsSl u8 (H ++ [.rw (key.map u8), .rw (nonce.map u8)]) (.sl (H.length + 1) 0 12 12 1) nonce := .whole (by simp) hn.symm (by omega)
  have hs1 := hs.grow [.rw (key.map u8), .rw (nonce.map u8)]
  by_cases hg : (l.length > 700 ∧ l.length ≤ 65536) ∨ l.length > 65546
  · refine ⟨H, ?_⟩
    unfold aditlaw02_ChachaXors
    generalize aditlaw02_alive = c1 at ea ⊢
    rcases hg with ⟨g1, g2⟩ | g1
    · simp [hs.len, ea, show ((700 : Int) < l.length) by omega, show ((l.length : Int) ≤ 65536) by omega]
    · simp [hs.len, ea, show ((700 : Int) < l.length) by omega, show ¬ ((l.length : Int) ≤ 65536) by omega, show ((65546 : Int) < l.length) by omega]
  · by_cases hb : l.length > 65536 ∨ c.toNat + (l.length + 63) / 64 > 4294967296
    · have x1 := Xor_long _ (key := key) (nonce := nonce) hs1 (by omega) c hb
      obtain ⟨B, x2⟩ := XorR_long hk1 hn1 hs1 hk hn c.toUInt64 c (UInt32.toNat_toUInt64 c) hb
      refine ⟨B.take H.length, ?_⟩
      unfold aditlaw02_ChachaXors
      generalize aditlaw02_alive = c1 at ea ⊢
      generalize chacha_Xor = c2 at x1 ⊢
      generalize aditref02_Xor = c3 at x2 ⊢
      by_cases g1 : l.length ≤ 700
      · simp [hs.len, ea, show ¬ ((700 : Int) < l.length) by omega, show ¬ ((65546 : Int) < l.length) by omega, x1, x2, hk, hn, piece_some, List.take_of_length_le, hc64]
      · simp [hs.len, ea, show ((700 : Int) < l.length) by omega, show ¬ ((l.length : Int) ≤ 65536) by omega, show ¬ ((65546 : Int) < l.length) by omega, x1, x2, hk, hn, piece_some, List.take_of_length_le, hc64]
    · have x1 := Xor_ok _ hs1 hk hn c (by omega) (by omega)
      have x2 := XorR_ok (hk1.grow [.rw ((xorS key nonce c l).map u8)]) (hn1.grow [.rw ((xorS key nonce c l).map u8)]) (hs1.grow [.rw ((xorS key nonce c l).map u8)]) hk hn (by omega) c.toUInt64 c (UInt32.toNat_toUInt64 c) (by omega)
      have hX : (xorS key nonce c l).length = l.length := by simp
      generalize xorS key nonce c l = X at *
      refine ⟨H, ?_⟩
      unfold aditlaw02_ChachaXors
      generalize aditlaw02_alive = c1 at ea ⊢
      generalize chacha_Xor = c2 at x1 ⊢
      generalize aditref02_Xor = c3 at x2 ⊢
      by_cases h0 : X = []
      · subst h0
        have hl0 : l.length = 0 := by simpa using hX.symm
        simp [own, ownH] at x1 x2
        rw [hl0] at x1
        simp [hs.len, hl0, ea, x1, x2, hk, hn, piece_some, List.take_of_length_le, hc64]
      · simp [own, ownH, h0] at x1 x2
        simp [hs.len, ea, show ¬ ((700 : Int) < l.length) by omega, show ¬ ((65546 : Int) < l.length) by omega, x1, x2, hX, hk, hn, piece_some, List.take_of_length_le, hc64]
theorem chachaTwice (hs : IsSl u8 H v l) (hk : key.length = 32) (hn : nonce.length = 12) (c : UInt32) : ∃ H', aditlaw02_ChachaTwice [.agg (key.map u8), .agg (nonce.map u8), u32 c, v] H = some (.bool true, H') := by
  have ea := fun H => alive02 H
  have hs1 := hs.grow [.rw (key.map u8), .rw (nonce.map u8)]
  refine ⟨H, ?_⟩
  by_cases hg : l.length > 2000
  · unfold aditlaw02_ChachaTwice
    generalize aditlaw02_alive = c1 at ea ⊢
    simp [hs.len, ea, show ((2000 : Int) < l.length) by omega]
  · by_cases hb : c.toNat + (l.length + 63) / 64 > 4294967296
    · have x1 := Xor_long _ (key := key) (nonce := nonce) hs1 (by omega) c (.inr hb)
      unfold aditlaw02_ChachaTwice
      generalize aditlaw02_alive = c1 at ea ⊢
      generalize chacha_Xor = c2 at x1 ⊢
      simp [hs.len, ea, show ¬ ((2000 : Int) < l.length) by omega, x1, hk, hn, piece_some, List.take_of_length_le]
    · have x1 := Xor_ok _ hs1 hk hn c (by omega) (by omega)
      have hX : (xorS key nonce c l).length = l.length := by simp
      have x2 := Xor_ok (H ++ [.rw (key.map u8), .rw (nonce.map u8), .rw ((xorS key nonce c l).map u8)]) (b := .sl (H.length + 2) 0 l.length l.length 1) (l := xorS key nonce c l) (.whole (by simp) hX.symm (by omega)) hk hn c (by omega) (by omega)
      rw [xorS_twice, hX] at x2
      generalize xorS key nonce c l = X at *
      unfold aditlaw02_ChachaTwice
      generalize aditlaw02_alive = c1 at ea ⊢
      generalize chacha_Xor = c2 at x1 x2 ⊢
      simp at x1 x2
      simp [hs.len, ea, show ¬ ((2000 : Int) < l.length) by omega, x1, x2, hk, hn, piece_some, List.take_of_length_le, hs.srcB]
theorem quo64 (n : Nat) (h : n < 4611686018427387904) : AV.bin .quo (i64 (n : Int)) (i64 64) = some (i64 ((n / 64 : Nat) : Int)) := by
  simp only [AV.bin, intBin, ne_eq, not_true_eq_false, if_false]
  rw [if_neg (by decide), show ((n : Int).tdiv 64) = ((n / 64 : Nat) : Int) from rfl, i64_wrap (by omega) (by omega)]
theorem rem64 (n : Nat) : AV.bin .rem (i64 (n : Int)) (i64 64) = some (i64 ((n % 64 : Nat) : Int)) := by
  simp only [AV.bin, intBin, ne_eq, not_true_eq_false, if_false]
  rw [if_neg (by decide)]; rfl
theorem chachaPieces (hs : IsSl u8 H v l) (hk : key.length = 32) (hn : nonce.length = 12) (c : UInt32) (t : Int) : ∃ H', aditlaw02_ChachaPieces [.agg (key.map u8), .agg (nonce.map u8), u32 c, v, i64 t] H = some (.bool true, H') := by
  have ea := fun H => alive02 H
  have hs1 := hs.grow [.rw (key.map u8), .rw (nonce.map u8)]
  refine ⟨H, ?_⟩
  by_cases hg : l.length > 2000 ∨ t < 0 ∨ t > l.length
  · unfold aditlaw02_ChachaPieces
    generalize aditlaw02_alive = c1 at ea ⊢
    by_cases g1 : (2000 : Int) < l.length
    · simp [hs.len, ea, g1]
    · by_cases g2 : t < 0
      · simp [hs.len, ea, g1, g2]
      · have g3 : (l.length : Int) < t := by omega
        simp [hs.len, ea, g1, g2, g3]
  · obtain ⟨n, rfl⟩ : ∃ n : Nat, t = n := ⟨t.toNat, by omega⟩
    have hn' : n ≤ l.length := by omega
    have g1 : ¬ ((2000 : Int) < l.length) := by omega
    have g2 : ¬ ((n : Int) < 0) := by omega
    have g3 : ¬ ((l.length : Int) < (n : Int)) := by omega
    by_cases hb : c.toNat + (l.length + 63) / 64 > 4294967296
    · have x1 := Xor_long _ (key := key) (nonce := nonce) hs1 (by omega) c (.inr hb)
      unfold aditlaw02_ChachaPieces
      generalize aditlaw02_alive = c1 at ea ⊢
      generalize chacha_Xor = c2 at x1 ⊢
      simp [hs.len, ea, g1, g2, g3, x1, hk, hn, piece_some, List.take_of_length_le]
    · have x1 := Xor_ok _ hs1 hk hn c (by omega) (by omega)
      have hX : (xorS key nonce c l).length = l.length := by simp
      have hat : 64 * (n / 64) ≤ l.length := by omega
      have r1 := rem64 n
      have s1 := bin_sub_i64 (a := n) (b := (n % 64 : Nat)) (by omega) (by omega)
      rw [show ((n : Int) - ((n % 64 : Nat) : Int)) = ((64 * (n / 64) : Nat) : Int) by omega] at s1
      have q1 := quo64 (64 * (n / 64)) (by omega)
      rw [show 64 * (n / 64) / 64 = n / 64 by omega] at q1
      have cv : AV.conv .u32 (i64 ((n / 64 : Nat) : Int)) = some (u32 (UInt32.ofNat (n / 64))) := conv_u32_i64 _
      have sl1 := hs.slcHi (k1 := .i64) hat
      have sl2 := hs.slcLo (k1 := .i64) hat
      have sl3 := hs.slcHi (k1 := .i64) hn'
      have hd := xorS_drop key nonce c l (n / 64)
      have ht1 := xorS_take key nonce c l (64 * (n / 64))
      have ht2 := xorS_take key nonce c l n
      have l1 : (l.take (64 * (n / 64))).length = 64 * (n / 64) := by simp; omega
      have l2 : (l.drop (64 * (n / 64))).length = l.length - 64 * (n / 64) := by simp
      have l3 : (l.take n).length = n := by simp; omega
      have x2 := fun B => Xor_ok (key := key) (nonce := nonce) _ ((hs.subHi hat).grow B) hk hn c (by omega) (by omega)
      have x4 := fun B => Xor_ok (key := key) (nonce := nonce) _ ((hs.subHi hn').grow B) hk hn c (by omega) (by omega)
      have x3 := fun B => Xor_ok (key := key) (nonce := nonce) _ ((hs.subLo hat).grow B) hk hn (c + UInt32.ofNat (n / 64)) (by omega) (by
        rw [l2]
        by_cases he : 64 * (n / 64) = l.length
        · have := (c + UInt32.ofNat (n / 64)).toNat_lt
          omega
        · rw [sum32 c (n / 64) (by omega)]; omega)
      rw [ht1, l1] at x2
      rw [ht2, l3] at x4
      rw [hd, l2] at x3
      generalize xorS key nonce c l = X at *
      generalize hm : 64 * (n / 64) = m at *
      have hX1 : (X.take m).length = m := by simp; omega
      have hX2 : (X.drop m).length = l.length - m := by simp [hX]
      have hX3 : (X.take n).length = n := by simp; omega
      have hXX : X.take m ++ X.drop m = X := List.take_append_drop _ _
      have hlm : m + (l.length - m) ≤ lim := by simp [lim]; omega
      have g4 : ((l.length : Int) != (l.length : Int)) = false := by simp
      generalize hA : X.take m = XA at *
      generalize hB : X.drop m = XB at *
      generalize hC : X.take n = XC at *
      have hCt : (X.map u8).take n = XC.map u8 := by rw [map_u8_take, hC]
      unfold aditlaw02_ChachaPieces
      generalize aditlaw02_alive = c1 at ea ⊢
      generalize chacha_Xor = c2 at x1 x2 x3 x4 ⊢
      simp at x1 x2 x3 x4
      by_cases he : m = l.length
      · subst he
        have hXA : XA = X := by rw [← hA]; exact List.take_of_length_le (by omega)
        have hl0 : l.length ≤ lim := by simp [lim]; omega
        rw [hXA] at x2 hX1
        simp [-Int.natCast_emod, -Int.natCast_ediv, hs.len, ea, g1, g2, g3, x1, hk, hn, piece_some, List.take_of_length_le, r1, s1, q1, cv, sl1, sl2, sl3, x2, x3, x4, hX1, hX2, hX3, hX, hlm, hn', hCt, hl0]
        done
      · have hl0 : l.length ≤ lim := by simp [lim]; omega
        have he' : (((m : Nat) : Int) == (l.length : Int)) = false := by simp; omega
        simp [-Int.natCast_emod, -Int.natCast_ediv, hs.len, ea, g1, g2, g3, x1, hk, hn, piece_some, List.take_of_length_le, r1, s1, q1, cv, sl1, sl2, sl3, x2, x3, x4, hX1, hX2, hX3, hX, hlm, hn', hCt, he', hXX, hl0, hat]
        done
theorem places_loop {H : Heap} {x y v w : AV} {X Y l m : List UInt8} (hx : IsSl u8 H x X) (hy : IsSl u8 H y Y) (hv : IsSl u8 H v l) (hw : IsSl u8 H w m) (h1 : Y.length = X.length) (h2 : l.length = X.length) (h3 : m.length = X.length) (hlen : X.length ≤ 4000)
    (hp : ∀ i (a : i < X.length), X[i] ^^^ Y[i] = l[i] ^^^ m[i]) (a0 a1 a2 : AV) : loopD (fun vs H' => (aditlaw02_ChachaPlaces_l1 x y [a0, a1, a2, v, w] H vs H').bd (roundEnd H.length)) [.bool false, i64 0] H = some (.exit 0, [.bool false, i64 (X.length : Int)], H) := by
  refine loopD_count (st := fun i => ([.bool false, i64 (i : Int)], H)) X.length ?_ ?_
  · intro i hi
    have a1 := add1 i 4001 (by omega) (by omega)
    have h := hp i hi
    unfold aditlaw02_ChachaPlaces_l1
    simp [hx.len, hi, hx.idx hi, hx.ld hi, hy.idx (i := i) (by omega), hy.ld (i := i) (by omega), hv.idx (i := i) (by omega), hv.ld (i := i) (by omega), hw.idx (i := i) (by omega), hw.ld (i := i) (by omega), h, a1]
  · unfold aditlaw02_ChachaPlaces_l1
    simp [hx.len]
theorem xor_cancel (a b k : UInt8) : (a ^^^ k) ^^^ (b ^^^ k) = a ^^^ b := by
  rw [UInt8.xor_assoc, UInt8.xor_comm b k, ← UInt8.xor_assoc k k b, UInt8.xor_self, UInt8.zero_xor]
theorem chachaPlaces {w : AV} {m : List UInt8} (hs : IsSl u8 H v l) (hw : IsSl u8 H w m) (hk : key.length = 32) (hn : nonce.length = 12) (c : UInt32) : ∃ H', aditlaw02_ChachaPlaces [.agg (key.map u8), .agg (nonce.map u8), u32 c, v, w] H = some (.bool true, H') := by
  have ea := fun H => alive02 H
  have hs1 := hs.grow [.rw (key.map u8), .rw (nonce.map u8)]
  have hw1 := hw.grow [.rw (key.map u8), .rw (nonce.map u8)]
  refine ⟨H, ?_⟩
  by_cases g1 : (1000 : Int) < l.length
  · unfold aditlaw02_ChachaPlaces
    generalize aditlaw02_alive = c1 at ea ⊢
    simp [hs.len, ea, g1]
  · by_cases g2 : l.length = m.length
    · have g2' : ((l.length : Int) != (m.length : Int)) = false := by simp [g2]
      by_cases hb : c.toNat + (l.length + 63) / 64 > 4294967296
      · have x1 := Xor_long _ (key := key) (nonce := nonce) hs1 (by omega) c (.inr hb)
        have x2 := Xor_long _ (key := key) (nonce := nonce) hw1 (by omega) c (.inr (by rw [← g2]; exact hb))
        have hlp := places_loop (H := H ++ [.rw (key.map u8), .rw (nonce.map u8)]) (x := .nsl) (y := .nsl) (X := []) (Y := []) (l := []) (m := []) (v := .nsl) (w := .nsl) .nsl .nsl .nsl .nsl rfl rfl rfl (by simp) (by simp)
        have hlp2 : ∀ a0 a1 a2 v w, loopD (fun vs H' => (aditlaw02_ChachaPlaces_l1 .nsl .nsl [a0, a1, a2, v, w] (H ++ [.rw (key.map u8), .rw (nonce.map u8)]) vs H').bd (roundEnd (H.length + 2))) [.bool false, i64 0] (H ++ [.rw (key.map u8), .rw (nonce.map u8)]) = some (.exit 0, [.bool false, i64 0], H ++ [.rw (key.map u8), .rw (nonce.map u8)]) := by
          intro a0 a1 a2 v w
          refine loopD_stop ?_
          unfold aditlaw02_ChachaPlaces_l1
          simp
        unfold aditlaw02_ChachaPlaces
        generalize aditlaw02_alive = c1 at ea ⊢
        generalize chacha_Xor = c2 at x1 x2 ⊢
        simp [hs.len, hw.len, ea, g1, g2', x1, x2, hk, hn, piece_some, List.take_of_length_le, hlp2]
      · have x1 := Xor_ok _ hs1 hk hn c (by omega) (by omega)
        have x2 := Xor_ok _ (hw1.grow [.rw ((xorS key nonce c l).map u8)]) hk hn c (by omega) (by omega)
        have hX : (xorS key nonce c l).length = l.length := by simp
        have hY : (xorS key nonce c m).length = m.length := by simp
        have hp : ∀ i (a : i < (xorS key nonce c l).length), (xorS key nonce c l)[i] ^^^ (xorS key nonce c m)[i]'(by omega) = l[i]'(by omega) ^^^ m[i]'(by omega) := by
          intro i hi
          have e1 := xorS_get key nonce c l (i := i) (by omega)
          have e2 := xorS_get key nonce c m (i := i) (by omega)
          rw [(List.getElem?_eq_some_iff.1 e1).2, (List.getElem?_eq_some_iff.1 e2).2, xor_cancel]
        have hlp := places_loop (H := H ++ [.rw (key.map u8), .rw (nonce.map u8), .rw ((xorS key nonce c l).map u8), .rw ((xorS key nonce c m).map u8)]) (x := .sl (H.length + 2) 0 l.length l.length 1) (y := .sl (H.length + 3) 0 m.length m.length 1) (.whole (by simp) hX.symm (by omega)) (.whole (by simp) hY.symm (by omega)) (hs.grow _) (hw.grow _) (by omega) (by omega) (by omega) (by omega) hp (.agg (key.map u8)) (.agg (nonce.map u8)) (u32 c)
        clear hp
        generalize xorS key nonce c l = X at *
        generalize xorS key nonce c m = Y at *
        have g3 : ((l.length : Int) != (l.length : Int)) = false := by simp
        unfold aditlaw02_ChachaPlaces
        generalize aditlaw02_alive = c1 at ea ⊢
        generalize chacha_Xor = c2 at x1 x2 ⊢
        simp at x2 hlp
        simp [hs.len, hw.len, ea, g1, g2', x1, x2, hk, hn, piece_some, List.take_of_length_le, hlp]
    · have g2' : ((l.length : Int) != (m.length : Int)) = true := by simp; omega
      unfold aditlaw02_ChachaPlaces
      generalize aditlaw02_alive = c1 at ea ⊢
      simp [hs.len, hw.len, ea, g1, g2']
theorem chachaBlocks {n : List UInt8} (hk : key.length = 32) (hn : nonce.length = 12) (hn16 : n.length = 16) (c : UInt32) : ∃ H', aditlaw02_ChachaBlocks [.agg (key.map u8), .agg (nonce.map u8), u32 c, .agg (n.map u8)] H = some (.bool true, H') := by
  have ea := fun H => alive02 H
  have hc64 : AV.conv .u64 (u32 c) = some (u64 c.toUInt64) := by rw [conv_u64_u32]; simp
  have e1 := fun H => Block_ok H key nonce c hk hn
  have e2 := fun H => Derive_ok H key n hk hn16
  have hK : (block key nonce c).length = 64 := by simp
  have hD : (hchacha key n).length = 32 := by simp
  have hk1 := fun (B : Heap) => IsSl.whole (enc := u8) (H := H ++ .rw (key.map u8) :: .rw (nonce.map u8) :: .rw (n.map u8) :: B) (b := H.length) (l := key) (cap := 32) (n := 32) (by simp) hk.symm (by omega)
  have hn1 := fun (B : Heap) => IsSl.whole (enc := u8) (H := H ++ .rw (key.map u8) :: .rw (nonce.map u8) :: .rw (n.map u8) :: B) (b := H.length + 1) (l := nonce) (cap := 12) (n := 12) (by simp) hn.symm (by omega)
  have hm1 := fun (B : Heap) => IsSl.whole (enc := u8) (H := H ++ .rw (key.map u8) :: .rw (nonce.map u8) :: .rw (n.map u8) :: B) (b := H.length + 2) (l := n) (cap := 16) (n := 16) (by simp) hn16.symm (by omega)
  have f1 := fun B => BlockR_ok (hk1 B) (hn1 B) hk hn c.toUInt64
  have f2 := fun B => DeriveR_ok (hk1 B) (hm1 B) hk hn16
  simp only [rest_same c.toUInt64 c (UInt32.toNat_toUInt64 c)] at f1
  generalize block key nonce c = K at *
  generalize hchacha key n = D at *
  refine ⟨H, ?_⟩
  unfold aditlaw02_ChachaBlocks
  generalize aditlaw02_alive = c1 at ea ⊢
  generalize chacha_Block = c2 at e1 ⊢
  generalize chacha_Derive = c3 at e2 ⊢
  generalize aditref02_Block = c4 at f1 ⊢
  generalize aditref02_Derive = c5 at f2 ⊢
  simp at f1 f2
  simp [-List.reduceReplicate, ea, e1, e2, f1, f2, hk, hn, hn16, hK, hD, hc64, piece_some, List.take_of_length_le, Nat.add_assoc]
end
theorem ChachaXors_row (xs : List AV) (H : Heap) (_ : AllRo H) (h : AllIs [.agg (List.replicate 32 (.int .u8)), .agg (List.replicate 12 (.int .u8)), .one (.int .u32), .sl [.int .u8]] xs H) : ∃ H', aditlaw02_ChachaXors xs H = some (.bool true, H') := by
  obtain ⟨a, _, rfl, ha, h⟩ := allIs_cons h
  obtain ⟨b, _, rfl, hb, h⟩ := allIs_cons h
  obtain ⟨c, _, rfl, hc, h⟩ := allIs_cons h
  obtain ⟨d, _, rfl, hd, h⟩ := allIs_cons h
  obtain rfl := allIs_nil h
  obtain ⟨k, hk, rfl⟩ := is_arr enc_u8 ha
  obtain ⟨n, hn, rfl⟩ := is_arr enc_u8 hb
  obtain ⟨c, rfl⟩ := is_u32 hc
  obtain ⟨l, hl, hm⟩ := is_sl enc_u8 hd
  exact chachaXors hl hk hn c
theorem ChachaTwice_row (xs : List AV) (H : Heap) (_ : AllRo H) (h : AllIs [.agg (List.replicate 32 (.int .u8)), .agg (List.replicate 12 (.int .u8)), .one (.int .u32), .sl [.int .u8]] xs H) : ∃ H', aditlaw02_ChachaTwice xs H = some (.bool true, H') := by
  obtain ⟨a, _, rfl, ha, h⟩ := allIs_cons h
  obtain ⟨b, _, rfl, hb, h⟩ := allIs_cons h
  obtain ⟨c, _, rfl, hc, h⟩ := allIs_cons h
  obtain ⟨d, _, rfl, hd, h⟩ := allIs_cons h
  obtain rfl := allIs_nil h
  obtain ⟨k, hk, rfl⟩ := is_arr enc_u8 ha
  obtain ⟨n, hn, rfl⟩ := is_arr enc_u8 hb
  obtain ⟨c, rfl⟩ := is_u32 hc
  obtain ⟨l, hl, hm⟩ := is_sl enc_u8 hd
  exact chachaTwice hl hk hn c
theorem ChachaPieces_row (xs : List AV) (H : Heap) (_ : AllRo H) (h : AllIs [.agg (List.replicate 32 (.int .u8)), .agg (List.replicate 12 (.int .u8)), .one (.int .u32), .sl [.int .u8], .one (.int .i64)] xs H) : ∃ H', aditlaw02_ChachaPieces xs H = some (.bool true, H') := by
  obtain ⟨a, _, rfl, ha, h⟩ := allIs_cons h
  obtain ⟨b, _, rfl, hb, h⟩ := allIs_cons h
  obtain ⟨c, _, rfl, hc, h⟩ := allIs_cons h
  obtain ⟨d, _, rfl, hd, h⟩ := allIs_cons h
  obtain ⟨e, _, rfl, he, h⟩ := allIs_cons h
  obtain rfl := allIs_nil h
  obtain ⟨k, hk, rfl⟩ := is_arr enc_u8 ha
  obtain ⟨n, hn, rfl⟩ := is_arr enc_u8 hb
  obtain ⟨c, rfl⟩ := is_u32 hc
  obtain ⟨l, hl, hm⟩ := is_sl enc_u8 hd
  obtain ⟨t, rfl, _, _⟩ := is_i64 he
  exact chachaPieces hl hk hn c t
theorem ChachaPlaces_row (xs : List AV) (H : Heap) (_ : AllRo H) (h : AllIs [.agg (List.replicate 32 (.int .u8)), .agg (List.replicate 12 (.int .u8)), .one (.int .u32), .sl [.int .u8], .sl [.int .u8]] xs H) : ∃ H', aditlaw02_ChachaPlaces xs H = some (.bool true, H') := by
  obtain ⟨a, _, rfl, ha, h⟩ := allIs_cons h
  obtain ⟨b, _, rfl, hb, h⟩ := allIs_cons h
  obtain ⟨c, _, rfl, hc, h⟩ := allIs_cons h
  obtain ⟨d, _, rfl, hd, h⟩ := allIs_cons h
  obtain ⟨e, _, rfl, he, h⟩ := allIs_cons h
  obtain rfl := allIs_nil h
  obtain ⟨k, hk, rfl⟩ := is_arr enc_u8 ha
  obtain ⟨n, hn, rfl⟩ := is_arr enc_u8 hb
  obtain ⟨c, rfl⟩ := is_u32 hc
  obtain ⟨l, hl, hm⟩ := is_sl enc_u8 hd
  obtain ⟨m, hl2, hm2⟩ := is_sl enc_u8 he
  exact chachaPlaces hl hl2 hk hn c
theorem ChachaBlocks_row (xs : List AV) (H : Heap) (_ : AllRo H) (h : AllIs [.agg (List.replicate 32 (.int .u8)), .agg (List.replicate 12 (.int .u8)), .one (.int .u32), .agg (List.replicate 16 (.int .u8))] xs H) : ∃ H', aditlaw02_ChachaBlocks xs H = some (.bool true, H') := by
  obtain ⟨a, _, rfl, ha, h⟩ := allIs_cons h
  obtain ⟨b, _, rfl, hb, h⟩ := allIs_cons h
  obtain ⟨c, _, rfl, hc, h⟩ := allIs_cons h
  obtain ⟨d, _, rfl, hd, h⟩ := allIs_cons h
  obtain rfl := allIs_nil h
  obtain ⟨k, hk, rfl⟩ := is_arr enc_u8 ha
  obtain ⟨n, hn, rfl⟩ := is_arr enc_u8 hb
  obtain ⟨c, rfl⟩ := is_u32 hc
  obtain ⟨l, hl, rfl⟩ := is_arr enc_u8 hd
  exact chachaBlocks hk hn hl c
end Go.Sx
