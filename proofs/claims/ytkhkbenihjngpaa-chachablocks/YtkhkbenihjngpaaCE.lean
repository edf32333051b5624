import Derived.Test.YtkhkbenihjngpaaCD
set_option linter.all false
namespace Go.Sx
open Go
def hchacha (key n : List UInt8) : List UInt8 := outBytes ((dbls (start16 key n) 10).take 4) ++ outBytes ((dbls (start16 key n) 10).drop 12)
@[simp] theorem hchacha_length (key n : List UInt8) : (hchacha key n).length = 32 := by simp [hchacha]
theorem Derive_loop (A : Heap) {p5 p7 : AV × Heap} {H10 : Heap} (h1 : p5.2.length = A.length) (h3 : p7.2.length = A.length + 1) (h4 : H10.length = A.length + 2) (ss : List UInt32) (hs : ss.length = 16) :
    loopD (fun vs H' => (chacha_Derive_l1 p5 H10 p7 vs H').bd (roundEnd (A.length + 2))) [i64 0] (A ++ [.rw (ss.map u32), .rw (List.replicate 32 (u8 0))]) = some (.exit 0, [i64 4], A ++ [.rw (ss.map u32), .rw ((outBytes (ss.take 4)).map u8 ++ (outBytes (ss.drop 12)).map u8)]) := by
  have hL : ((outBytes (ss.take 4)).map u8).length = 16 := by simp [hs]
  have hM : ((outBytes (ss.drop 12)).map u8).length = 16 := by simp [hs]
  have e0 : List.replicate 32 (u8 0) = fillAt ((outBytes (ss.take 4)).map u8) (List.replicate 16 (u8 0)) (4 * 0) ++ fillAt ((outBytes (ss.drop 12)).map u8) (List.replicate 16 (u8 0)) (4 * 0) := by rw [fillAt_zero, fillAt_zero]; rfl
  rw [e0]
  refine (loopD_count (st := fun i => ([i64 (i : Int)], A ++ [.rw (ss.map u32), .rw (fillAt ((outBytes (ss.take 4)).map u8) (List.replicate 16 (u8 0)) (4 * i) ++ fillAt ((outBytes (ss.drop 12)).map u8) (List.replicate 16 (u8 0)) (4 * i))])) 4 (r := (.exit 0, [i64 4], A ++ [.rw (ss.map u32), .rw (fillAt ((outBytes (ss.take 4)).map u8) (List.replicate 16 (u8 0)) (4 * 4) ++ fillAt ((outBytes (ss.drop 12)).map u8) (List.replicate 16 (u8 0)) (4 * 4))])) ?_ ?_).trans (by rw [fillAt_all (by rw [hL]) (by rw [hL]; simp), fillAt_all (by rw [hM]) (by rw [hM]; simp)])
  · intro i hi
    have g1 := gw_get (s := ss) (i := i) (by omega)
    have g2 := gw_get (s := ss) (i := 12 + i) (by omega)
    have e1 := fun v H => Put32_ok v H
    have m4 := bin_mul_i64 (a := 4) (b := i) (by omega) (by omega)
    have a1 := add1 i 4 hi (by omega)
    have a12 := bin_add_i64 (a := 12) (b := i) (by omega) (by omega)
    have a16 := bin_add_i64 (a := 16) (b := 4 * i) (by omega) (by omega)
    have hF : (fillAt ((outBytes (ss.take 4)).map u8) (List.replicate 16 (u8 0)) (4 * i)).length = 16 := by rw [fillAt_length (by rw [hL]; simp) (by omega)]; exact hL
    have hG : (fillAt ((outBytes (ss.drop 12)).map u8) (List.replicate 16 (u8 0)) (4 * i)).length = 16 := by rw [fillAt_length (by rw [hM]; simp) (by omega)]; exact hM
    have hp : (((outBytes (ss.take 4)).map u8).drop (4 * i)).take 4 = (le (gw ss i).toNat 4).map u8 := by
      rw [map_u8_drop, map_u8_take, outBytes_piece _ (by rw [List.getElem?_take, if_pos hi]; exact g1)]
    have hq : (((outBytes (ss.drop 12)).map u8).drop (4 * i)).take 4 = (le (gw ss (12 + i)).toNat 4).map u8 := by
      rw [map_u8_drop, map_u8_take, outBytes_piece _ (by rw [List.getElem?_drop]; exact g2)]
    have hc := fillAt_copy (M := List.replicate 16 (u8 0)) (by rw [hL]; simp) (by omega) hp
    have hd := fillAt_copy (M := List.replicate 16 (u8 0)) (by rw [hM]; simp) (by omega) hq
    rw [show 4 * (i + 1) = 4 * i + 4 by omega]
    generalize fillAt ((outBytes (ss.take 4)).map u8) (List.replicate 16 (u8 0)) (4 * i) = F at *
    generalize fillAt ((outBytes (ss.take 4)).map u8) (List.replicate 16 (u8 0)) (4 * i + 4) = F' at *
    generalize fillAt ((outBytes (ss.drop 12)).map u8) (List.replicate 16 (u8 0)) (4 * i) = G at *
    generalize fillAt ((outBytes (ss.drop 12)).map u8) (List.replicate 16 (u8 0)) (4 * i + 4) = G' at *
    generalize gw ss i = x at *
    generalize gw ss (12 + i) = y at *
    have hF' : F'.length = 16 := by rw [← hc]; simp [hF]; omega
    have hcp1 := copy_sl (n := H10.length) (H := A ++ [.rw (ss.map u32), .rw (F ++ G), .rw ((le x.toNat 4).map u8), .rw ((le y.toNat 4).map u8)]) (b := A.length + 1) (o := 4 * i) (len := 32 - 4 * i) (cap := 32 - 4 * i) (s := .sl (A.length + 2) 0 4 4 1) (m := 4) (vs := (le x.toNat 4).map u8) (c := F ++ G) (by simp [List.take_of_length_le]) (by simp) (by simp) (by simp) (by omega) (by simp [hF, hG] <;> omega)
    have hcp2 := copy_sl (n := H10.length) (H := A ++ [.rw (ss.map u32), .rw (F' ++ G), .rw ((le x.toNat 4).map u8), .rw ((le y.toNat 4).map u8)]) (b := A.length + 1) (o := 16 + 4 * i) (len := 16 - 4 * i) (cap := 16 - 4 * i) (s := .sl (A.length + 3) 0 4 4 1) (m := 4) (vs := (le y.toNat 4).map u8) (c := F' ++ G) (by simp [List.take_of_length_le]) (by simp) (by simp) (by simp) (by omega) (by simp [hF', hG] <;> omega)
    have q1 : (F ++ G).take (4 * i) ++ (le x.toNat 4).map u8 ++ (F ++ G).drop (4 * i + 4) = F' ++ G := by
      rw [List.take_append_of_le_length (by omega), List.drop_append_of_le_length (by omega), ← List.append_assoc, hc]
    have q2 : (F' ++ G).take (16 + 4 * i) ++ (le y.toNat 4).map u8 ++ (F' ++ G).drop (16 + 4 * i + 4) = F' ++ G' := by
      rw [← hF', List.take_length_add_append, Nat.add_assoc, List.drop_length_add_append, List.append_assoc, List.append_assoc, ← hd, List.append_assoc]
    rw [show min 4 (32 - 4 * i) = 4 by omega, List.take_of_length_le (l := (le x.toNat 4).map u8) (by simp), q1] at hcp1
    rw [show min 4 (16 - 4 * i) = 4 by omega, List.take_of_length_le (l := (le y.toNat 4).map u8) (by simp), q2] at hcp2
    have hbd : (if 0 ≤ 4 * (i : Int) ∧ 4 * (i : Int) ≤ 32 then some (4 * (i : Int)).toNat else none) = some (4 * i) := by rw [if_pos (by omega)]; congr 1
    have hbd2 : (if 0 ≤ 16 + 4 * (i : Int) ∧ 16 + 4 * (i : Int) ≤ 32 then some (16 + 4 * (i : Int)).toNat else none) = some (16 + 4 * i) := by rw [if_pos (by omega)]; congr 1
    have hi1 := idxP_nat (len := 16) (sz := 1) (b := A.length) (o := 0) (i := 12 + i) (by omega)
    unfold chacha_Derive_l1
    generalize words_Put32 = c1 at e1 ⊢
    simp [h4] at hcp1 hcp2 hi1
    simp [show ((i : Int) < 4) by omega, show ((i : Int) < 16) by omega, show 32 - (16 + 4 * i) = 16 - 4 * i by omega, h1, h3, h4, g1, g2, e1, m4, a1, a12, a16, hF, hG, hcp1, hcp2, hbd, hbd2, hi1, chk, List.take_of_length_le, Nat.add_assoc]
  · unfold chacha_Derive_l1
    simp
theorem Derive_ok (H : Heap) (key n : List UInt8) (hk : key.length = 32) (hn : n.length = 16) : chacha_Derive [.agg (key.map u8), .agg (n.map u8)] H = some (.agg ((hchacha key n).map u8), H) := by
  have e2 := fun H => first_ok H key n hk hn
  have e3 := rounds_ok (H ++ [.rw (key.map u8), .rw (n.map u8), .rw (List.replicate 32 (u8 0))]) [] (start16 key n) (by simp)
  have hl := fun {p5 p7 : AV × Heap} {H10 : Heap} h1 h2 h3 => Derive_loop (H ++ [.rw (key.map u8), .rw (n.map u8), .rw (List.replicate 32 (u8 0))]) (p5 := p5) (p7 := p7) (H10 := H10) h1 h2 h3 (dbls (start16 key n) 10) (by simp)
  unfold hchacha
  have hl1 : (start16 key n).length = 16 := by simp
  have hl2 : (dbls (start16 key n) 10).length = 16 := by simp
  generalize (dbls (start16 key n) 10) = ss at e3 hl hl2 ⊢
  generalize (start16 key n) = s0 at e2 e3 hl1 ⊢
  unfold chacha_Derive
  generalize chacha_first = c2 at e2 ⊢
  generalize chacha_state_rounds = c3 at e3 ⊢
  simp [-List.reduceReplicate] at e3 hl
  simp [-List.reduceReplicate, e2, e3, hk, hn, piece_some, Nat.add_assoc, hl1, hl2, hl, List.take_of_length_le]
end Go.Sx
