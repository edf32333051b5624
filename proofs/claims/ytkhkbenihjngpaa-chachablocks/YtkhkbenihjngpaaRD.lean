import Derived.Test.YtkhkbenihjngpaaRC
set_option linter.all false
namespace Go.Sx
open Go
theorem words32_ne {l : List UInt8} {n : Nat} (h : 0 < n) : words32 l n ≠ [] := by
  intro h0
  have := words32_length l n
  rw [h0] at this; simp at this; omega
theorem FirstR_ok {H : Heap} {a b : AV} {key rest : List UInt8} (ha : IsSl u8 H a key) (hb : IsSl u8 H b rest) (hk : key.length = 32) (hr : rest.length = 16) : aditref02_First [a, b] H = some (.sl H.length 0 16 16 1, H ++ [.rw ((start16 key rest).map u32)]) := by
  have e1 := fun B => numbers_ok (ha.grow B) (by omega)
  have e2 := fun B => numbers_ok (hb.grow B) (by omega)
  rw [hk, show 32 / 4 = 8 from rfl] at e1
  rw [hr, show 16 / 4 = 4 from rfl] at e2
  have h8 := words32_length key 8
  have h4 := words32_length rest 4
  have n8 := words32_ne (l := key) (n := 8) (by decide)
  have n4 := words32_ne (l := rest) (n := 4) (by decide)
  simp only [own, ownH, n8, n4, if_false, h8, h4] at e1 e2
  unfold start16
  generalize words32 key 8 = W at *
  generalize words32 rest 4 = V at *
  have hfill : fillA (zeros 4 [u32 0]) [(0, 1, u32 1634760805), (1, 1, u32 857760878), (2, 1, u32 2036477234), (3, 1, u32 1797285236)] = some (sigma.map u32) := rfl
  have hsg : sigma.length = 4 := rfl
  generalize sigma = S at *
  unfold aditref02_First
  generalize aditref02_numbers = c1 at e1 e2 ⊢
  simp [-fillA_cons, -zeros_one, hfill, e1, e2, hsg, h8, h4, lim, Nat.add_assoc, List.take_of_length_le]
theorem bytes_ok {H : Heap} {b : AV} {l : List UInt32} (hs : IsSl u32 H b l) (hl : l.length ≤ 1000) : aditref02_bytes [b] H = some (own H.length (outBytes l), H ++ ownH u8 (outBytes l)) := by
  have hloop : loopD (fun vs H' => (aditref02_bytes_l1 [b] H vs H').bd (roundEnd H.length)) [.nsl, i64 0] H = some (.exit 0, [own H.length (outBytes (l.take l.length)), i64 (l.length : Int)], H ++ ownH u8 (outBytes (l.take l.length))) := by
    have e1 : H = H ++ ownH u8 (outBytes (l.take 0)) := by simp [outBytes, ownH]
    refine Eq.trans (b := loopD (fun vs H' => (aditref02_bytes_l1 [b] H vs H').bd (roundEnd H.length)) [own H.length (outBytes (l.take 0)), i64 (0 : Nat)] (H ++ ownH u8 (outBytes (l.take 0)))) (by rw [← e1]; rfl) ?_
    refine loopD_count (st := fun i => ([own H.length (outBytes (l.take i)), i64 (i : Int)], H ++ ownH u8 (outBytes (l.take i)))) l.length ?_ ?_
    · intro i hi
      have i0 := hs.idx hi
      have l0 := fun B => hs.ldB B hi
      have a1 := add1 i 1001 (by omega) (by omega)
      have eb := fun H => Bytes_ok (l[i]).toUInt64 4 (by decide) H
      have hne : le (l[i]).toUInt64.toNat 4 ≠ [] := by simp [le]
      have h4 : (le (l[i]).toUInt64.toNat 4).length = 4 := by simp
      have hw : outBytes (l.take (i + 1)) = outBytes (l.take i) ++ le (l[i]).toUInt64.toNat 4 := by
        have ht : l.take (i + 1) = l.take i ++ [l[i]] := by rw [List.take_add_one, List.getElem?_eq_getElem hi]; rfl
        rw [ht, UInt32.toNat_toUInt64]
        simp only [outBytes, List.map_append, List.flatten_append, List.map_cons, List.map_nil, List.flatten_cons, List.flatten_nil, List.append_nil]
      have hwl : (outBytes (l.take i)).length = 4 * i := by simp; omega
      simp only [own, ownH, hne, if_false, h4] at eb
      have hcv : AV.conv .u64 (u32 l[i]) = some (u64 (l[i]).toUInt64) := by rw [conv_u64_u32]; simp
      rw [hw]
      generalize le (l[i]).toUInt64.toNat 4 = y at *
      generalize outBytes (l.take i) = out at *
      have hlm : 4 * i + 4 ≤ lim := by simp [lim]; omega
      unfold aditref02_bytes_l1
      generalize aditref01_Bytes = c1 at eb ⊢
      simp at eb
      by_cases ho : out = []
      · subst ho
        have hz : i = 0 := by simp at hwl; omega
        subst hz
        have l1 := l0 []
        simp at l1 i0
        have hpos : 0 < l.length := hi
        have a01 : AV.bin .add (i64 0) (i64 1) = some (i64 1) := rfl
        simp [own, ownH, hs.len, i0, l1, a01, hcv, eb, h4, hne, hpos, lim, List.take_of_length_le]
      · have l1 := l0 [.rw (out.map u8)]
        simp [own, ownH, ho, hs.len, hi, i0, l1, hcv, eb, h4, hne, a1, hwl, hlm, Nat.add_assoc, List.take_of_length_le]
    · unfold aditref02_bytes_l1
      simp [hs.len]
  rw [List.take_length] at hloop
  unfold aditref02_bytes
  simp [hloop]
  by_cases ho : outBytes l = []
  · simp [own, ownH, ho]
  · simp [own, ownH, ho]
theorem loopR_two (A : Heap) (s0 : List UInt32) (hs : s0.length = 16) (B : Heap) {p3 p4 : AV × Heap} (h3 : p3.1 = .sl A.length 0 16 16 1) {n : Nat} (hn : n = A.length + 1 + B.length) : loopD (fun vs H' => (aditref02_Block_l1 p3 p4 vs H').bd (roundEnd n)) [i64 0] (A ++ .rw (s0.map u32) :: B) = some (.exit 0, [i64 10], A ++ .rw ((dbls s0 10).map u32) :: B) := by
  refine loopD_count (st := fun i => ([i64 (i : Int)], A ++ .rw ((dbls s0 i).map u32) :: B)) 10 ?_ ?_
  · intro i hi
    have q := two_ok A B (dbls s0 i) (by simp [hs])
    have a1 := add1 i 11 (by omega) (by omega)
    subst hn
    unfold aditref02_Block_l1
    generalize aditref02_two = c1 at q ⊢
    simp [show ((i : Int) < 10) by omega, h3, q, a1, dbls]
    rw [List.take_of_length_le (by simp; omega)]
  · unfold aditref02_Block_l1
    simp
theorem loopR_add (A : Heap) (s w : List UInt32) (hs : s.length = 16) (hw : w.length = 16) {p3 p4 : AV × Heap} {H17 : Heap} (h3 : p3.1 = .sl A.length 0 16 16 1) (h4 : p4.1 = .sl (A.length + 1) 0 16 16 1) (h17 : H17.length = A.length + 2) : loopD (fun vs H' => (aditref02_Block_l2 p3 p4 H17 vs H').bd (roundEnd (A.length + 2))) [i64 0] (A ++ [.rw (s.map u32), .rw (w.map u32)]) = some (.exit 2, [i64 16], A ++ [.rw ((addw s w).map u32), .rw (w.map u32)]) := by
  have hL : (addw s w).length = 16 := by simp [hs, hw]
  have e0 : s = fillAt (addw s w) s 0 := by rw [fillAt_zero]
  have e16 : addw s w = fillAt (addw s w) s 16 := by rw [fillAt_all hL.symm (by omega)]
  refine Eq.trans (b := loopD (fun vs H' => (aditref02_Block_l2 p3 p4 H17 vs H').bd (roundEnd (A.length + 2))) [i64 (0 : Nat)] (A ++ [.rw ((fillAt (addw s w) s 0).map u32), .rw (w.map u32)])) (by rw [← e0]; rfl) ?_
  refine (loopD_count (st := fun i => ([i64 (i : Int)], A ++ [.rw ((fillAt (addw s w) s i).map u32), .rw (w.map u32)])) 16 (r := (.exit 2, [i64 16], A ++ [.rw ((fillAt (addw s w) s 16).map u32), .rw (w.map u32)])) ?_ ?_).trans (by rw [← e16])
  · intro i hi
    have hx := addw_get (a := s) (b := w) (i := i) (by omega) (by omega)
    have hf := fillAt_set (M := s) (by omega) (by omega) hx
    have hF : (fillAt (addw s w) s i).length = 16 := by rw [fillAt_length (by omega) (by omega)]; exact hL
    have g2 := gw_get (s := w) (i := i) (by omega)
    have g1 : (fillAt (addw s w) s i)[i]? = some (gw s i) := by
      unfold fillAt
      rw [List.getElem?_append_right (by simp; omega), List.getElem?_drop]
      have : (List.take i (addw s w)).length = i := by simp; omega
      rw [this, Nat.sub_self, Nat.add_zero]
      exact gw_get (by omega)
    have i1 := idxS_nat (sz := 1) (b := A.length) (o := 0) (len := 16) (cap := 16) (i := i) hi
    have i2 := idxS_nat (sz := 1) (b := A.length + 1) (o := 0) (len := 16) (cap := 16) (i := i) hi
    have a1 := add1 i 17 (by omega) (by omega)
    unfold aditref02_Block_l2
    generalize gw s i = x at *
    generalize gw w i = y at *
    generalize fillAt (addw s w) s i = F at *
    generalize fillAt (addw s w) s (i + 1) = F' at *
    rw [← hf]
    simp at i1 i2
    simp [show ((i : Int) < 16) by omega, h3, h4, h17, i1, i2, g1, g2, a1, hF, show i ≤ 15 by omega]
  · unfold aditref02_Block_l2
    simp
theorem BlockR_ok {H : Heap} {a b : AV} {key nonce : List UInt8} (ha : IsSl u8 H a key) (hb : IsSl u8 H b nonce) (hk : key.length = 32) (hn : nonce.length = 12) (c : UInt64) : aditref02_Block [a, b, u64 c] H = some (.sl H.length 0 64 64 1, H ++ [.rw ((blockOf (start16 key (le c.toNat 4 ++ nonce))).map u8)]) := by
  have eb := fun H => Bytes_ok c 4 (by decide) H
  have hne : le c.toNat 4 ≠ [] := by simp [le]
  have h4 : (le c.toNat 4).length = 4 := by simp
  simp only [own, ownH, hne, if_false, h4] at eb
  have hrest : (le c.toNat 4 ++ nonce).length = 16 := by simp [hn]
  have hr := fun (T : Heap) => IsSl.whole (enc := u8) (l := le c.toNat 4 ++ nonce) (H := H ++ .dead :: .rw ((le c.toNat 4 ++ nonce).map u8) :: T) (b := H.length + 1) (cap := 16) (n := 16) (by simp) hrest.symm (by omega)
  have ef := fun T => FirstR_ok (ha.grow (.dead :: .rw ((le c.toNat 4 ++ nonce).map u8) :: T)) (hr T) hk hrest
  have hl1 := loopR_two (H ++ [.dead, .rw ((le c.toNat 4 ++ nonce).map u8)]) (start16 key (le c.toNat 4 ++ nonce)) (by simp) [.rw ((start16 key (le c.toNat 4 ++ nonce)).map u32)] (p3 := (.sl (H.length + 2) 0 16 16 1, H ++ [.dead, .rw ((le c.toNat 4 ++ nonce).map u8), .rw ((start16 key (le c.toNat 4 ++ nonce)).map u32)])) (p4 := (.sl (H.length + 3) 0 16 16 1, H ++ [.dead, .rw ((le c.toNat 4 ++ nonce).map u8), .rw ((start16 key (le c.toNat 4 ++ nonce)).map u32), .rw ((start16 key (le c.toNat 4 ++ nonce)).map u32)])) (by simp) (n := H.length + 4) (by simp)
  have hl2 := loopR_add (H ++ [.dead, .rw ((le c.toNat 4 ++ nonce).map u8)]) (dbls (start16 key (le c.toNat 4 ++ nonce)) 10) (start16 key (le c.toNat 4 ++ nonce)) (by simp) (by simp) (p3 := (.sl (H.length + 2) 0 16 16 1, H ++ [.dead, .rw ((le c.toNat 4 ++ nonce).map u8), .rw ((start16 key (le c.toNat 4 ++ nonce)).map u32)])) (p4 := (.sl (H.length + 3) 0 16 16 1, H ++ [.dead, .rw ((le c.toNat 4 ++ nonce).map u8), .rw ((start16 key (le c.toNat 4 ++ nonce)).map u32), .rw ((start16 key (le c.toNat 4 ++ nonce)).map u32)])) (H17 := H ++ [.dead, .rw ((le c.toNat 4 ++ nonce).map u8), .rw ((dbls (start16 key (le c.toNat 4 ++ nonce)) 10).map u32), .rw ((start16 key (le c.toNat 4 ++ nonce)).map u32)]) (by simp) (by simp) (by simp)
  unfold blockOf
  have hl3 : (addw (dbls (start16 key (le c.toNat 4 ++ nonce)) 10) (start16 key (le c.toNat 4 ++ nonce))).length = 16 := by simp
  have ebs := bytes_ok (H := H ++ [.dead, .rw ((le c.toNat 4 ++ nonce).map u8), .rw ((addw (dbls (start16 key (le c.toNat 4 ++ nonce)) 10) (start16 key (le c.toNat 4 ++ nonce))).map u32), .rw ((start16 key (le c.toNat 4 ++ nonce)).map u32)]) (b := .sl (H.length + 2) 0 16 16 1) (.whole (by simp) hl3.symm (by omega)) (by omega)
  have ho : outBytes (addw (dbls (start16 key (le c.toNat 4 ++ nonce)) 10) (start16 key (le c.toNat 4 ++ nonce))) ≠ [] := by
    intro h0
    have := outBytes_length (addw (dbls (start16 key (le c.toNat 4 ++ nonce)) 10) (start16 key (le c.toNat 4 ++ nonce)))
    rw [h0, hl3] at this; simp at this
  have hol : (outBytes (addw (dbls (start16 key (le c.toNat 4 ++ nonce)) 10) (start16 key (le c.toNat 4 ++ nonce)))).length = 64 := by simp
  simp only [own, ownH, ho, if_false, hol] at ebs
  generalize outBytes (addw (dbls (start16 key (le c.toNat 4 ++ nonce)) 10) (start16 key (le c.toNat 4 ++ nonce))) = OUT at *
  generalize addw (dbls (start16 key (le c.toNat 4 ++ nonce)) 10) (start16 key (le c.toNat 4 ++ nonce)) = S2 at *
  generalize dbls (start16 key (le c.toNat 4 ++ nonce)) 10 = S1 at *
  generalize start16 key (le c.toNat 4 ++ nonce) = S0 at *
  unfold aditref02_Block
  generalize aditref01_Bytes = c1 at eb ⊢
  generalize aditref02_First = c2 at ef ⊢
  generalize aditref02_bytes = c3 at ebs ⊢
  simp at eb ef hl1 hl2 ebs
  simp [eb, hn, hb.srcB, h4, lim, ef, hl1, hl2, ebs, Nat.add_assoc, List.take_of_length_le]
  done
end Go.Sx
