import Derived.Test.YtkhkbenihjngpaaCC
set_option linter.all false
namespace Go.Sx
open Go
theorem Block_ok (H : Heap) (key nonce : List UInt8) (c : UInt32) (hk : key.length = 32) (hn : nonce.length = 12) : chacha_Block [.agg (key.map u8), .agg (nonce.map u8), u32 c] H = some (.agg ((block key nonce c).map u8), H) := by
  have e1 := fun v H => Put32_ok v H
  have e2 := fun H => first_ok H key (le c.toNat 4 ++ nonce) hk (by simp [hn])
  have e3 := rounds_ok (H ++ [.rw (key.map u8), .rw (nonce.map u8), .rw (List.replicate 64 (u8 0)), .rw ((le c.toNat 4 ++ nonce).map u8), .rw ((le c.toNat 4).map u8)]) [.rw ((start16 key (le c.toNat 4 ++ nonce)).map u32)] (start16 key (le c.toNat 4 ++ nonce)) (by simp)
  have hcp1 := copy_sl (n := H.length) (H := H ++ [.rw (key.map u8), .rw (nonce.map u8), .rw (List.replicate 64 (u8 0)), .rw (List.replicate 16 (u8 0)), .rw ((le c.toNat 4).map u8)]) (b := H.length + 3) (o := 0) (len := 4) (cap := 16) (s := .sl (H.length + 4) 0 4 4 1) (m := 4) (vs := (le c.toNat 4).map u8) (c := List.replicate 16 (u8 0)) (by simp [List.take_of_length_le]) (by simp) (by simp) (by simp) (by omega) (by simp)
  have hcp2 := copy_sl (n := H.length) (H := H ++ [.rw (key.map u8), .rw (nonce.map u8), .rw (List.replicate 64 (u8 0)), .rw ((le c.toNat 4).map u8 ++ List.replicate 12 (u8 0)), .rw ((le c.toNat 4).map u8)]) (b := H.length + 3) (o := 4) (len := 12) (cap := 12) (s := .sl (H.length + 1) 0 12 12 1) (m := 12) (vs := nonce.map u8) (c := (le c.toNat 4).map u8 ++ List.replicate 12 (u8 0)) (by simp [hn, List.take_of_length_le]) (by simp) (by simp [hn]) (by simp) (by omega) (by simp)
  have hl := fun {p13 p17 : AV × Heap} {H14 H20 : Heap} h1 h2 h3 h4 => Block_loop (H ++ [.rw (key.map u8), .rw (nonce.map u8), .rw (List.replicate 64 (u8 0)), .rw ((le c.toNat 4 ++ nonce).map u8), .rw ((le c.toNat 4).map u8)]) (p13 := p13) (p17 := p17) (H14 := H14) (H20 := H20) h1 h2 h3 h4 (dbls (start16 key (le c.toNat 4 ++ nonce)) 10) (start16 key (le c.toNat 4 ++ nonce)) (by simp) (by simp)
  unfold block blockOf
  have hlen : (outBytes (addw (dbls (start16 key (le c.toNat 4 ++ nonce)) 10) (start16 key (le c.toNat 4 ++ nonce)))).length = 64 := by simp
  generalize outBytes (addw (dbls (start16 key (le c.toNat 4 ++ nonce)) 10) (start16 key (le c.toNat 4 ++ nonce))) = out at hl hlen ⊢
  have hl1 : (start16 key (le c.toNat 4 ++ nonce)).length = 16 := by simp
  have hl2 : (dbls (start16 key (le c.toNat 4 ++ nonce)) 10).length = 16 := by simp
  generalize (dbls (start16 key (le c.toNat 4 ++ nonce)) 10) = ss at e3 hl hl2 ⊢
  generalize hst : (start16 key (le c.toNat 4 ++ nonce)) = s0 at e2 e3 hl hl1 ⊢
  unfold chacha_Block
  generalize words_Put32 = c1 at e1 ⊢
  generalize chacha_first = c2 at e2 ⊢
  generalize chacha_state_rounds = c3 at e3 ⊢
  have t1 : ((le c.toNat 4).map u8 ++ List.replicate 12 (u8 0)).take 4 = (le c.toNat 4).map u8 := List.take_left' (by simp)
  have t2 : ((le c.toNat 4).map u8 ++ List.replicate 12 (u8 0)).drop 16 = [] := List.drop_of_length_le (by simp)
  simp [-List.reduceReplicate, hn, List.take_of_length_le] at hcp1 hcp2 e2 e3 hl
  simp only [t1, t2] at hcp2
  simp [-List.reduceReplicate] at hcp2
  simp [-List.reduceReplicate, e1, e2, e3, hk, hn, piece_some, Nat.add_assoc, hcp1, hcp2, hl1, hl2, hl, hlen, List.take_of_length_le]
def xorS (key nonce : List UInt8) (c : UInt32) (b : List UInt8) : List UInt8 :=
  b.mapIdx fun i x => x ^^^ (block key nonce (c + UInt32.ofNat (i / 64))).getD (i % 64) 0
@[simp] theorem xorS_length (key nonce : List UInt8) (c : UInt32) (b : List UInt8) : (xorS key nonce c b).length = b.length := by simp [xorS]
theorem xorS_get (key nonce : List UInt8) (c : UInt32) (b : List UInt8) {i : Nat} (h : i < b.length) : (xorS key nonce c b)[i]? = some (b[i] ^^^ (block key nonce (c + UInt32.ofNat (i / 64))).getD (i % 64) 0) := by
  simp [xorS, h]
theorem Xor_inner (H : Heap) {b : AV} {l : List UInt8} (hs : IsSl u8 H b l) (hl : l.length ≤ 65536) (B1 B2 : Blk) (X : List UInt8) (K : List UInt8) (hX : X.length = l.length) (hK : K.length = 64) (j : Nat) (hj : 64 * j < l.length)
    (hXK : ∀ k, k < 64 → (h : 64 * j + k < l.length) → X[64 * j + k]? = some (l[64 * j + k] ^^^ K.getD k 0)) (v a0 a1 a2 : AV) {p32 p22 : AV × Heap} {H33 : Heap} (h1 : p32.2.length = H.length + 3) (h2 : p22.1 = .sl (H.length + 2) 0 l.length l.length 1) (h3 : H33.length = H.length + 4) :
    loopD (fun vs H' => (chacha_Xor_l2 [v, i64 (64 * j : Nat)] [a0, a1, a2, b] p32 p22 H33 vs H').bd (roundEnd (H.length + 4))) [i64 (64 * j : Nat)] (H ++ [B1, B2, .rw ((fillAt X (List.replicate l.length 0) (64 * j)).map u8), .rw (K.map u8)]) =
      some (.exit 2, [i64 (min (64 * j + 64) l.length : Nat)], H ++ [B1, B2, .rw ((fillAt X (List.replicate l.length 0) (min (64 * j + 64) l.length)).map u8), .rw (K.map u8)]) := by
  have hn : min (64 * j + 64) l.length = 64 * j + min 64 (l.length - 64 * j) := by omega
  rw [hn]
  have a64 := bin_add_i64 (a := (64 * j : Nat)) (b := 64) (by omega) (by omega)
  have hmin : (if (l.length : Int) < ((64 * j : Nat) : Int) + 64 then (l.length : Int) else ((64 * j : Nat) : Int) + 64) = ((64 * j + min 64 (l.length - 64 * j) : Nat) : Int) := by
    split <;> omega
  refine loopD_count (st := fun k => ([i64 (64 * j + k : Nat)], H ++ [B1, B2, .rw ((fillAt X (List.replicate l.length 0) (64 * j + k)).map u8), .rw (K.map u8)])) (min 64 (l.length - 64 * j)) ?_ ?_
  · intro k hk
    have hi : 64 * j + k < l.length := by omega
    have hx := hXK k (by omega) hi
    have hf := fillAt_set (M := List.replicate l.length 0) (by simp [hX]) (by omega) hx
    have hF : (fillAt X (List.replicate l.length 0) (64 * j + k)).length = l.length := by rw [fillAt_length (by simp [hX]) (by omega)]; exact hX
    have a1 := add1 (64 * j + k) 65537 (by omega) (by omega)
    have as := bin_sub_i64 (a := (64 * j + k : Nat)) (b := (64 * j : Nat)) (by omega) (by omega)
    have hsub : ((64 * j + k : Nat) : Int) - ((64 * j : Nat) : Int) = (k : Int) := by omega
    rw [hsub] at as
    have hKk : K[k]? = some (K.getD k 0) := by rw [List.getD_eq_getElem?_getD, List.getElem?_eq_getElem (by omega)]; rfl
    have hlt : (((64 * j + k : Nat) : Int) < ((64 * j + min 64 (l.length - 64 * j) : Nat) : Int)) := by omega
    have hidx := idxS_nat (sz := 1) (b := H.length + 2) (o := 0) (len := l.length) (cap := l.length) (i := 64 * j + k) hi
    have i0 := hs.idx hi
    have l0 := hs.ldB [B1, B2, .rw ((fillAt X (List.replicate l.length 0) (64 * j + k)).map u8), .rw (K.map u8)] hi
    unfold chacha_Xor_l2
    generalize K.getD k 0 = kk at *
    generalize hx2 : l[64 * j + k] = x at *
    rw [show 64 * j + (k + 1) = 64 * j + k + 1 by omega]
    generalize fillAt X (List.replicate l.length 0) (64 * j + k) = F at *
    generalize fillAt X (List.replicate l.length 0) (64 * j + k + 1) = F' at *
    rw [← hf]
    simp [-Int.natCast_add, -Int.natCast_mul, h1, h2, h3, hs.len, a64, hmin, a1, as, hlt, hKk, hidx, i0, l0, hF, show ((k : Int) < 64) by omega, show 64 * j + k + 1 ≤ l.length by omega]
  · unfold chacha_Xor_l2
    simp [-Int.natCast_add, -Int.natCast_mul, h1, h2, h3, hs.len, a64, hmin]
theorem Xor_long (H : Heap) {b : AV} {l key nonce : List UInt8} (hs : IsSl u8 H b l) (hl : l.length < 4611686018427387904) (c : UInt32) (h : l.length > 65536 ∨ c.toNat + (l.length + 63) / 64 > 4294967296) : chacha_Xor [.agg (key.map u8), .agg (nonce.map u8), u32 c, b] H = some (.tup [.nsl, i64 2], H) := by
  have a63 := bin_add_i64 (a := l.length) (b := 63) (by omega) (by omega)
  have c64 : AV.conv .u64 (i64 ((l.length : Int) + 63)) = some (u64 (UInt64.ofNat (l.length + 63))) := conv_u64_i64 (l.length + 63)
  have q64 : AV.bin .quo (u64 (UInt64.ofNat (l.length + 63))) (u64 64) = some (u64 (UInt64.ofNat (l.length + 63) / 64)) := bin_quo_u64 _ _ (by decide)
  have hc := c.toNat_lt
  simp at c64 q64
  unfold chacha_Xor
  by_cases h0 : l.length > 65536
  · have h0' : (65536 : Int) < l.length := by omega
    simp [hs.len, a63, c64, q64, h0']
  · have h1 : ¬ ((65536 : Int) < l.length) := by omega
    have h2 : c.toUInt64 + UInt64.ofNat (l.length + 63) / 64 > 4294967296 := by
      rw [gt_iff_lt, UInt64.lt_iff_toNat_lt, UInt64.toNat_add, UInt64.toNat_div, UInt64.toNat_ofNat', UInt32.toNat_toUInt64]
      show 4294967296 < (c.toNat + (l.length + 63) % 2 ^ 64 / 64) % 2 ^ 64
      omega
    simp at h2
    simp [hs.len, a63, c64, q64, h1, h2]
theorem Xor_ok (H : Heap) {b : AV} {l key nonce : List UInt8} (hs : IsSl u8 H b l) (hk : key.length = 32) (hn : nonce.length = 12) (c : UInt32) (hl : l.length ≤ 65536) (hc : c.toNat + (l.length + 63) / 64 ≤ 4294967296) :
    chacha_Xor [.agg (key.map u8), .agg (nonce.map u8), u32 c, b] H = some (.tup [.sl H.length 0 l.length l.length 1, i64 0], H ++ [.rw ((xorS key nonce c l).map u8)]) := by
  have a63 := bin_add_i64 (a := l.length) (b := 63) (by omega) (by omega)
  have c64 : AV.conv .u64 (i64 ((l.length : Int) + 63)) = some (u64 (UInt64.ofNat (l.length + 63))) := conv_u64_i64 (l.length + 63)
  have q64 : AV.bin .quo (u64 (UInt64.ofNat (l.length + 63))) (u64 64) = some (u64 (UInt64.ofNat (l.length + 63) / 64)) := bin_quo_u64 _ _ (by decide)
  have hc0 := c.toNat_lt
  have h1 : ¬ ((65536 : Int) < l.length) := by omega
  have h2 : ¬ (c.toUInt64 + UInt64.ofNat (l.length + 63) / 64 > 4294967296) := by
    rw [gt_iff_lt, UInt64.lt_iff_toNat_lt, UInt64.toNat_add, UInt64.toNat_div, UInt64.toNat_ofNat', UInt32.toNat_toUInt64]
    show ¬ (4294967296 < (c.toNat + (l.length + 63) % 2 ^ 64 / 64) % 2 ^ 64)
    omega
  have hX := xorS_length key nonce c l
  have hloop : ∀ {p1 p2 p22 : AV × Heap}, p1.1 = .ptr H.length 0 → p2.1 = .ptr (H.length + 1) 0 → p22.1 = .sl (H.length + 2) 0 l.length l.length 1 → p22.2.length = H.length + 3 →
      loopD (fun vs H' => (chacha_Xor_l1 [.agg (key.map u8), .agg (nonce.map u8), u32 c, b] p1 p2 p22 vs H').bd (roundEnd (H.length + 3))) [u32 c, i64 0] (H ++ [.rw (key.map u8), .rw (nonce.map u8), .rw (List.replicate l.length (u8 0))]) =
        some (.exit 0, [u32 (c + UInt32.ofNat ((l.length + 63) / 64)), i64 (64 * ((l.length + 63) / 64) : Nat)], H ++ [.rw (key.map u8), .rw (nonce.map u8), .rw ((xorS key nonce c l).map u8)]) := by
    intro p1 p2 p22 g1 g2 g3 g4
    have e0 : List.replicate l.length (u8 0) = (fillAt (xorS key nonce c l) (List.replicate l.length 0) (min (64 * 0) l.length)).map u8 := by rw [Nat.mul_zero, Nat.zero_min, fillAt_zero]; simp
    have e8 : xorS key nonce c l = fillAt (xorS key nonce c l) (List.replicate l.length 0) (min (64 * ((l.length + 63) / 64)) l.length) := by
      rw [fillAt_all (by rw [hX]; omega) (by simp)]
    rw [e0]
    have hz : c + UInt32.ofNat 0 = c := by simp
    refine Eq.trans (b := loopD (fun vs H' => (chacha_Xor_l1 [.agg (key.map u8), .agg (nonce.map u8), u32 c, b] p1 p2 p22 vs H').bd (roundEnd (H.length + 3))) [u32 (c + UInt32.ofNat 0), i64 (64 * 0 : Nat)] (H ++ [.rw (key.map u8), .rw (nonce.map u8), .rw ((fillAt (xorS key nonce c l) (List.replicate l.length 0) (min (64 * 0) l.length)).map u8)])) (by rw [hz]; rfl) ?_
    refine (loopD_count (st := fun j => ([u32 (c + UInt32.ofNat j), i64 (64 * j : Nat)], H ++ [.rw (key.map u8), .rw (nonce.map u8), .rw ((fillAt (xorS key nonce c l) (List.replicate l.length 0) (min (64 * j) l.length)).map u8)])) ((l.length + 63) / 64) (r := (.exit 0, [u32 (c + UInt32.ofNat ((l.length + 63) / 64)), i64 (64 * ((l.length + 63) / 64) : Nat)], H ++ [.rw (key.map u8), .rw (nonce.map u8), .rw ((fillAt (xorS key nonce c l) (List.replicate l.length 0) (min (64 * ((l.length + 63) / 64)) l.length)).map u8)])) ?_ ?_).trans (by rw [← e8])
    · intro j hj
      have hj' : 64 * j < l.length := by omega
      have eb := fun H => Block_ok H key nonce (c + UInt32.ofNat j) hk hn
      have hin := fun (p32 : AV × Heap) (H33 : Heap) => Xor_inner (p32 := p32) (H33 := H33) H hs hl (.rw (key.map u8)) (.rw (nonce.map u8)) (xorS key nonce c l) (block key nonce (c + UInt32.ofNat j)) hX (by simp) j hj' (fun k hk h => by
        rw [xorS_get _ _ _ _ h, show (64 * j + k) / 64 = j by omega, show (64 * j + k) % 64 = k by omega]) (u32 (c + UInt32.ofNat j)) (.agg (key.map u8)) (.agg (nonce.map u8)) (u32 c) (p22 := p22)
      have a64 := bin_add_i64 (a := (64 * j : Nat)) (b := 64) (by omega) (by omega)
      rw [show min (64 * j) l.length = 64 * j by omega, show 64 * (j + 1) = 64 * j + 64 by omega]
      have hcc : c + UInt32.ofNat (j + 1) = c + UInt32.ofNat j + 1 := by rw [UInt32.ofNat_add, ← UInt32.add_assoc]; rfl
      rw [hcc]
      have hbl : (block key nonce (c + UInt32.ofNat j)).length = 64 := by simp
      generalize block key nonce (c + UInt32.ofNat j) = K at *
      generalize c + UInt32.ofNat j = cc at *
      have hlt : ((64 * j : Nat) : Int) < l.length := by omega
      unfold chacha_Xor_l1
      generalize chacha_Block = c1 at eb ⊢
      generalize fillAt (xorS key nonce c l) (List.replicate l.length 0) (64 * j) = F at *
      generalize fillAt (xorS key nonce c l) (List.replicate l.length 0) (min (64 * j + 64) l.length) = F' at *
      have h64 : ((64 * j + 64 : Nat) : Int) = ((64 * j : Nat) : Int) + 64 := by omega
      rw [h64]
      simp [-List.reduceReplicate, -Int.natCast_add, -Int.natCast_mul, g1, g2, g4, hs.len, hlt, hk, hn, eb, piece_some, List.take_of_length_le, hbl]
      rw [hin _ _ (by simp) g3 (by simp)]
      simp [-Int.natCast_add, -Int.natCast_mul, a64]
    · unfold chacha_Xor_l1
      have hlt : ¬ (((64 * ((l.length + 63) / 64) : Nat) : Int) < l.length) := by omega
      simp [-Int.natCast_add, -Int.natCast_mul, -Int.natCast_ediv, hs.len, hlt]
  unfold chacha_Xor
  simp at c64 q64 h2
  have hcap : (l.length : Int) ≤ 281474976710656 := by omega
  have h3 := UInt64.not_lt.2 h2
  simp [-List.reduceReplicate, hs.len, a63, c64, q64, h1, h3, hcap, Nat.add_assoc]
  rw [hloop rfl rfl (by simp [Nat.add_assoc]) (by simp [Nat.add_assoc])]
  simp [Nat.add_assoc]
end Go.Sx
