import Derived.Test.YtkhkbenihjngpaaRB
import Derived.Test.YtkhkbenihjngpaaShChacha
set_option linter.all false
namespace Go.Sx
open Go
def gw (s : List UInt32) (i : Nat) : UInt32 := s.getD i 0
def mix4 (w x y z : UInt32) : UInt32 × UInt32 × UInt32 × UInt32 :=
  let w := w + x
  let z := rotl (z ^^^ w) 16
  let y := y + z
  let x := rotl (x ^^^ y) 12
  let w := w + x
  let z := rotl (z ^^^ w) 8
  let y := y + z
  let x := rotl (x ^^^ y) 7
  (w, x, y, z)
def qr (s : List UInt32) (a b c d : Nat) : List UInt32 :=
  let m := mix4 (gw s a) (gw s b) (gw s c) (gw s d)
  (((s.set a m.1).set b m.2.1).set c m.2.2.1).set d m.2.2.2
def cols (s : List UInt32) : Nat → List UInt32
  | 0 => s
  | i + 1 => qr (cols s i) i (i + 4) (i + 8) (i + 12)
def diags (s : List UInt32) : Nat → List UInt32
  | 0 => s
  | i + 1 => qr (diags s i) i (4 + (i + 1) % 4) (8 + (i + 2) % 4) (12 + (i + 3) % 4)
def dbl (s : List UInt32) : List UInt32 := diags (cols s 4) 4
def dbls (s : List UInt32) : Nat → List UInt32
  | 0 => s
  | i + 1 => dbl (dbls s i)
@[simp] theorem qr_length (s : List UInt32) (a b c d : Nat) : (qr s a b c d).length = s.length := by simp [qr]
@[simp] theorem cols_length (s : List UInt32) (n : Nat) : (cols s n).length = s.length := by induction n <;> simp_all [cols]
@[simp] theorem diags_length (s : List UInt32) (n : Nat) : (diags s n).length = s.length := by induction n <;> simp_all [diags]
@[simp] theorem dbl_length (s : List UInt32) : (dbl s).length = s.length := by simp [dbl]
@[simp] theorem dbls_length (s : List UInt32) (n : Nat) : (dbls s n).length = s.length := by induction n <;> simp_all [dbls]
theorem gw_get {s : List UInt32} {i : Nat} (h : i < s.length) : s[i]? = some (gw s i) := by
  rw [gw, List.getD_eq_getElem?_getD, List.getElem?_eq_getElem h]; rfl
theorem map_set_u32 (s : List UInt32) (i : Nat) (x : UInt32) : (s.map u32).set i (u32 x) = (s.set i x).map u32 := List.map_set.symm
theorem Rot16 (v : UInt32) (H : Heap) : words_Rotate [u32 v, i64 16] H = some (u32 (rotl v 16), H) := Rotate_ok v 16 H
theorem Rot12 (v : UInt32) (H : Heap) : words_Rotate [u32 v, i64 12] H = some (u32 (rotl v 12), H) := Rotate_ok v 12 H
theorem Rot8 (v : UInt32) (H : Heap) : words_Rotate [u32 v, i64 8] H = some (u32 (rotl v 8), H) := Rotate_ok v 8 H
theorem Rot7 (v : UInt32) (H : Heap) : words_Rotate [u32 v, i64 7] H = some (u32 (rotl v 7), H) := Rotate_ok v 7 H
@[simp] theorem idxP_i64n (len sz b o i : Nat) : AV.idxP len sz (.ptr b o) (i64 (i : Int)) = if i < len then some (.ptr b (o + i * sz)) else none := by
  simp
theorem quarter_ok (A B : Heap) (s : List UInt32) (hs : s.length = 16) {a b c d : Nat} (ha : a < 16) (hb : b < 16) (hc : c < 16) (hd : d < 16) :
    chacha_state_quarter [.ptr A.length 0, i64 (a : Int), i64 (b : Int), i64 (c : Int), i64 (d : Int)] (A ++ .rw (s.map u32) :: B) = some (.tup [], A ++ .rw ((qr s a b c d).map u32) :: B) := by
  have e1 := Rot16; have e2 := Rot12; have e3 := Rot8; have e4 := Rot7
  have ga := gw_get (s := s) (i := a) (by omega)
  have gb := gw_get (s := s) (i := b) (by omega)
  have gc := gw_get (s := s) (i := c) (by omega)
  have gd := gw_get (s := s) (i := d) (by omega)
  unfold chacha_state_quarter
  generalize words_Rotate = r at e1 e2 e3 e4 ⊢
  unfold qr mix4
  generalize gw s a = wa at ga ⊢
  generalize gw s b = wb at gb ⊢
  generalize gw s c = wc at gc ⊢
  generalize gw s d = wd at gd ⊢
  simp only [List.getD_cons_zero, List.getD_cons_succ, nilck_ptr, Option.bd_some, idxP_i64n, ha, hb, hc, hd, if_true, Nat.zero_add, Nat.mul_one, ld_hi, Nat.le_refl, Nat.sub_self, ld_hit, piece_none, List.getElem?_map, ga, gb, gc, gd, Option.map_some, bin_add_u32, bin_xor_u32, e1, e2, e3, e4]
  simp [hs, show a ≤ 15 by omega, show b ≤ 15 by omega, show c ≤ 15 by omega, show d ≤ 15 by omega, List.take_of_length_le]
theorem loop_cols (A B : Heap) (s : List UInt32) (hs : s.length = 16) : loopD (fun vs H' => (chacha_state_rounds_l2 [.ptr A.length 0] (A ++ .rw (s.map u32) :: B) vs H').bd (roundEnd (A ++ .rw (s.map u32) :: B).length)) [i64 0] (A ++ .rw (s.map u32) :: B) = some (.exit 2, [i64 4], A ++ .rw ((cols s 4).map u32) :: B) := by
  refine loopD_count (st := fun i => ([i64 (i : Int)], A ++ .rw ((cols s i).map u32) :: B)) 4 ?_ ?_
  · intro i hi
    have hq := quarter_ok A B (cols s i) (by simp [hs]) (a := i) (b := i + 4) (c := i + 8) (d := i + 12) (by omega) (by omega) (by omega) (by omega)
    have a4 := bin_add_i64 (a := i) (b := 4) (by omega) (by omega)
    have a8 := bin_add_i64 (a := i) (b := 8) (by omega) (by omega)
    have a12 := bin_add_i64 (a := i) (b := 12) (by omega) (by omega)
    have a1 := add1 i 4 hi (by omega)
    unfold chacha_state_rounds_l2
    generalize chacha_state_quarter = c1 at hq ⊢
    simp at hq
    simp [show ((i : Int) < 4) by omega, a4, a8, a12, a1, hq, cols, List.take_of_length_le]
  · unfold chacha_state_rounds_l2
    simp
theorem loop_diags (A B : Heap) (s : List UInt32) (hs : s.length = 16) : loopD (fun vs H' => (chacha_state_rounds_l3 [.ptr A.length 0] (A ++ .rw (s.map u32) :: B) vs H').bd (roundEnd (A ++ .rw (s.map u32) :: B).length)) [i64 0] (A ++ .rw (s.map u32) :: B) = some (.exit 4, [i64 4], A ++ .rw ((diags s 4).map u32) :: B) := by
  refine loopD_count (st := fun i => ([i64 (i : Int)], A ++ .rw ((diags s i).map u32) :: B)) 4 ?_ ?_
  · intro i hi
    have hq := quarter_ok A B (diags s i) (by simp [hs]) (a := i) (b := 4 + (i + 1) % 4) (c := 8 + (i + 2) % 4) (d := 12 + (i + 3) % 4) (by omega) (by omega) (by omega) (by omega)
    have h : i = 0 ∨ i = 1 ∨ i = 2 ∨ i = 3 := by omega
    unfold chacha_state_rounds_l3
    generalize chacha_state_quarter = c1 at hq ⊢
    have arem : ∀ n : Nat, AV.bin .rem (i64 (n : Int)) (i64 4) = some (i64 ((n % 4 : Nat) : Int)) := fun n => by
      simp only [AV.bin, intBin, ne_eq, not_true_eq_false, if_false]
      rw [if_neg (by decide)]; rfl
    have r1 := arem 1; have r2 := arem 2; have r3 := arem 3; have r4 := arem 4; have r5 := arem 5; have r6 := arem 6
    simp at r1 r2 r3 r4 r5 r6
    have ad : ∀ a b : Int, 0 ≤ a → a < 1000 → 0 ≤ b → b < 1000 → AV.bin .add (i64 a) (i64 b) = some (i64 (a + b)) := fun a b h1 h2 h3 h4 => bin_add_i64 (by omega) (by omega)
    rcases h with rfl | rfl | rfl | rfl <;> simp [diags] at hq <;> simp [r1, r2, r3, r4, r5, r6, ad, hq, diags, List.take_of_length_le]
  · unfold chacha_state_rounds_l3
    simp
theorem rounds_ok (A B : Heap) (s : List UInt32) (hs : s.length = 16) : chacha_state_rounds [.ptr A.length 0] (A ++ .rw (s.map u32) :: B) = some (.tup [], A ++ .rw ((dbls s 10).map u32) :: B) := by
  have hl : loopD (fun vs H' => (chacha_state_rounds_l1 [.ptr A.length 0] (A ++ .rw (s.map u32) :: B) vs H').bd (roundEnd (A ++ .rw (s.map u32) :: B).length)) [i64 0] (A ++ .rw (s.map u32) :: B) = some (.exit 0, [i64 10], A ++ .rw ((dbls s 10).map u32) :: B) := by
    refine loopD_count (st := fun i => ([i64 (i : Int)], A ++ .rw ((dbls s i).map u32) :: B)) 10 ?_ ?_
    · intro i hi
      have h1 := loop_cols A B (dbls s i) (by simp [hs])
      have h2 := loop_diags A B (cols (dbls s i) 4) (by simp [hs])
      have a1 := add1 i 10 hi (by omega)
      unfold chacha_state_rounds_l1
      simp at h1 h2
      simp [show ((i : Int) < 10) by omega, h1, h2, a1, dbls, dbl, List.take_of_length_le]
    · unfold chacha_state_rounds_l1
      simp
  unfold chacha_state_rounds
  simp at hl
  simp [hl, List.take_of_length_le]
def w32 (l : List UInt8) (i : Nat) : UInt32 := UInt32.ofNat (val ((l.drop (4 * i)).take 4))
def words32 (l : List UInt8) (n : Nat) : List UInt32 := (List.range n).map (w32 l)
def sigma : List UInt32 := [1634760805, 857760878, 2036477234, 1797285236]
def start16 (key rest : List UInt8) : List UInt32 := sigma ++ words32 key 8 ++ words32 rest 4
@[simp] theorem words32_length (l : List UInt8) (n : Nat) : (words32 l n).length = n := by simp [words32]
@[simp] theorem start16_length (key rest : List UInt8) : (start16 key rest).length = 16 := by simp [start16, sigma]
theorem words32_get (l : List UInt8) {n i : Nat} (h : i < n) : (words32 l n)[i]? = some (w32 l i) := by simp [words32, h]
theorem fill_tail {α : Type} {L M B : List α} {x : α} {i : Nat} (h : L.length = M.length) (hi : i < L.length) (hx : L[i]? = some x) : (fillAt L M i ++ B).set i x = fillAt L M (i + 1) ++ B := by
  have hl := fillAt_length h (Nat.le_of_lt hi)
  rw [List.set_append_left _ _ (by omega), fillAt_set h hi hx]
theorem first_ok (H : Heap) (key rest : List UInt8) (hk : key.length = 32) (hr : rest.length = 16) : chacha_first [.agg (key.map u8), .agg (rest.map u8)] H = some (.agg ((start16 key rest).map u32), H) := by
  have hload := fun (T : Heap) (i : Nat) (hi : i < 8) => Load32_ok (H := H ++ .rw (key.map u8) :: T) (b := .sl H.length 0 32 32 1) (l := key) (.whole (by simp) hk.symm (by omega)) (at_ := 4 * i) (by omega) (by omega)
  have hload2 := fun (T : Heap) (i : Nat) (hi : i < 4) => Load32_ok (H := H ++ .rw (key.map u8) :: .rw (rest.map u8) :: T) (b := .sl (H.length + 1) 0 16 16 1) (l := rest) (.whole (by simp) hr.symm (by omega)) (at_ := 4 * i) (by omega) (by omega)
  have hsg : (sigma.map u32).length = 4 := rfl
  have hsg' : sigma.length = 4 := rfl
  have hl1 : loopD (fun vs H' => (chacha_first_l1 (.ptr H.length 0, H ++ [.rw (key.map u8)]) (.ptr (H.length + 1) 0, H ++ [.rw (key.map u8), .rw (rest.map u8)]) (H ++ [.rw (key.map u8), .rw (rest.map u8), .rw (List.replicate 16 (u32 0)), .rw (sigma.map u32 ++ List.replicate 12 (u32 0))]) vs H').bd (roundEnd (H.length + 4))) [i64 0] (H ++ [.rw (key.map u8), .rw (rest.map u8), .rw (List.replicate 16 (u32 0)), .rw (sigma.map u32 ++ List.replicate 12 (u32 0))]) = some (.exit 0, [i64 8], H ++ [.rw (key.map u8), .rw (rest.map u8), .rw (List.replicate 16 (u32 0)), .rw (sigma.map u32 ++ ((words32 key 8).map u32 ++ List.replicate 4 (u32 0)))]) := by
    have e0 : List.replicate 12 (u32 0) = fillAt ((words32 key 8).map u32) (List.replicate 8 (u32 0)) 0 ++ List.replicate 4 (u32 0) := by rw [fillAt_zero]; rfl
    have e8 : (words32 key 8).map u32 ++ List.replicate 4 (u32 0) = fillAt ((words32 key 8).map u32) (List.replicate 8 (u32 0)) 8 ++ List.replicate 4 (u32 0) := by rw [fillAt_all (by simp) (by simp)]
    rw [e0, e8]
    refine loopD_count (st := fun i => ([i64 (i : Int)], H ++ [.rw (key.map u8), .rw (rest.map u8), .rw (List.replicate 16 (u32 0)), .rw (sigma.map u32 ++ (fillAt ((words32 key 8).map u32) (List.replicate 8 (u32 0)) i ++ List.replicate 4 (u32 0)))])) 8 ?_ ?_
    · intro i hi
      have h0 := hload [.rw (rest.map u8), .rw (List.replicate 16 (u32 0)), .rw (sigma.map u32 ++ (fillAt ((words32 key 8).map u32) (List.replicate 8 (u32 0)) i ++ List.replicate 4 (u32 0)))] i hi
      have a4 := bin_add_i64 (a := 4) (b := i) (by omega) (by omega)
      have m4 := bin_mul_i64 (a := 4) (b := i) (by omega) (by omega)
      have a1 := add1 i 8 hi (by omega)
      have hx : ((words32 key 8).map u32)[i]? = some (u32 (w32 key i)) := by rw [List.getElem?_map, words32_get _ hi]; rfl
      have hf := fill_tail (B := List.replicate 4 (u32 0)) (M := List.replicate 8 (u32 0)) (by simp) (by simp [hi]) hx
      have hlen : (fillAt ((words32 key 8).map u32) (List.replicate 8 (u32 0)) i).length = 8 := by rw [fillAt_length (by simp) (by simp; omega)]; simp
      unfold chacha_first_l1
      generalize words_Load32 = c1 at h0 ⊢
      unfold w32 at hf
      have hp := idxP_nat (len := 16) (sz := 1) (b := H.length + 3) (o := 0) (i := 4 + i) (by omega)
      generalize sigma.map u32 = S at *
      generalize fillAt ((words32 key 8).map u32) (List.replicate 8 (u32 0)) i = F at *
      generalize fillAt ((words32 key 8).map u32) (List.replicate 8 (u32 0)) (i + 1) = F' at *
      generalize List.replicate 4 (u32 0) = Z at *
      generalize List.replicate 16 (u32 0) = Z2 at *
      simp at h0 hp
      simp [show ((i : Int) < 8) by omega, a4, m4, a1, h0, hp, hlen, hsg, hf, show 4 + i + 1 ≤ 4 + (8 + Z.length) by omega]
    · unfold chacha_first_l1
      simp
  have hl2 : loopD (fun vs H' => (chacha_first_l2 (.ptr (H.length + 1) 0, H ++ [.rw (key.map u8), .rw (rest.map u8)]) (H ++ [.rw (key.map u8), .rw (rest.map u8), .rw (List.replicate 16 (u32 0)), .rw (sigma.map u32 ++ ((words32 key 8).map u32 ++ List.replicate 4 (u32 0)))]) vs H').bd (roundEnd (H.length + 4))) [i64 0] (H ++ [.rw (key.map u8), .rw (rest.map u8), .rw (List.replicate 16 (u32 0)), .rw (sigma.map u32 ++ ((words32 key 8).map u32 ++ List.replicate 4 (u32 0)))]) = some (.exit 2, [i64 4], H ++ [.rw (key.map u8), .rw (rest.map u8), .rw (List.replicate 16 (u32 0)), .rw (sigma.map u32 ++ ((words32 key 8).map u32 ++ (words32 rest 4).map u32))]) := by
    have e0 : List.replicate 4 (u32 0) = fillAt ((words32 rest 4).map u32) (List.replicate 4 (u32 0)) 0 := by rw [fillAt_zero]
    have e8 : (words32 rest 4).map u32 = fillAt ((words32 rest 4).map u32) (List.replicate 4 (u32 0)) 4 := by rw [fillAt_all (by simp) (by simp)]
    refine (loopD_count (st := fun i => ([i64 (i : Int)], H ++ [.rw (key.map u8), .rw (rest.map u8), .rw (List.replicate 16 (u32 0)), .rw (sigma.map u32 ++ ((words32 key 8).map u32 ++ fillAt ((words32 rest 4).map u32) (List.replicate 4 (u32 0)) i))])) 4 (r := (.exit 2, [i64 4], H ++ [.rw (key.map u8), .rw (rest.map u8), .rw (List.replicate 16 (u32 0)), .rw (sigma.map u32 ++ ((words32 key 8).map u32 ++ fillAt ((words32 rest 4).map u32) (List.replicate 4 (u32 0)) 4))])) ?_ ?_).trans (by rw [← e8])
    · intro i hi
      have h0 := hload2 [.rw (List.replicate 16 (u32 0)), .rw (sigma.map u32 ++ ((words32 key 8).map u32 ++ fillAt ((words32 rest 4).map u32) (List.replicate 4 (u32 0)) i))] i hi
      have a4 := bin_add_i64 (a := 12) (b := i) (by omega) (by omega)
      have m4 := bin_mul_i64 (a := 4) (b := i) (by omega) (by omega)
      have a1 := add1 i 4 hi (by omega)
      have hx : ((words32 rest 4).map u32)[i]? = some (u32 (w32 rest i)) := by rw [List.getElem?_map, words32_get _ hi]; rfl
      have hf := fillAt_set (M := List.replicate 4 (u32 0)) (by simp) (by simp [hi]) hx
      have hlen : (fillAt ((words32 rest 4).map u32) (List.replicate 4 (u32 0)) i).length = 4 := by rw [fillAt_length (by simp) (by simp; omega)]; simp
      have hW : ((words32 key 8).map u32).length = 8 := by simp
      unfold chacha_first_l2
      generalize words_Load32 = c1 at h0 ⊢
      unfold w32 at hf
      have hp := idxP_nat (len := 16) (sz := 1) (b := H.length + 3) (o := 0) (i := 12 + i) (by omega)
      generalize sigma.map u32 = S at *
      generalize (words32 key 8).map u32 = W at *
      generalize fillAt ((words32 rest 4).map u32) (List.replicate 4 (u32 0)) i = F at *
      generalize fillAt ((words32 rest 4).map u32) (List.replicate 4 (u32 0)) (i + 1) = F' at *
      generalize List.replicate 16 (u32 0) = Z2 at *
      simp at h0 hp
      have hf2 : ∀ x, (S ++ (W ++ F)).set (12 + i) x = S ++ (W ++ F.set i x) := fun x => by
        rw [set_app (i := 8 + i) _ _ _ (by omega), set_app (i := i) _ _ _ (by omega)]
      simp [show ((i : Int) < 4) by omega, a4, m4, a1, h0, hp, hlen, hsg, hW, show 12 + i ≤ 15 by omega, hf2, hf]
    · unfold chacha_first_l2
      simp
  unfold chacha_first
  try simp [-List.reduceReplicate] at hl1 hl2
  have hfill : fillA (List.replicate 16 (u32 0)) [(0, 1, u32 1634760805), (1, 1, u32 857760878), (2, 1, u32 2036477234), (3, 1, u32 1797285236)] = some (sigma.map u32 ++ List.replicate 12 (u32 0)) := rfl
  unfold start16
  generalize sigma = S at *
  simp [-List.reduceReplicate, -fillA_cons, hfill, hsg', Nat.add_assoc, hl1, hl2, piece_some, List.take_of_length_le]
def outBytes (l : List UInt32) : List UInt8 := (l.map fun v => le v.toNat 4).flatten
def addw (a b : List UInt32) : List UInt32 := List.zipWith (· + ·) a b
def blockOf (s : List UInt32) : List UInt8 := outBytes (addw (dbls s 10) s)
def block (key nonce : List UInt8) (c : UInt32) : List UInt8 := blockOf (start16 key (le c.toNat 4 ++ nonce))
@[simp] theorem outBytes_length (l : List UInt32) : (outBytes l).length = 4 * l.length := flatten_length (fun v => le_length _ _) l
@[simp] theorem addw_length (a b : List UInt32) : (addw a b).length = min a.length b.length := by simp [addw]
theorem addw_get {a b : List UInt32} {i : Nat} (ha : i < a.length) (hb : i < b.length) : (addw a b)[i]? = some (gw a i + gw b i) := by
  simp [addw, List.getElem?_zipWith, gw_get ha, gw_get hb]
@[simp] theorem blockOf_length (s : List UInt32) (h : s.length = 16) : (blockOf s).length = 64 := by simp [blockOf, h]
@[simp] theorem block_length (key nonce : List UInt8) (c : UInt32) : (block key nonce c).length = 64 := by simp [block]
theorem outBytes_piece (l : List UInt32) {i : Nat} {x : UInt32} (h : l[i]? = some x) : ((outBytes l).drop (4 * i)).take 4 = le x.toNat 4 := flatten_piece (fun v => le_length _ _) l i x h
theorem map_u8_take (l : List UInt8) (n : Nat) : (l.map u8).take n = (l.take n).map u8 := List.map_take.symm
theorem map_u8_drop (l : List UInt8) (n : Nat) : (l.map u8).drop n = (l.drop n).map u8 := List.map_drop.symm
theorem fillAt_map {α β : Type} (f : α → β) (L M : List α) (i : Nat) : fillAt (L.map f) (M.map f) i = (fillAt L M i).map f := by simp [fillAt]
theorem Block_loop (A : Heap) {p13 p17 : AV × Heap} {H14 H20 : Heap} (h1 : p13.2.length = A.length) (h2 : H14.length = A.length + 1) (h3 : p17.2.length = A.length + 2) (h4 : H20.length = A.length + 3) (ss s0 : List UInt32) (hs : ss.length = 16) (h0 : s0.length = 16) :
    loopD (fun vs H' => (chacha_Block_l1 p13 H14 H20 p17 vs H').bd (roundEnd (A.length + 3))) [i64 0] (A ++ [.rw (ss.map u32), .rw (s0.map u32), .rw (List.replicate 64 (u8 0))]) = some (.exit 0, [i64 16], A ++ [.rw (ss.map u32), .rw (s0.map u32), .rw ((outBytes (addw ss s0)).map u8)]) := by
  have hL : ((outBytes (addw ss s0)).map u8).length = 64 := by simp [hs, h0]
  refine (loopD_count (st := fun i => ([i64 (i : Int)], A ++ [.rw (ss.map u32), .rw (s0.map u32), .rw (fillAt ((outBytes (addw ss s0)).map u8) (List.replicate 64 (u8 0)) (4 * i))])) 16 (r := (.exit 0, [i64 16], A ++ [.rw (ss.map u32), .rw (s0.map u32), .rw (fillAt ((outBytes (addw ss s0)).map u8) (List.replicate 64 (u8 0)) (4 * 16))])) ?_ ?_).trans (by rw [fillAt_all (by rw [hL]) (by rw [hL]; simp)])
  · intro i hi
    have g1 := gw_get (s := ss) (i := i) (by omega)
    have g2 := gw_get (s := s0) (i := i) (by omega)
    have e1 := fun v H => Put32_ok v H
    have m4 := bin_mul_i64 (a := 4) (b := i) (by omega) (by omega)
    have a1 := add1 i 16 hi (by omega)
    have hF : (fillAt ((outBytes (addw ss s0)).map u8) (List.replicate 64 (u8 0)) (4 * i)).length = 64 := by rw [fillAt_length (by rw [hL]; simp) (by omega)]; exact hL
    have hp : (((outBytes (addw ss s0)).map u8).drop (4 * i)).take 4 = (le (gw ss i + gw s0 i).toNat 4).map u8 := by
      rw [map_u8_drop, map_u8_take, outBytes_piece _ (addw_get (by omega) (by omega))]
    have hc := fillAt_copy (M := List.replicate 64 (u8 0)) (by rw [hL]; simp) (by omega) hp
    have hcp := fun (c : List AV) (hc : c.length = 64) => copy_sl (n := H20.length) (H := A ++ [.rw (ss.map u32), .rw (s0.map u32), .rw c, .rw ((le (gw ss i + gw s0 i).toNat 4).map u8)]) (b := A.length + 2) (o := 4 * i) (len := 64 - 4 * i) (cap := 64 - 4 * i) (s := .sl (A.length + 3) 0 4 4 1) (m := 4) (vs := (le (gw ss i + gw s0 i).toNat 4).map u8) (c := c) (by simp [List.take_of_length_le]) (by simp) (by simp) (by simp) (by omega) (by omega)
    have hcp := hcp _ hF
    rw [show min 4 (64 - 4 * i) = 4 by omega, List.take_of_length_le (l := (le (gw ss i + gw s0 i).toNat 4).map u8) (by simp), hc] at hcp
    unfold chacha_Block_l1
    generalize words_Put32 = c1 at e1 ⊢
    rw [show 4 * (i + 1) = 4 * i + 4 by omega]
    generalize fillAt ((outBytes (addw ss s0)).map u8) (List.replicate 64 (u8 0)) (4 * i) = F at *
    generalize fillAt ((outBytes (addw ss s0)).map u8) (List.replicate 64 (u8 0)) (4 * i + 4) = F' at *
    generalize gw ss i = x at *
    generalize gw s0 i = y at *
    simp [h4] at hcp
    have hbd : (if 0 ≤ 4 * (i : Int) ∧ 4 * (i : Int) ≤ 64 then some (4 * (i : Int)).toNat else none) = some (4 * i) := by rw [if_pos (by omega)]; congr 1
    simp [show ((i : Int) < 16) by omega, hi, h1, h2, h3, h4, g1, g2, e1, m4, a1, hF, hcp, hbd, List.take_of_length_le]
  · unfold chacha_Block_l1
    simp
end Go.Sx
