import Derived.Test.YtkhkbenihjngpaaRD
set_option linter.all false
namespace Go.Sx
open Go
theorem loopR_two' (A : Heap) (s0 : List UInt32) (hs : s0.length = 16) {p1 : AV × Heap} (h3 : p1.1 = .sl A.length 0 16 16 1) {n : Nat} (hn : n = A.length + 1) : loopD (fun vs H' => (aditref02_Derive_l1 p1 vs H').bd (roundEnd n)) [i64 0] (A ++ [.rw (s0.map u32)]) = some (.exit 0, [i64 10], A ++ [.rw ((dbls s0 10).map u32)]) := by
  refine loopD_count (st := fun i => ([i64 (i : Int)], A ++ [.rw ((dbls s0 i).map u32)])) 10 ?_ ?_
  · intro i hi
    have q := two_ok A [] (dbls s0 i) (by simp [hs])
    have a1 := add1 i 11 (by omega) (by omega)
    subst hn
    unfold aditref02_Derive_l1
    generalize aditref02_two = c1 at q ⊢
    simp [show ((i : Int) < 10) by omega, h3, q, a1, dbls]
  · unfold aditref02_Derive_l1
    simp
theorem outBytes_ne {l : List UInt32} (h : l ≠ []) : outBytes l ≠ [] := by
  intro h0
  have := outBytes_length l
  rw [h0] at this
  simp at this
  apply h
  cases l <;> simp_all
theorem DeriveR_ok {H : Heap} {a b : AV} {key n : List UInt8} (ha : IsSl u8 H a key) (hb : IsSl u8 H b n) (hk : key.length = 32) (hn : n.length = 16) : aditref02_Derive [a, b] H = some (.sl H.length 0 32 32 1, H ++ [.rw ((hchacha key n).map u8)]) := by
  have ef := FirstR_ok ha hb hk hn
  have hl1 := loopR_two' H (start16 key n) (by simp) (p1 := (.sl H.length 0 16 16 1, H ++ [.rw ((start16 key n).map u32)])) rfl (n := H.length + 1) rfl
  unfold hchacha
  have hS : (dbls (start16 key n) 10).length = 16 := by simp
  generalize dbls (start16 key n) 10 = S at *
  have e1 := fun (B : Heap) => bytes_ok (H := H ++ .rw (S.map u32) :: B) (b := .sl H.length 0 4 16 1) (l := S.take 4) (.at (c := S.map u32) (by simp) (by simp; omega) (by simp [hS]) (by simp [hS]) (by simp [hS])) (by simp; omega)
  have e2 := fun (B : Heap) => bytes_ok (H := H ++ .rw (S.map u32) :: B) (b := .sl H.length 12 4 4 1) (l := S.drop 12) (.at (c := S.map u32) (by simp) (by simp [hS]) (by simp [hS]) (by simp [hS, List.take_of_length_le]) (by simp [hS])) (by simp [hS])
  have n1 : outBytes (S.take 4) ≠ [] := outBytes_ne (by intro h; have := congrArg List.length h; simp [hS] at this)
  have n2 : outBytes (S.drop 12) ≠ [] := outBytes_ne (by intro h; have := congrArg List.length h; simp [hS] at this)
  have l1 : (outBytes (S.take 4)).length = 16 := by simp [hS]
  have l2 : (outBytes (S.drop 12)).length = 16 := by simp [hS]
  simp only [own, ownH, n1, n2, if_false, l1, l2] at e1 e2
  generalize outBytes (S.take 4) = X at *
  generalize outBytes (S.drop 12) = Y at *
  generalize start16 key n = S0 at *
  unfold aditref02_Derive
  generalize aditref02_First = c2 at ef ⊢
  generalize aditref02_bytes = c3 at e1 e2 ⊢
  simp at e1 e2
  simp [ef, hl1, e1, e2, l1, l2, lim, Nat.add_assoc, List.take_of_length_le]
  done
theorem rest_same (c : UInt64) (c' : UInt32) (h : c.toNat = c'.toNat) (key nonce : List UInt8) : blockOf (start16 key (le c.toNat 4 ++ nonce)) = block key nonce c' := by
  rw [h]; rfl
end Go.Sx
