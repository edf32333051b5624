import Derived.Below
import Derived.WalkKit
import Derived.Laws.MakeOwn
import Derived.Laws.Append
set_option linter.all false
namespace Go.Sx
open Go
inductive AV where
  | top
  | int (k : IntKind) (n : Int)
  | bool (b : Bool)
  | str (s : List UInt8)
  | ptr (b off : Nat)
  | nil
  | sl (b off len cap sz : Nat)
  | nsl
  | fn (f : Nat) (first cap : List AV)
  | agg (l : List AV)
  | tup (l : List AV)
  deriving Inhabited
def AV.cells : AV → List AV
  | .agg l => l
  | v => [v]
def AV.isCell : AV → Bool
  | .int _ _ | .bool _ | .str _ | .ptr _ _ | .nil | .sl _ _ _ _ _ | .nsl => true
  | _ => false
inductive Blk where
  | rw (c : List AV)
  | ro (c : List AV)
  | dead
  deriving Inhabited
def Blk.cells? : Blk → Option (List AV)
  | .rw c | .ro c => some c
  | .dead => none
abbrev Heap := List Blk
abbrev Nm := Nat → Option (Nat × Nat)
abbrev PH := Nat → Option Blk
inductive VRel (ι : Nm) (w : World) : AV → Value → Prop
  | top (v : Value) : VRel ι w .top v
  | int (k : IntKind) (n : Int) : VRel ι w (.int k n) (.int k n)
  | bool (b : Bool) : VRel ι w (.bool b) (.bool b)
  | str (s : ByteArray) : VRel ι w (.str s.data.toList) (.string s)
  | ptr {b off k base : Nat} (h : ι b = some (k, base)) : VRel ι w (.ptr b off) (.pointer (some ⟨k, base + off, none⟩))
  | nil : VRel ι w .nil (.pointer none)
  | sl {b off len cap sz k base cap' o : Nat} (h : ι b = some (k, base)) (hl : len ≤ cap) (hc : cap ≤ cap')
      (hm : cap' = cap ∨ ∃ T m, w.shape? k = some (T, m) ∧ base + off + cap' * sz ≤ m) (ho : cap' = 0 ∨ o = base + off) : VRel ι w (.sl b off len cap sz) (.slice (some ⟨k, o, none⟩) len cap')
  | nsl : VRel ι w .nsl (.slice none 0 0)
  | fn {f : Nat} {fs cs : List AV} {fs' cs' : Array Value} (hf : fs.length = fs'.size) (hc : cs.length = cs'.size)
      (h1 : ∀ (i : Nat) x y, fs[i]? = some x → fs'[i]? = some y → VRel ι w x y)
      (h2 : ∀ (i : Nat) x y, cs[i]? = some x → cs'[i]? = some y → VRel ι w x y) : VRel ι w (.fn f fs cs) (.func (.func f) fs' cs')
  | agg {l : List AV} {a : Array Value} (hs : l.length = a.size) (h : ∀ (i : Nat) x y, l[i]? = some x → a[i]? = some y → VRel ι w x y) : VRel ι w (.agg l) (.agg a)
  | tup {l : List AV} {a : Array Value} (hs : l.length = a.size) (h : ∀ (i : Nat) x y, l[i]? = some x → a[i]? = some y → VRel ι w x y) : VRel ι w (.tup l) (.tuple a)
def LRel (ι : Nm) (w : World) (l : List AV) (a : List Value) : Prop :=
  l.length = a.length ∧ ∀ (i : Nat) x y, l[i]? = some x → a[i]? = some y → VRel ι w x y
def Shapes (w w' : World) : Prop := ∀ k s, w.shape? k = some s → w'.shape? k = some s
theorem Shapes.refl (w : World) : Shapes w w := fun _ _ h => h
theorem Shapes.trans {a b c : World} (h : Shapes a b) (k : Shapes b c) : Shapes a c := fun i s hs => k i s (h i s hs)
def Ext (ι ι' : Nm) : Prop := ∀ b p, ι b = some p → ι' b = some p
theorem Ext.refl (ι : Nm) : Ext ι ι := fun _ _ h => h
theorem Ext.trans {a b c : Nm} (h : Ext a b) (k : Ext b c) : Ext a c := fun i s hs => k i s (h i s hs)
theorem VRel.mono {ι ι' : Nm} {w w' : World} (he : Ext ι ι') (hs : Shapes w w') {v : AV} {v' : Value} (h : VRel ι w v v') : VRel ι' w' v v' := by
  induction h with
  | top v => exact .top v
  | int k n => exact .int k n
  | bool b => exact .bool b
  | str s => exact .str s
  | ptr h => exact .ptr (he _ _ h)
  | nil => exact .nil
  | sl h hl hc hm ho => exact .sl (he _ _ h) hl hc (hm.imp id fun ⟨T, m, a, b⟩ => ⟨T, m, hs _ _ a, b⟩) ho
  | nsl => exact .nsl
  | fn hf hc _ _ i1 i2 => exact .fn hf hc i1 i2
  | agg hs _ ih => exact .agg hs ih
  | tup hs _ ih => exact .tup hs ih
theorem LRel.mono {ι ι' : Nm} {w w' : World} (he : Ext ι ι') (hs : Shapes w w') {l : List AV} {a : List Value} (h : LRel ι w l a) : LRel ι' w' l a :=
  ⟨h.1, fun i x y hx hy => (h.2 i x y hx hy).mono he hs⟩
theorem LRel.nil {ι : Nm} {w : World} : LRel ι w [] [] := ⟨rfl, fun i x y hx => by simp at hx⟩
theorem LRel.cons {ι : Nm} {w : World} {x : AV} {l : List AV} {y : Value} {a : List Value} (h : VRel ι w x y) (hl : LRel ι w l a) : LRel ι w (x :: l) (y :: a) := by
  refine ⟨by simp [hl.1], fun i p q hp hq => ?_⟩
  cases i with
  | zero => simp at hp hq; subst hp; subst hq; exact h
  | succ i => simp at hp hq; exact hl.2 i p q hp hq
theorem LRel.head {ι : Nm} {w : World} {x : AV} {l : List AV} {y : Value} {a : List Value} (h : LRel ι w (x :: l) (y :: a)) : VRel ι w x y := h.2 0 x y rfl rfl
theorem LRel.tail {ι : Nm} {w : World} {x : AV} {l : List AV} {y : Value} {a : List Value} (h : LRel ι w (x :: l) (y :: a)) : LRel ι w l a :=
  ⟨by have := h.1; simpa using this, fun i p q hp hq => h.2 (i + 1) p q (by simpa using hp) (by simpa using hq)⟩
theorem LRel.append {ι : Nm} {w : World} {l l2 : List AV} {a a2 : List Value} (h : LRel ι w l a) (h2 : LRel ι w l2 a2) : LRel ι w (l ++ l2) (a ++ a2) := by
  refine ⟨by simp [h.1, h2.1], fun i x y hx hy => ?_⟩
  rcases Nat.lt_or_ge i l.length with hi | hi
  · rw [List.getElem?_append_left hi] at hx
    rw [List.getElem?_append_left (h.1 ▸ hi)] at hy
    exact h.2 i x y hx hy
  · rw [List.getElem?_append_right hi] at hx
    rw [List.getElem?_append_right (h.1 ▸ hi), ← h.1] at hy
    exact h2.2 _ x y hx hy
theorem LRel.some {ι : Nm} {w : World} {l : List AV} {a : List Value} (h : LRel ι w l a) {i : Nat} {x : AV} (hx : l[i]? = some x) : ∃ y, a[i]? = some y ∧ VRel ι w x y := by
  have hi : i < l.length := (List.getElem?_eq_some_iff.1 hx).1
  have hi' : i < a.length := h.1 ▸ hi
  exact ⟨a[i], List.getElem?_eq_getElem hi', h.2 i x a[i] hx (List.getElem?_eq_getElem hi')⟩
theorem LRel.take {ι : Nm} {w : World} {l : List AV} {a : List Value} (h : LRel ι w l a) (n : Nat) : LRel ι w (l.take n) (a.take n) := by
  refine ⟨by simp [h.1], fun i x y hx hy => ?_⟩
  rw [List.getElem?_take] at hx hy
  split at hx
  · rename_i hi; rw [if_pos hi] at hy; exact h.2 i x y hx hy
  · cases hx
theorem LRel.drop {ι : Nm} {w : World} {l : List AV} {a : List Value} (h : LRel ι w l a) (n : Nat) : LRel ι w (l.drop n) (a.drop n) := by
  refine ⟨by simp [h.1], fun i x y hx hy => ?_⟩
  rw [List.getElem?_drop] at hx hy
  exact h.2 _ x y hx hy
theorem LRel.set {ι : Nm} {w : World} {l : List AV} {a : List Value} (h : LRel ι w l a) (n : Nat) {v : AV} {u : Value} (hv : VRel ι w v u) : LRel ι w (l.set n v) (a.set n u) := by
  refine ⟨by simp [h.1], fun i x y hx hy => ?_⟩
  rw [List.getElem?_set] at hx hy
  by_cases hn : n = i
  · rw [if_pos hn] at hx hy
    split at hx
    · split at hy
      · cases hx; cases hy; exact hv
      · cases hy
    · cases hx
  · rw [if_neg hn] at hx hy; exact h.2 i x y hx hy
theorem LRel.replicate {ι : Nm} {w : World} {n : Nat} {v : AV} {u : Value} (hv : VRel ι w v u) : LRel ι w (List.replicate n v) (List.replicate n u) := by
  refine ⟨by simp, fun i x y hx hy => ?_⟩
  simp only [List.getElem?_replicate] at hx hy
  split at hx
  · rename_i hi; rw [if_pos hi] at hy; cases hx; cases hy; exact hv
  · cases hx
theorem VRel.oneCell {ι : Nm} {w : World} {v : AV} {v' : Value} (h : VRel ι w v v') (hc : v.isCell = true) : v'.oneCell' = true := by
  cases h <;> simp_all [AV.isCell, Value.oneCell']
theorem VRel.cells {ι : Nm} {w : World} {v : AV} {v' : Value} (h : VRel ι w v v') (ht : v ≠ .top) : LRel ι w v.cells v'.cells.toList := by
  cases h with
  | top => exact absurd rfl ht
  | agg hs h => exact ⟨by simpa [AV.cells, Value.cells] using hs, fun i x y hx hy => h i x y hx (by simpa [Value.cells] using hy)⟩
  | _ => exact LRel.cons (by constructor <;> assumption) LRel.nil
def CellsAt (ι : Nm) (w : World) (c : List AV) (C : Array Value) (base : Nat) : Prop :=
  base + c.length ≤ C.size ∧ ∀ (i : Nat) v, c[i]? = some v → ∃ v', C[base + i]? = some v' ∧ VRel ι w v v'
def Unfrozen (C : Array Value) (fz : Nat × Nat) : Prop := ∀ j, j < C.size → ¬ (fz.1 ≤ j ∧ j < fz.2)
structure Rel (ι : Nm) (hp : PH) (w : World) : Prop where
  dom : ∀ b, (ι b).isSome = (hp b).isSome
  rw : ∀ b c, hp b = some (.rw c) → ∃ k C T fz, ι b = some (k, 0) ∧ w.heap[k]? = some (.cells C T fz) ∧ Unfrozen C fz ∧ CellsAt ι w c C 0
  ro : ∀ b c, hp b = some (.ro c) → ∃ k base C T fz, ι b = some (k, base) ∧ w.heap[k]? = some (.cells C T fz) ∧ CellsAt ι w c C base
  excl : ∀ b b' c B k base base', hp b = some (.rw c) → hp b' = some B → B ≠ .dead → b' ≠ b → ι b = some (k, base) → ι b' = some (k, base') → False
structure Step (ι : Nm) (hp : PH) (w : World) (ι' : Nm) (hp' : PH) (w' : World) : Prop where
  ext : Ext ι ι'
  rel : Rel ι' hp' w'
  size : w.heap.size ≤ w'.heap.size
  frame : ∀ k, k < w.heap.size → (∀ b c, hp b = some (.rw c) → ι b ≠ some (k, 0)) → w'.heap[k]? = w.heap[k]?
  own : ∀ b c k, hp' b = some (.rw c) → ι' b = some (k, 0) → k < w.heap.size → ∃ b0 c0, hp b0 = some (.rw c0) ∧ ι b0 = some (k, 0)
  roOld : ∀ b c, hp' b = some (.ro c) → hp b = some (.ro c)
  shapes : Shapes w w'
  tape : w'.tape = w.tape
  os : w'.os = w.os
  output : w'.output = w.output
theorem Step.refl {ι : Nm} {hp : PH} {w : World} (h : Rel ι hp w) : Step ι hp w ι hp w :=
  ⟨.refl _, h, Nat.le_refl _, fun _ _ _ => rfl, fun b c _ h1 h2 _ => ⟨b, c, h1, h2⟩, fun _ _ h => h, .refl _, rfl, rfl, rfl⟩
theorem Step.trans {ι ι1 ι2 : Nm} {hp hp1 hp2 : PH} {w w1 w2 : World} (h : Step ι hp w ι1 hp1 w1) (k : Step ι1 hp1 w1 ι2 hp2 w2) : Step ι hp w ι2 hp2 w2 := by
  refine ⟨h.ext.trans k.ext, k.rel, Nat.le_trans h.size k.size, fun i hi hno => ?_, fun b c i h1 h2 hi => ?_, fun b c hb => h.roOld b c (k.roOld b c hb), h.shapes.trans k.shapes, k.tape.trans h.tape, k.os.trans h.os, k.output.trans h.output⟩
  · rw [k.frame i (Nat.lt_of_lt_of_le hi h.size) (fun b c hb hi1 => ?_), h.frame i hi hno]
    obtain ⟨b0, c0, e1, e2⟩ := h.own b c i hb hi1 hi
    exact hno b0 c0 e1 e2
  · obtain ⟨b1, c1, e1, e2⟩ := k.own b c i h1 h2 (Nat.lt_of_lt_of_le hi h.size)
    exact h.own b1 c1 i e1 e2 hi
theorem Rel.drew {ι : Nm} {hp : PH} {w : World} (h : Rel ι hp w) (n : Nat) : Rel ι hp { w with drawn := n } := by
  have hs : Shapes w { w with drawn := n } := fun _ _ h => h
  refine ⟨h.dom, fun b c hb => ?_, fun b c hb => ?_, h.excl⟩
  · obtain ⟨k, C, T, fz, e1, e2, e3, e4, e5⟩ := h.rw b c hb
    exact ⟨k, C, T, fz, e1, e2, e3, e4, fun i v hv => let ⟨v', a, b⟩ := e5 i v hv; ⟨v', a, b.mono (.refl _) hs⟩⟩
  · obtain ⟨k, base, C, T, fz, e1, e2, e4, e5⟩ := h.ro b c hb
    exact ⟨k, base, C, T, fz, e1, e2, e4, fun i v hv => let ⟨v', a, b⟩ := e5 i v hv; ⟨v', a, b.mono (.refl _) hs⟩⟩
theorem Step.drew {ι : Nm} {hp : PH} {w : World} (h : Rel ι hp w) (n : Nat) : Step ι hp w ι hp { w with drawn := n } :=
  ⟨.refl _, h.drew n, Nat.le_refl _, fun _ _ _ => rfl, fun b c _ h1 h2 _ => ⟨b, c, h1, h2⟩, fun _ _ h => h, fun _ _ h => h, rfl, rfl, rfl⟩
theorem Rel.cell {ι : Nm} {hp : PH} {w : World} (h : Rel ι hp w) {b : Nat} {B : Blk} {c : List AV} (hb : hp b = some B) (hc : B.cells? = some c) {k base : Nat} (hi : ι b = some (k, base)) {i : Nat} {v : AV} (hv : c[i]? = some v) :
    ∃ v', w.cell? ⟨k, base + i, none⟩ = some v' ∧ VRel ι w v v' := by
  cases B with
  | rw c' =>
    simp [Blk.cells?] at hc; subst hc
    obtain ⟨k', C, T, fz, e1, e2, _, _, e5⟩ := h.rw b _ hb
    rw [hi] at e1; cases e1
    obtain ⟨v', a1, a2⟩ := e5 i v hv
    exact ⟨v', by simpa [World.cell?, e2] using a1, a2⟩
  | ro c' =>
    simp [Blk.cells?] at hc; subst hc
    obtain ⟨k', base', C, T, fz, e1, e2, _, e5⟩ := h.ro b _ hb
    rw [hi] at e1; cases e1
    obtain ⟨v', a1, a2⟩ := e5 i v hv
    exact ⟨v', by simpa [World.cell?, e2] using a1, a2⟩
  | dead => simp [Blk.cells?] at hc
end Go.Sx
namespace Go.Sx
open Go
abbrev Env := Nat → AV
def Env.put (e : Env) (d : Option Nat) (v : AV) : Env :=
  match d with
  | none => e
  | some d => fun t => bif Nat.beq d t then v else e t
inductive Opd where
  | tmp (t : Nat)
  | cst (v : AV)
  deriving Inhabited
def Opd.ev (e : Env) : Opd → AV
  | .tmp t => e t
  | .cst v => v
inductive CK where
  | i | b | s
  deriving DecidableEq, Inhabited
inductive IOp where
  | mov (x : Opd)
  | nilck (x : Opd)
  | pick (c a b : Opd)
  | alloc (z : List AV)
  | box (x : Opd)
  | build (z : List AV) (ps : List (Nat × Nat × Opd))
  | buildSl (z : List AV) (len sz : Nat) (ps : List (Nat × Nat × Opd))
  | load (n : Option Nat) (a : Opd)
  | store (n : Nat) (a x : Opd)
  | bin (op : BinOp) (x y : Opd)
  | eqb (neg : Bool) (x y : Opd)
  | eqs (neg : Bool) (x y : Opd)
  | eqp (neg : Bool) (x y : Opd)
  | eqg (neg : Bool) (ks : List CK) (x y : Opd)
  | un (op : UnOp) (x : Opd)
  | conv (k : IntKind) (x : Opd)
  | toStr (x : Opd)
  | toBytes (x : Opd)
  | idxP (len sz : Nat) (x i : Opd)
  | idxS (sz : Nat) (x i : Opd)
  | idx (len : Nat) (n : Option Nat) (x i : Opd)
  | idxStr (x i : Opd)
  | fldP (off : Nat) (x : Opd)
  | fld (off : Nat) (n : Option Nat) (x : Opd)
  | slcP (n sz : Nat) (x : Opd) (lo hi mx : Option Opd)
  | slcS (sz : Nat) (x : Opd) (lo hi mx : Option Opd)
  | slcStr (x : Opd) (lo hi : Option Opd)
  | mkSl (z : List AV) (bytes : Nat) (l c : Opd)
  | ext (i : Nat) (x : Opd)
  | len (x : Opd)
  | lenStr (x : Opd)
  | min (x : Opd) (xs : List Opd)
  | max (x : Opd) (xs : List Opd)
  | append (sz : Nat) (s x : Opd)
  | copy (sz : Nat) (d s : Opd)
  | call (f : Nat) (xs : List Opd)
  | callQ (f : Nat) (xs : List Opd)
  | callV (x : Opd) (xs : List Opd)
  | mkFn (f : Nat) (first cap : List Opd)
  deriving Inhabited
structure GOp where
  dst : Option Nat
  guard : Option (Nat × Bool)
  op : IOp
  re : List (IOp × Nat) := []
  deriving Inhabited
inductive CCode where
  | ops (l : List GOp) (k : CCode)
  | skip
  | seq (mods keep : List Nat) (a b : CCode)
  | cond (c : Opd) (a b : CCode)
  | block (id : Nat) (a : CCode)
  | loop (mods keep : List Nat) (a : CCode)
  | exit (id : Nat)
  | ret
  deriving Inhabited
def AV.asB : AV → Option Bool
  | .bool b => some b
  | _ => none
def AV.asI : AV → Option Int
  | .int _ n => some n
  | _ => none
def intBin (op : BinOp) (k : IntKind) (a : Int) (k' : IntKind) (b : Int) : Option AV :=
  match op with
  | .shl => if b < 0 then none else some (.int k (k.wrap (a * 2 ^ (Nat.min b.toNat k.bits))))
  | .shr => if b < 0 then none else some (.int k (a.fdiv (2 ^ (Nat.min b.toNat k.bits))))
  | op => if k ≠ k' then none else
    match op with
    | .add => some (.int k (k.wrap (a + b)))
    | .sub => some (.int k (k.wrap (a - b)))
    | .mul => some (.int k (k.wrap (a * b)))
    | .quo => if b = 0 then none else some (.int k (k.wrap (a.tdiv b)))
    | .rem => if b = 0 then none else some (.int k (a.tmod b))
    | .and => some (.int k (k.wrap (BitVec.ofInt k.bits a &&& BitVec.ofInt k.bits b).toNat))
    | .or => some (.int k (k.wrap (BitVec.ofInt k.bits a ||| BitVec.ofInt k.bits b).toNat))
    | .xor => some (.int k (k.wrap (BitVec.ofInt k.bits a ^^^ BitVec.ofInt k.bits b).toNat))
    | .andNot => some (.int k (k.wrap (BitVec.ofInt k.bits a &&& ~~~ BitVec.ofInt k.bits b).toNat))
    | .eql => some (.bool (a == b))
    | .neq => some (.bool (a != b))
    | .lss => some (.bool (a < b))
    | .leq => some (.bool (a ≤ b))
    | .gtr => some (.bool (a > b))
    | .geq => some (.bool (a ≥ b))
    | _ => none
def lim : Nat := 4294967296
def strBin (op : BinOp) (s t : List UInt8) : Option AV :=
  match op with
  | .add => if s.length + t.length ≤ lim then some (.str (s ++ t)) else none
  | .eql => some (.bool (s == t))
  | .neq => some (.bool (!(s == t)))
  | .lss => some (.bool (Op.bytesLess s t))
  | .leq => some (.bool (Op.bytesLess s t || s == t))
  | .gtr => some (.bool (!(Op.bytesLess s t || s == t)))
  | .geq => some (.bool (!(Op.bytesLess s t)))
  | _ => none
def AV.bin (op : BinOp) (x y : AV) : Option AV :=
  match x, y with
  | .int k a, .int k' b => intBin op k a k' b
  | .str s, .str t => strBin op s t
  | _, _ => none
def cellEq : CK → AV → AV → Option Bool
  | .i, .int k a, .int k' b => if k = k' then some (a == b) else none
  | .b, .bool a, .bool b => some (a == b)
  | .s, .str a, .str b => some (a == b)
  | _, _, _ => none
def cellsEq : List CK → List AV → List AV → Option Bool
  | [], [], [] => some true
  | c :: cs, x :: xs, y :: ys => (cellEq c x y).bind fun a => (cellsEq cs xs ys).bind fun b => some (a && b)
  | _, _, _ => none
def AV.eqb (neg : Bool) : AV → AV → Option AV
  | .bool a, .bool b => some (.bool (bif neg then !(a == b) else (a == b)))
  | _, _ => none
def AV.eqg (neg : Bool) (ks : List CK) : AV → AV → Option AV
  | .agg l, .agg m => (cellsEq ks l m).bind fun b => some (.bool (bif neg then !b else b))
  | _, _ => none
def AV.eqs (neg : Bool) : AV → AV → Option AV
  | .nsl, .nsl => some (.bool !neg)
  | .nsl, .sl _ _ _ _ _ => some (.bool neg)
  | .sl _ _ _ _ _, .nsl => some (.bool neg)
  | _, _ => none
def AV.eqp (neg : Bool) : AV → AV → Option AV
  | .nil, .nil => some (.bool !neg)
  | .nil, .ptr _ _ => some (.bool neg)
  | .ptr _ _, .nil => some (.bool neg)
  | _, _ => none
def AV.un (op : UnOp) (x : AV) : Option AV :=
  match op, x with
  | .neg, .int k n => some (.int k (k.wrap (0 - n)))
  | .xor, .int k n => some (.int k (k.wrap (BitVec.ofInt k.bits (if k.signed then -1 else k.max) ^^^ BitVec.ofInt k.bits n).toNat))
  | .not, .bool b => some (.bool !b)
  | _, _ => none
def AV.conv (k : IntKind) : AV → Option AV
  | .int _ n => some (.int k (k.wrap n))
  | _ => none
def AV.nilck : AV → Option AV
  | .ptr b o => some (.ptr b o)
  | _ => none
def AV.pick (c a b : AV) : Option AV := c.asB.bind fun c => some (bif c then a else b)
def AV.vcells : AV → Option (List AV)
  | .agg l => some l
  | .top => none
  | .tup _ => none
  | v => some [v]
def put (c : List AV) (o : Nat) (vs : List AV) : List AV :=
  match vs with
  | [v] => c.set o v
  | vs => c.take o ++ vs ++ c.drop (o + vs.length)
def fillA (c : List AV) : List (Nat × Nat × AV) → Option (List AV)
  | [] => some c
  | (off, sz, v) :: ps => v.vcells.bind fun vs => if vs.length = sz ∧ off + sz ≤ c.length then fillA (put c off vs) ps else none
def piece (c : List AV) (off : Nat) : Option Nat → Option AV
  | none => c[off]?
  | some n => if off + n ≤ c.length then some (.agg ((c.drop off).take n)) else none
def AV.idx (len : Nat) (n : Option Nat) (x i : AV) : Option AV :=
  match x, i with
  | .agg l, .int _ j => if 0 ≤ j ∧ j < len then piece l (j.toNat * n.getD 1) n else none
  | _, _ => none
def AV.idxStr (x i : AV) : Option AV :=
  match x, i with
  | .str s, .int _ j => if 0 ≤ j then (s[j.toNat]?).bind fun b => some (.int .u8 (b.toNat : Int)) else none
  | _, _ => none
def AV.idxP (len sz : Nat) (x i : AV) : Option AV :=
  match x, i with
  | .ptr b o, .int _ j => if 0 ≤ j ∧ j < len then some (.ptr b (o + j.toNat * sz)) else none
  | _, _ => none
def AV.idxS (sz : Nat) (x i : AV) : Option AV :=
  match x, i with
  | .sl b o len _ sz', .int _ j => if sz' = sz ∧ 0 ≤ j ∧ j < len then some (.ptr b (o + j.toNat * sz)) else none
  | _, _ => none
def AV.fldP (off : Nat) : AV → Option AV
  | .ptr b o => some (.ptr b (o + off))
  | _ => none
def AV.fld (off : Nat) (n : Option Nat) : AV → Option AV
  | .agg l => piece l off n
  | _ => none
def AV.ext (i : Nat) : AV → Option AV
  | .tup l => l[i]?
  | _ => none
def AV.len : AV → Option AV
  | .sl _ _ n _ _ => some (.int .i64 (n : Int))
  | .nsl => some (.int .i64 0)
  | _ => none
def AV.lenStr : AV → Option AV
  | .str s => some (.int .i64 (s.length : Int))
  | _ => none
def bnd (x : Option AV) (dflt most : Nat) : Option Nat :=
  match x with
  | none => some dflt
  | some (.int _ i) => if 0 ≤ i ∧ i ≤ most then some i.toNat else none
  | some _ => none
def bounds (len cap : Nat) (lo hi mx : Option AV) : Option (Nat × Nat × Nat) :=
  (bnd mx cap cap).bind fun m => (bnd hi len m).bind fun h => (bnd lo 0 h).bind fun l => some (l, h, m)
def AV.slcP (n sz : Nat) (x : AV) (lo hi mx : Option AV) : Option AV :=
  match x with
  | .ptr b o => (bounds n n lo hi mx).bind fun r => some (.sl b (o + r.1 * sz) (r.2.1 - r.1) (r.2.2 - r.1) sz)
  | _ => none
def AV.slcS (sz : Nat) (x : AV) (lo hi mx : Option AV) : Option AV :=
  match x with
  | .sl b o len cap sz' => if sz' = sz then (bounds len cap lo hi mx).bind fun r => some (.sl b (o + r.1 * sz) (r.2.1 - r.1) (r.2.2 - r.1) sz) else none
  | .nsl => (bounds 0 0 lo hi mx).bind fun _ => some .nsl
  | _ => none
def AV.slcStr (x : AV) (lo hi : Option AV) : Option AV :=
  match x with
  | .str s => (bounds s.length s.length lo hi none).bind fun r => some (.str ((s.drop r.1).take (r.2.1 - r.1)))
  | _ => none
def AV.min2 (x y : AV) : Option AV :=
  match x, y with
  | .int k a, .int _ b => some (.int k (if b < a then b else a))
  | _, _ => none
def AV.max2 (x y : AV) : Option AV :=
  match x, y with
  | .int k a, .int _ b => some (.int k (if b > a then b else a))
  | _, _ => none
def foldA (f : AV → AV → Option AV) (x : AV) : List AV → Option AV
  | [] => some x
  | y :: ys => (f x y).bind fun z => foldA f z ys
def bytesOf : List AV → Option (List UInt8)
  | [] => some []
  | .int .u8 n :: l => (bytesOf l).bind fun r => some (UInt8.ofNat n.toNat :: r)
  | _ :: _ => none
def byteCells (s : List UInt8) : List AV := s.map fun b => .int .u8 (b.toNat : Int)
def zeros (n : Nat) (z : List AV) : List AV :=
  match z with
  | [v] => List.replicate n v
  | z => (List.replicate n z).flatten
def cellsOf (H : Heap) (b : Nat) : Option (List AV) := (H[b]?).bind Blk.cells?
def rwOf (H : Heap) (b : Nat) : Option (List AV) :=
  match H[b]? with
  | some (.rw c) => some c
  | _ => none
def ld (H : Heap) (n : Option Nat) (a : AV) : Option AV :=
  match a with
  | .ptr b o => (cellsOf H b).bind fun c => piece c o n
  | _ => none
def AV.old (n : Nat) : AV → Bool
  | .ptr b _ => b < n
  | .sl b _ _ _ _ => b < n
  | .fn _ f c => oldL n f && oldL n c
  | .agg l => oldL n l
  | .tup l => oldL n l
  | _ => true
where oldL (n : Nat) : List AV → Bool
  | [] => true
  | v :: l => v.old n && oldL n l
def stOK (n b : Nat) (vs : List AV) : Bool := vs.all AV.isCell && (decide (n ≤ b) || vs.all (AV.old (b + 1)))
def stW (n : Nat) (H : Heap) (b o : Nat) (c vs : List AV) : Option Heap :=
  if o + vs.length ≤ c.length ∧ stOK n b vs = true then some (H.set b (.rw (put c o vs))) else none
def st (n : Nat) (H : Heap) (sz : Nat) (a v : AV) : Option Heap :=
  match a with
  | .ptr b o => (rwOf H b).bind fun c => v.vcells.bind fun vs => if vs.length = sz then stW n H b o c vs else none
  | _ => none
def srcCells (H : Heap) (sz : Nat) (x : AV) : Option (Nat × List AV) :=
  match x with
  | .nsl => some (0, [])
  | .str s => if sz = 1 then some (s.length, byteCells s) else none
  | .sl b o len _ sz' => (cellsOf H b).bind fun c => if sz' = sz ∧ o + len * sz ≤ c.length then some (len, (c.drop o).take (len * sz)) else none
  | _ => none
def appendA (H : Heap) (sz : Nat) (s x : AV) : Option (AV × Heap) :=
  (srcCells H sz x).bind fun p =>
    match s with
    | .nsl => if p.1 = 0 then some (.nsl, H) else if p.1 ≤ lim then some (.sl H.length 0 p.1 p.1 sz, H ++ [.rw p.2]) else none
    | .sl b o len cap sz' => (rwOf H b).bind fun c =>
      if o = 0 ∧ sz' = sz ∧ cap * sz ≤ c.length ∧ len ≤ cap ∧ len + p.1 ≤ lim ∧ p.2.all AV.isCell = true then
        some (.sl H.length 0 (len + p.1) (len + p.1) sz, H.set b .dead ++ [.rw (c.take (len * sz) ++ p.2)])
      else none
    | _ => none
def copyA (n : Nat) (H : Heap) (sz : Nat) (d s : AV) : Option (AV × Heap) :=
  (srcCells H sz s).bind fun p =>
    match d with
    | .nsl => some (.int .i64 0, H)
    | .sl b o len _ sz' =>
      if sz' = sz then
        if Nat.min p.1 len = 0 then some (.int .i64 0, H)
        else (rwOf H b).bind fun c =>
          let vs := p.2.take (Nat.min p.1 len * sz)
          if o + vs.length ≤ c.length ∧ stOK n b vs = true then some (.int .i64 (Nat.min p.1 len : Nat), H.set b (.rw (c.take o ++ vs ++ c.drop (o + vs.length)))) else none
      else none
    | _ => none
def mkSlA (H : Heap) (z : List AV) (bytes : Nat) (l c : AV) : Option (AV × Heap) :=
  match l, c with
  | .int _ l, .int _ c => if 0 ≤ l ∧ l ≤ c ∧ c * bytes ≤ 281474976710656 ∧ c ≤ 281474976710656 then some (.sl H.length 0 l.toNat c.toNat z.length, H ++ [.rw (zeros c.toNat z)]) else none
  | _, _ => none
def toBytesA (H : Heap) (x : AV) : Option (AV × Heap) :=
  match x with
  | .str s => if s.length ≤ lim then some (.sl H.length 0 s.length s.length 1, H ++ [.rw (byteCells s)]) else none
  | _ => none
abbrev Fn := List AV → Heap → Option (AV × Heap)
abbrev Fns := Nat → Option Fn
def callA (Γ : Fns) (f : Nat) (xs : List AV) (H : Heap) : Option (AV × Heap) :=
  match Γ f with
  | some F => F xs H
  | none => none
open Classical in
noncomputable def quiet (r : Option (AV × Heap)) (H : Heap) : Option AV := r.bind fun p => if p.2 = H then some p.1 else none
open Classical in
noncomputable def chk (r : Option AV) (v : AV) : Option Unit := if r = some v then some () else none
noncomputable def stepV (Γ : Fns) (o : IOp) (e : Env) (H : Heap) : Option AV :=
  match o with
  | .mov x => some (x.ev e)
  | .nilck x => (x.ev e).nilck
  | .pick c a b => AV.pick (c.ev e) (a.ev e) (b.ev e)
  | .build z ps => (fillA z (ps.map fun p => (p.1, p.2.1, p.2.2.ev e))).bind fun c => some (.agg c)
  | .load n a => ld H n (a.ev e)
  | .bin op x y => AV.bin op (x.ev e) (y.ev e)
  | .eqb neg x y => AV.eqb neg (x.ev e) (y.ev e)
  | .eqs neg x y => AV.eqs neg (x.ev e) (y.ev e)
  | .eqp neg x y => AV.eqp neg (x.ev e) (y.ev e)
  | .eqg neg ks x y => AV.eqg neg ks (x.ev e) (y.ev e)
  | .un op x => AV.un op (x.ev e)
  | .conv k x => AV.conv k (x.ev e)
  | .toStr x => (srcCells H 1 (x.ev e)).bind fun p => (bytesOf p.2).bind fun s => some (.str s)
  | .idxP len sz x i => AV.idxP len sz (x.ev e) (i.ev e)
  | .idxS sz x i => AV.idxS sz (x.ev e) (i.ev e)
  | .idx len n x i => AV.idx len n (x.ev e) (i.ev e)
  | .idxStr x i => AV.idxStr (x.ev e) (i.ev e)
  | .fldP off x => AV.fldP off (x.ev e)
  | .fld off n x => AV.fld off n (x.ev e)
  | .slcP n sz x lo hi mx => AV.slcP n sz (x.ev e) (lo.map (Opd.ev e)) (hi.map (Opd.ev e)) (mx.map (Opd.ev e))
  | .slcS sz x lo hi mx => AV.slcS sz (x.ev e) (lo.map (Opd.ev e)) (hi.map (Opd.ev e)) (mx.map (Opd.ev e))
  | .slcStr x lo hi => AV.slcStr (x.ev e) (lo.map (Opd.ev e)) (hi.map (Opd.ev e))
  | .ext i x => AV.ext i (x.ev e)
  | .len x => AV.len (x.ev e)
  | .lenStr x => AV.lenStr (x.ev e)
  | .min x xs => foldA AV.min2 (x.ev e) (xs.map (Opd.ev e))
  | .max x xs => foldA AV.max2 (x.ev e) (xs.map (Opd.ev e))
  | .mkFn f fs cs => some (.fn f (fs.map (Opd.ev e)) (cs.map (Opd.ev e)))
  | .callQ f xs => quiet (callA Γ f (xs.map (Opd.ev e)) H) H
  | _ => none
def IOp.heapless : IOp → Bool
  | .alloc _ | .box _ | .buildSl _ _ _ _ | .store _ _ _ | .toBytes _ | .mkSl _ _ _ _ | .append _ _ _ | .copy _ _ _ | .call _ _ | .callV _ _ => false
  | _ => true
noncomputable def stepH (Γ : Fns) (n : Nat) (o : IOp) (e : Env) (H : Heap) : Option (AV × Heap) :=
  match o with
  | .alloc z => some (.ptr H.length 0, H ++ [.rw z])
  | .box x => (x.ev e).vcells.bind fun vs => some (.ptr H.length 0, H ++ [.rw vs])
  | .buildSl z len sz ps => (fillA (zeros len z) (ps.map fun p => (p.1, p.2.1, p.2.2.ev e))).bind fun c => some (.sl H.length 0 len len sz, H ++ [.rw c])
  | .store sz a x => (st n H sz (a.ev e) (x.ev e)).bind fun H' => some (.top, H')
  | .toBytes x => toBytesA H (x.ev e)
  | .mkSl z bytes l c => mkSlA H z bytes (l.ev e) (c.ev e)
  | .append sz s x => appendA H sz (s.ev e) (x.ev e)
  | .copy sz d s => copyA n H sz (d.ev e) (s.ev e)
  | .call f xs => callA Γ f (xs.map (Opd.ev e)) H
  | .callV x xs => match x.ev e with
    | .fn f fs cs => callA Γ f (fs ++ xs.map (Opd.ev e) ++ cs) H
    | _ => none
  | _ => none
noncomputable def astep (Γ : Fns) (n : Nat) (o : IOp) (e : Env) (H : Heap) : Option (AV × Heap) :=
  bif o.heapless then (stepV Γ o e H).bind fun v => some (v, H) else stepH Γ n o e H
def AV.asG : AV → Option (Option Bool)
  | .bool b => some (some b)
  | .tup [] => some none
  | _ => none
def gsel {α : Type} (want : Bool) (b : Option Bool) (x y : α) : α :=
  match b with
  | none => y
  | some b => match want with
    | true => bif b then x else y
    | false => bif b then y else x
noncomputable def gstep (Γ : Fns) (n : Nat) (g : GOp) (e : Env) (H : Heap) : Option (AV × Heap) :=
  match g.guard with
  | none => astep Γ n g.op e H
  | some (t, want) => (e t).asG.bind fun b => gsel want b (astep Γ n g.op e H) (some (.tup [], H))
noncomputable def chks (Γ : Fns) : List (IOp × Nat) → Env → Heap → Option Unit
  | [], _, _ => some ()
  | (o, d) :: l, e, H => (chk (stepV Γ o e H) (e d)).bind fun _ => chks Γ l e H
noncomputable def chksG (Γ : Fns) (g : GOp) (e0 e : Env) (H : Heap) : Option Unit :=
  match g.re with
  | [] => some ()
  | re => match g.guard with
    | none => chks Γ re e H
    | some (t, want) => (e0 t).asG.bind fun b => gsel want b (chks Γ re e H) (some ())
noncomputable def runOps (Γ : Fns) (n : Nat) : List GOp → Env → Heap → Option (Env × Heap)
  | [], e, H => some (e, H)
  | g :: gs, e, H => (gstep Γ n g e H).bind fun p => (chksG Γ g e (e.put g.dst p.1) p.2).bind fun _ => runOps Γ n gs (e.put g.dst p.1) p.2
noncomputable def runK {R : Type} (Γ : Fns) (n : Nat) : List GOp → Env → Heap → (Env → Heap → Option R) → Option R
  | [], e, H, k => k e H
  | g :: gs, e, H, k =>
    match g.guard with
    | none =>
      match g.op with
      | .mov x => runK Γ n gs (e.put g.dst (x.ev e)) H k
      | .alloc z => runK Γ n gs (e.put g.dst (.ptr H.length 0)) (H ++ [.rw z]) k
      | .mkFn f fs cs => runK Γ n gs (e.put g.dst (.fn f (fs.map (Opd.ev e)) (cs.map (Opd.ev e)))) H k
      | .store sz a x => (st n H sz (a.ev e) (x.ev e)).bind fun H' => chksK Γ g.re (e.put g.dst .top) H' (runK Γ n gs (e.put g.dst .top) H' k)
      | o => match o.heapless with
        | true => (stepV Γ o e H).bind fun v => runK Γ n gs (e.put g.dst v) H k
        | false => (stepH Γ n o e H).bind fun p => chksK Γ g.re (e.put g.dst p.1) p.2 (runK Γ n gs (e.put g.dst p.1) p.2 k)
    | some (t, want) => (e t).asG.bind fun b =>
      match g.op with
      | .mov x => runK Γ n gs (e.put g.dst (gsel want b (x.ev e) (.tup []))) H k
      | o => match o.heapless with
        | true => (gsel want b (stepV Γ o e H) (some (.tup []))).bind fun v => runK Γ n gs (e.put g.dst v) H k
        | false => (gsel want b (stepH Γ n o e H) (some (.tup [], H))).bind fun p => chksB Γ want b g.re (e.put g.dst p.1) p.2 (runK Γ n gs (e.put g.dst p.1) p.2 k)
where
  chksB {R : Type} (Γ : Fns) (want : Bool) (b : Option Bool) (re : List (IOp × Nat)) (e : Env) (H : Heap) (r : Option R) : Option R :=
    match re with
    | [] => r
    | re => (gsel want b (chks Γ re e H) (some ())).bind fun _ => r
  chksK {R : Type} (Γ : Fns) : List (IOp × Nat) → Env → Heap → Option R → Option R
    | [], _, _, r => r
    | (o, d) :: l, e, H, r => (chk (stepV Γ o e H) (e d)).bind fun _ => chksK Γ l e H r
inductive Out where
  | norm
  | exit (id : Nat)
  | ret
  deriving DecidableEq, Inhabited
abbrev Res := Out × List AV × Heap
def look (vals : List AV) : Nat → List Nat → Nat → AV → AV
  | _, [], _, d => d
  | i, k :: ks, t, d => bif Nat.beq k t then vals.getD i .top else look vals (i + 1) ks t d
def memB : List Nat → Nat → Bool
  | [], _ => false
  | k :: ks, t => bif Nat.beq k t then true else memB ks t
def Env.over (e : Env) (mods keep : List Nat) (vals : List AV) : Env :=
  fun t => look vals 0 keep t (bif memB mods t then .top else e t)
def AV.names (n : Nat) : AV → List Nat
  | .ptr b _ => bif decide (n ≤ b) then [b] else []
  | .sl b _ _ _ _ => bif decide (n ≤ b) then [b] else []
  | .fn _ f c => namesL n f ++ namesL n c
  | .agg l => namesL n l
  | .tup l => namesL n l
  | _ => []
where namesL (n : Nat) : List AV → List Nat
  | [] => []
  | v :: l => v.names n ++ namesL n l
def dedup : List Nat → List Nat
  | [] => []
  | x :: l => x :: (dedup l).filter fun y => !(Nat.beq x y)
def place (b : Nat) : List Nat → Nat → Nat
  | [], i => i
  | x :: l, i => bif Nat.beq x b then i else place b l (i + 1)
def AV.ren (n : Nat) (rs : List Nat) : AV → AV
  | .ptr b o => .ptr (bif decide (n ≤ b) then n + place b rs 0 else b) o
  | .sl b o l c s => .sl (bif decide (n ≤ b) then n + place b rs 0 else b) o l c s
  | .fn f a c => .fn f (renL n rs a) (renL n rs c)
  | .agg l => .agg (renL n rs l)
  | .tup l => .tup (renL n rs l)
  | v => v
where renL (n : Nat) (rs : List Nat) : List AV → List AV
  | [] => []
  | v :: l => v.ren n rs :: renL n rs l
def grab (n : Nat) (H : Heap) : List Nat → Option Heap
  | [] => some []
  | b :: bs => (rwOf H b).bind fun c => bif AV.old.oldL n c then (grab n H bs).bind fun r => some (.rw c :: r) else none
def retract (n : Nat) (vs : List AV) (H : Heap) : Option (List AV × Heap) :=
  bif AV.old.oldL n vs then some (vs, H.take n)
  else
    let rs := dedup (AV.names.namesL n vs)
    (grab n H rs).bind fun K => some (AV.ren.renL n rs vs, H.take n ++ K)
open Classical in
noncomputable def loopD (f : List AV → Heap → Option (Sum (List AV × Heap) Res)) (vs : List AV) (H : Heap) : Option Res :=
  let rec run : Nat → List AV × Heap → Option Res
    | 0, _ => none
    | n + 1, s => match f s.1 s.2 with
      | none => none
      | some (.inl s') => run n s'
      | some (.inr r) => some r
  if h : ∃ n r, run n (vs, H) = some r then some (Classical.choose (Classical.choose_spec h)) else none
def roundEnd (n : Nat) (r : Res) : Option (Sum (List AV × Heap) Res) :=
  match r.1 with
  | .norm => (retract n r.2.1 r.2.2).bind fun s => some (.inl s)
  | _ => some (.inr r)
def andThen (out : List AV → List AV) (k : List AV → Heap → Option Res) (r : Res) : Option Res :=
  match r.1 with
  | .norm => k r.2.1 r.2.2
  | o => some (o, out r.2.1, r.2.2)
def inBlock (id : Nat) (r : Res) : Option Res :=
  match r.1 with
  | .exit i => some (bif Nat.beq i id then .norm else .exit i, r.2)
  | _ => some r
noncomputable def den (Γ : Fns) : CCode → List Nat → Nat → Env → Heap → Option Res
  | .ops l k, K, n, e, H => runK Γ n l e H fun e H => den Γ k K n e H
  | .skip, K, _, e, H => some (.norm, K.map e, H)
  | .seq mods keep a b, K, n, e, H => (den Γ a keep n e H).bind (andThen (fun vs => K.map (e.over mods keep vs)) fun vs H => den Γ b K n (e.over mods keep vs) H)
  | .cond c a b, K, n, e, H => (c.ev e).asB.bind fun t => bif t then den Γ a K n e H else den Γ b K n e H
  | .block id a, K, n, e, H => (den Γ a K n e H).bind (inBlock id)
  | .loop mods keep a, K, _, e, H =>
    (loopD (fun vs H' => (den Γ a keep H.length (e.over mods keep vs) H').bind (roundEnd H.length)) (keep.map e) H).bind fun r =>
      some (r.1, K.map (e.over mods keep r.2.1), r.2.2)
  | .exit id, K, _, e, H => some (.exit id, K.map e, H)
  | .ret, K, _, e, H => some (.ret, K.map e, H)
inductive RVar where
  | tmp (i : Nat)
  | cell (i : Nat) (n : Option Nat)
def resV (vals : List AV) (H : Heap) : List RVar → Option (List AV)
  | [] => some []
  | .tmp i :: l => (resV vals H l).bind fun r => some (vals.getD i .top :: r)
  | .cell i n :: l => (ld H n (vals.getD i .top)).bind fun v => (resV vals H l).bind fun r => some (v :: r)
def oneOf : List AV → AV
  | [v] => v
  | l => .tup l
structure CFn where
  keep : List Nat
  res : List RVar
  body : CCode
def fnEnd (n : Nat) (res : List RVar) (r : Res) : Option (AV × Heap) :=
  match r.1 with
  | .exit _ => none
  | _ => (resV r.2.1 r.2.2 res).bind fun vs => (retract n vs r.2.2).bind fun p => some (oneOf p.1, p.2)
noncomputable def denFn (Γ : Fns) (F : CFn) : Fn := fun args H =>
  (den Γ F.body F.keep H.length (fun t => args.getD t .top) H).bind (fnEnd H.length F.res)
end Go.Sx

namespace Go.Sx
open Go
def constAV : Value → Option AV
  | .int k n => some (.int k n)
  | .bool b => some (.bool b)
  | .string s => some (.str s.data.toList)
  | .pointer none => some .nil
  | .slice none 0 0 => some .nsl
  | .tuple ⟨[]⟩ => some .top
  | _ => none
def cOpd : Operand → Option Opd
  | .tmp t => some (.tmp t)
  | .const v => (constAV v).map .cst
  | .func f => some (.cst (.fn f [] []))
  | .global _ => none
def cOpds : List Operand → Option (List Opd)
  | [] => some []
  | x :: l => (cOpd x).bind fun y => (cOpds l).bind fun r => some (y :: r)
def cOpt : Option Operand → Option (Option Opd)
  | none => some none
  | some x => (cOpd x).bind fun y => some (some y)
def constAVs : List Value → Option (List AV)
  | [] => some []
  | x :: l => (constAV x).bind fun y => (constAVs l).bind fun r => if y.isCell then some (y :: r) else none
def szOf (P : Program) (t : TypeId) : Option Nat := (P.info? t).map (·.size)
def aggB (P : Program) (t : TypeId) : Option Bool :=
  (P.underlying t).map fun
    | .struct _ | .array _ _ => true
    | _ => false
def partOf (P : Program) (t : TypeId) : Option (Option Nat) :=
  (aggB P t).bind fun a => match a with
    | true => (szOf P t).bind fun n => some (some n)
    | false => some none
def zeroOf (P : Program) (t : TypeId) : Option (List AV) :=
  (P.info? t).bind fun i => i.zero.bind fun z => constAVs z.cells.toList
def reps (n : Nat) (ks : List CK) : List CK :=
  match ks with
  | [k] => List.replicate n k
  | ks => (List.replicate n ks).flatten
def eqFieldsK (P : Program) (K : TypeId → Option (List CK)) : List Field → Nat → Option (List CK)
  | [], _ => some []
  | f :: fs, at_ => (K f.type).bind fun s => if f.name ≠ "_" ∧ f.offset = at_ ∧ szOf P f.type = some s.length then (eqFieldsK P K fs (at_ + s.length)).bind fun r => some (s ++ r) else none
def eqKinds (P : Program) : Nat → TypeId → Option (List CK)
  | 0, _ => none
  | d + 1, t =>
    match P.underlying t with
    | some (.int _) => if szOf P t = some 1 then some [.i] else none
    | some .bool => if szOf P t = some 1 then some [.b] else none
    | some .string => if szOf P t = some 1 then some [.s] else none
    | some (.array n e) => (eqKinds P d e).bind fun s => if szOf P e = some s.length ∧ szOf P t = some (n * s.length) then some (reps n s) else none
    | some (.struct fs) => (eqFieldsK P (eqKinds P d) fs.toList 0).bind fun s => if szOf P t = some s.length ∧ P.stoodInHeld t = false then some s else none
    | _ => none
def cParts (place : Nat → Option (Nat × Nat)) : List (Nat × Operand) → Option (List (Nat × Nat × Opd))
  | [] => some []
  | (i, x) :: l => (place i).bind fun p => (cOpd x).bind fun y => (cParts place l).bind fun r => some ((p.1, p.2, y) :: r)
def fieldAtP (P : Program) (fs : Array Field) (i : Nat) : Option (Nat × Nat) :=
  (fs[i]?).bind fun f => (szOf P f.type).bind fun s => some (f.offset, s)
def callable (P : Program) (f : Nat) : Bool :=
  match P.funcs[f]? with
  | some fn => !(fn.name == "runtime.NumGoroutine") && fn.body.isSome
  | none => false
def isIntD : TypeDesc → Bool
  | .int _ => true
  | _ => false
def cBuiltin (P : Program) (b : Builtin) (ts : Array TypeId) (xs : List Opd) : Option IOp :=
  match b, ts[0]?, xs with
  | .len, some t, [x] =>
    match P.underlying t with
    | some (.slice _) => some (.len x)
    | some .string => some (.lenStr x)
    | some (.array n _) => some (.mov (.cst (.int .i64 (n : Int))))
    | some (.pointer a) => match P.underlying a with
      | some (.array n _) => some (.mov (.cst (.int .i64 (n : Int))))
      | _ => none
    | _ => none
  | .min, _, x :: xs => some (.min x xs)
  | .max, _, x :: xs => some (.max x xs)
  | .append, some t, [s, x] =>
    match P.underlying t, (ts[1]?).bind P.underlying with
    | some (.slice e), some u => (P.info? e).bind fun i => if isIntD u || i.bytes > 16384 || i.bytes = 0 || i.size = 0 || !(i.zero.any fun z => z.cells.size == i.size) then none else some (.append i.size s x)
    | _, _ => none
  | .copy, some t, [d, s] =>
    match P.underlying t with
    | some (.slice e) => (szOf P e).bind fun n => if n = 0 then none else some (.copy n d s)
    | _ => none
  | _, _, _ => none
def compOp (P : Program) (quiets : List Nat) (o : Oper) : Option IOp :=
  match o.op with
  | .move x | .assign x => (cOpd x).bind fun x => some (.mov x)
  | .nilCheck x => (cOpd x).bind fun x => some (.nilck x)
  | .pick c a b => (cOpd c).bind fun c => (cOpd a).bind fun a => (cOpd b).bind fun b => some (.pick c a b)
  | .alloc e => (zeroOf P e).bind fun z => some (.alloc z)
  | .box _ x => (cOpd x).bind fun x => some (.box x)
  | .build t ps => (zeroOf P t).bind fun z =>
    match P.underlying t with
    | some (.struct fs) => if fs.all (fun f => (szOf P f.type).isSome) then (cParts (fieldAtP P fs) ps.toList).bind fun ps => some (.build z ps) else none
    | some (.array _ e) => (szOf P e).bind fun s => (cParts (fun i => some (i * s, s)) ps.toList).bind fun ps => some (.build z ps)
    | _ => none
  | .buildSlice t len ps =>
    match P.underlying t with
    | some (.slice e) => (szOf P e).bind fun s => (zeroOf P e).bind fun z => (cParts (fun i => some (i * s, s)) ps.toList).bind fun ps =>
      if len * s ≤ 16777216 ∧ z.length = s ∧ s ≠ 0 then some (.buildSl z len s ps) else none
    | _ => none
  | .load t a => (partOf P t).bind fun n => (cOpd a).bind fun a => some (.load n a)
  | .store t a x => (szOf P t).bind fun n => (cOpd a).bind fun a => (cOpd x).bind fun x => some (.store n a x)
  | .binOp op t x y _ => (cOpd x).bind fun x => (cOpd y).bind fun y =>
    match P.underlying t with
    | some (.int _) | some .string => some (.bin op x y)
    | some .bool => match op with
        | .eql => some (.eqb false x y)
        | .neq => some (.eqb true x y)
        | _ => none
    | some (.array _ _) | some (.struct _) =>
      if P.eqGuardType P.depth t then none else
      (eqKinds P 100 t).bind fun ks => match op with
        | .eql => some (.eqg false ks x y)
        | .neq => some (.eqg true ks x y)
        | _ => none
    | some (.slice _) => match op with
        | .eql => some (.eqs false x y)
        | .neq => some (.eqs true x y)
        | _ => none
    | some (.pointer _) => match op with
        | .eql => some (.eqp false x y)
        | .neq => some (.eqp true x y)
        | _ => none
    | _ => none
  | .unOp op _ x => (cOpd x).bind fun x => some (.un op x)
  | .convert s d x => (cOpd x).bind fun x =>
    match P.underlying s, P.underlying d with
    | some (.int _), some (.int k) => some (.conv k x)
    | some (.slice e), some .string => match P.underlying e with
      | some (.int .u8) => some (.toStr x)
      | _ => none
    | some .string, some (.slice e) => match P.underlying e with
      | some (.int .u8) => some (.toBytes x)
      | _ => none
    | some .string, some .string => some (.slcStr x none none)
    | _, _ => none
  | .indexAddr t x i => (cOpd x).bind fun x => (cOpd i).bind fun i =>
    match P.underlying t with
    | some (.array n e) => (szOf P e).bind fun s => some (.idxP n s x i)
    | some (.slice e) => (szOf P e).bind fun s => some (.idxS s x i)
    | _ => none
  | .index t x i => (cOpd x).bind fun x => (cOpd i).bind fun i =>
    match P.underlying t with
    | some (.array n e) => (partOf P e).bind fun p => (szOf P e).bind fun s => if p.getD 1 = s then some (.idx n p x i) else none
    | some .string => some (.idxStr x i)
    | _ => none
  | .fieldAddr s x f => (cOpd x).bind fun x =>
    match P.underlying s with
    | some (.struct fs) => (fieldAtP P fs f).bind fun p => if p.2 = 0 then none else some (.fldP p.1 x)
    | _ => none
  | .field t x f => (cOpd x).bind fun x =>
    match P.underlying t with
    | some (.struct fs) => (fs[f]?).bind fun f => (partOf P f.type).bind fun n => some (.fld f.offset n x)
    | _ => none
  | .slice t x lo hi mx => (cOpd x).bind fun x => (cOpt lo).bind fun lo => (cOpt hi).bind fun hi => (cOpt mx).bind fun mx =>
    if mx.isSome && hi.isNone then none else
    match P.underlying t with
    | some (.array n e) => (szOf P e).bind fun s => some (.slcP n s x lo hi mx)
    | some (.slice e) => (szOf P e).bind fun s => some (.slcS s x lo hi mx)
    | some .string => if mx.isSome then none else some (.slcStr x lo hi)
    | _ => none
  | .makeSlice t l c => (cOpd l).bind fun l => (cOpd c).bind fun c =>
    match P.underlying t with
    | some (.slice e) => (P.info? e).bind fun i => (zeroOf P e).bind fun z => if z.length = i.size ∧ z ≠ [] then some (.mkSl z i.bytes l c) else none
    | _ => none
  | .extract x i => (cOpd x).bind fun x => some (.ext i x)
  | .makeFunc (.func f) a b => (cOpds a.toList).bind fun a => (cOpds b.toList).bind fun b => some (.mkFn f a b)
  | .call c => (cOpds c.args.toList).bind fun xs =>
    match c.callee with
    | .value (.func f) => if callable P f then (if memB quiets f then some (.callQ f xs) else some (.call f xs)) else none
    | .value (.tmp t) => some (.callV (.tmp t) xs)
    | .builtin b => cBuiltin P b c.argTypes xs
    | _ => none
  | _ => none
end Go.Sx
namespace Go.Sx
open Go
structure EnvRel (ι : Nm) (w : World) (N : Nat) (e : Env) (tmps : Array Value) : Prop where
  size : N ≤ tmps.size
  at_ : ∀ t, VRel ι w (e t) (tmps.getD t undef)
theorem EnvRel.mono {ι ι' : Nm} {w w' : World} {N : Nat} {e : Env} {t : Array Value} (he : Ext ι ι') (hs : Shapes w w') (h : EnvRel ι w N e t) : EnvRel ι' w' N e t :=
  ⟨h.size, fun i => (h.at_ i).mono he hs⟩
theorem constAV_rel {ι : Nm} {w : World} {v : Value} {x : AV} (h : constAV v = some x) : VRel ι w x v := by
  unfold constAV at h
  split at h <;> cases h <;> first | constructor | skip
theorem cOpd_rel {ι : Nm} {w : World} {N : Nat} {e : Env} {a : Act} {x : Operand} {y : Opd} (h : cOpd x = some y) (hE : EnvRel ι w N e a.tmps) : VRel ι w (y.ev e) (a.eval x) := by
  cases x with
  | tmp t => simp [cOpd] at h; subst h; exact hE.at_ t
  | const v =>
    simp only [cOpd, Option.map_eq_some_iff] at h
    obtain ⟨z, hz, rfl⟩ := h
    exact constAV_rel hz
  | func f => simp [cOpd] at h; subst h; exact .fn rfl rfl (by simp) (by simp)
  | global g => simp [cOpd] at h
theorem cOpds_rel {ι : Nm} {w : World} {N : Nat} {e : Env} {a : Act} (hE : EnvRel ι w N e a.tmps) : ∀ {l : List Operand} {r : List Opd}, cOpds l = some r → LRel ι w (r.map (Opd.ev e)) (l.map a.eval)
  | [], r, h => by simp [cOpds] at h; subst h; exact LRel.nil
  | x :: l, r, h => by
    simp only [cOpds, Option.bind_eq_some_iff] at h
    obtain ⟨y, hy, r', hr, hh⟩ := h
    cases hh
    exact LRel.cons (cOpd_rel hy hE) (cOpds_rel hE hr)
theorem VRel.of_int {ι : Nm} {w : World} {k : IntKind} {n : Int} {v : Value} (h : VRel ι w (.int k n) v) : v = .int k n := by cases h; rfl
theorem VRel.of_bool {ι : Nm} {w : World} {b : Bool} {v : Value} (h : VRel ι w (.bool b) v) : v = .bool b := by cases h; rfl
theorem VRel.of_str {ι : Nm} {w : World} {s : List UInt8} {v : Value} (h : VRel ι w (.str s) v) : ∃ t : ByteArray, v = .string t ∧ t.data.toList = s := by cases h; exact ⟨_, rfl, rfl⟩
theorem VRel.str' {ι : Nm} {w : World} {s : List UInt8} {t : ByteArray} (h : t.data.toList = s) : VRel ι w (.str s) (.string t) := by subst h; exact .str t
def Gives (P : Program) (o : Oper) (a : Act) (ι : Nm) (w : World) (v : AV) : Prop :=
  ∃ v', (execOp a.eval o).run P w = .ok (.value v') w ∧ VRel ι w v v'
section
variable {P : Program} {ι : Nm} {w : World} {N : Nat} {e : Env} {a : Act} {H : Heap} {hp : PH}
theorem toList_eq (s : ByteArray) : s.toList = s.data.toList := ByteArray.toList_eq s
theorem intBin_ok (op : BinOp) (t : TypeId) (k : IntKind) (x : Int) (k' : IntKind) (y : Int) {v : AV} (h : intBin op k x k' y = some v) :
    ∃ v', (binOp op t (.int k x) (.int k' y)).run P w = .ok v' w ∧ VRel ι w v v' := by
  cases op <;> simp only [intBin] at h
  case shl =>
    split at h; · cases h
    cases h; rename_i hb
    exact ⟨_, by simp only [binOp, Op.shift, if_neg hb]; rfl, .int _ _⟩
  case shr =>
    split at h; · cases h
    cases h; rename_i hb
    exact ⟨_, by simp only [binOp, Op.shift, if_neg hb]; rfl, .int _ _⟩
  all_goals
    split at h; · cases h
    rename_i hk
    have hk : k = k' := by simpa using hk
    subst hk
  case quo =>
    split at h; · cases h
    cases h; rename_i hb
    exact ⟨_, by simp only [binOp, ne_eq, not_true_eq_false, if_false, Op.intDiv, if_neg hb]; rfl, .int _ _⟩
  case rem =>
    split at h; · cases h
    cases h; rename_i hb
    exact ⟨_, by simp only [binOp, ne_eq, not_true_eq_false, if_false, Op.intDiv, if_neg hb]; rfl, .int _ _⟩
  all_goals first
    | (cases h; done)
    | (cases h; exact ⟨_, by simp only [binOp, ne_eq, not_true_eq_false, if_false, Op.intArith, Op.intBits, Op.intCmp]; rfl, .int _ _⟩)
    | (cases h; exact ⟨_, by simp only [binOp, ne_eq, not_true_eq_false, if_false, Op.intArith, Op.intBits, Op.intCmp]; rfl, .bool _⟩)
theorem strBin_ok (op : BinOp) (t : TypeId) (x y : ByteArray) {v : AV} (h : strBin op x.data.toList y.data.toList = some v) :
    ∃ v', (binOp op t (.string x) (.string y)).run P w = .ok v' w ∧ VRel ι w v v' := by
  cases op <;> simp only [strBin] at h
  case add =>
    split at h
    · cases h; rename_i hl
      refine ⟨.string (x ++ y), ?_, VRel.str' (by simp)⟩
      have h1 : ¬ (((x.size + y.size : Nat) : Int) > IntKind.i64.max) := by
        have hx : x.data.toList.length = x.size := Array.length_toList
        have hy : y.data.toList.length = y.size := Array.length_toList
        rw [hx, hy] at hl
        simp only [lim] at hl
        have : IntKind.i64.max = 9223372036854775807 := by decide
        omega
      simp only [binOp, Op.stringOp, if_neg h1]; rfl
    · cases h
  all_goals first
    | (cases h; done)
    | (cases h; exact ⟨_, by simp only [binOp, Op.stringOp, toList_eq]; rfl, .bool _⟩)
theorem bin_ok {op : BinOp} {t : TypeId} {x y : AV} {x' y' : Value} {v : AV} (hx : VRel ι w x x') (hy : VRel ι w y y') (h : AV.bin op x y = some v) :
    ∃ v', (binOp op t x' y').run P w = .ok v' w ∧ VRel ι w v v' := by
  unfold AV.bin at h
  split at h
  · cases hx; cases hy; exact intBin_ok _ _ _ _ _ _ h
  · cases hx; cases hy; exact strBin_ok _ _ _ _ h
  · cases h
theorem eqGuard_plain {op : BinOp} {t : TypeId} {x y : Operand} {v v' : Value} (h1 : ∀ b, v ≠ .agg b) (h2 : v ≠ .nilIface) : (eqGuard op t x y v v').run P w = .ok () w := by
  unfold eqGuard
  cases v <;> first
    | exact absurd rfl h2
    | exact absurd rfl (h1 _)
    | (cases op <;> rfl)
theorem eqGuard_agg {op : BinOp} {t : TypeId} {x y : Operand} {b c : Array Value} (h : P.eqGuardType P.depth t = false) : (eqGuard op t x y (.agg b) (.agg c)).run P w = .ok () w := by
  unfold eqGuard
  cases op <;> first | rfl | (simp [h])
theorem szOf_cells {t : TypeId} {n : Nat} (h : szOf P t = some n) : ∃ i, P.info? t = some i ∧ i.size = n := by
  simp only [szOf, Option.map_eq_some_iff] at h
  exact h
theorem run_sizeOf_sz {t : TypeId} {n : Nat} (h : szOf P t = some n) : (sizeOf t).run P w = .ok n w := by
  obtain ⟨i, hi, rfl⟩ := szOf_cells h
  simp [sizeOf, typeInfo, hi]
theorem run_isAgg_of {t : TypeId} {b : Bool} (h : aggB P t = some b) : (isAgg t).run P w = .ok b w := by
  simp only [aggB, Option.map_eq_some_iff] at h
  obtain ⟨d, hd, rfl⟩ := h
  unfold isAgg
  simp only [Sem.run_bind, run_underlying hd, Result.andThen_ok]
  cases d <;> rfl
theorem part_cell {t : TypeId} {X : Array Value} {off : Nat} {v : Value} (ha : aggB P t = some false) (hv : X[off]? = some v) : (part t X off).run P w = .ok v w := by
  unfold part
  simp only [Sem.run_bind, run_isAgg_of ha, Result.andThen_ok, Bool.false_eq_true, if_false, hv, Sem.run_pure]
theorem part_agg {t : TypeId} {X : Array Value} {off n : Nat} (ha : aggB P t = some true) (hn : szOf P t = some n) : (part t X off).run P w = .ok (.agg (X.extract off (off + n))) w := by
  unfold part
  simp only [Sem.run_bind, run_isAgg_of ha, Result.andThen_ok, if_true, run_sizeOf_sz hn, Sem.run_pure]
def Seg (ι : Nm) (w : World) (l : List AV) (X : Array Value) (off : Nat) : Prop :=
  off + l.length ≤ X.size ∧ ∀ (i : Nat) x y, l[i]? = some x → X[off + i]? = some y → VRel ι w x y
theorem Seg.head {x : AV} {l : List AV} {X : Array Value} {off : Nat} (h : Seg ι w (x :: l) X off) : ∃ v, X[off]? = some v ∧ VRel ι w x v := by
  have h1 := h.1
  simp at h1
  have h2 : X[off]? = some X[off] := Array.getElem?_eq_getElem (by omega)
  exact ⟨_, h2, h.2 0 x _ rfl (by simpa using h2)⟩
theorem Seg.left {l r : List AV} {X : Array Value} {off : Nat} (h : Seg ι w (l ++ r) X off) : Seg ι w l X off := by
  refine ⟨by have := h.1; simp at this; omega, fun i x y hx hy => h.2 i x y ?_ hy⟩
  have hi : i < l.length := (List.getElem?_eq_some_iff.1 hx).1
  rw [List.getElem?_append_left hi]; exact hx
theorem Seg.right {l r : List AV} {X : Array Value} {off : Nat} (h : Seg ι w (l ++ r) X off) : Seg ι w r X (off + l.length) := by
  refine ⟨by have := h.1; simp at this; omega, fun i x y hx hy => h.2 (l.length + i) x y ?_ (by rw [← hy]; congr 1; omega)⟩
  rw [List.getElem?_append_right (by omega), ← hx]; congr 1; omega
theorem Seg.extract {l : List AV} {X : Array Value} {off : Nat} (h : Seg ι w l X off) : Seg ι w l (X.extract off (off + l.length)) 0 := by
  have h1 := h.1
  refine ⟨by simp; omega, fun i x y hx hy => h.2 i x y hx ?_⟩
  have hi : i < l.length := (List.getElem?_eq_some_iff.1 hx).1
  rw [Array.getElem?_extract] at hy
  simp at hy
  exact hy.2
theorem Seg.of_agg {l : List AV} {X : Array Value} (h : VRel ι w (.agg l) (.agg X)) : Seg ι w l X 0 := by
  cases h with
  | agg hs h => exact ⟨by omega, fun i x y hx hy => h i x y hx (by simpa using hy)⟩
theorem cellsEq_length : ∀ {ks : List CK} {l m : List AV} {b : Bool}, cellsEq ks l m = some b → l.length = ks.length ∧ m.length = ks.length
  | [], [], [], _, _ => ⟨rfl, rfl⟩
  | c :: cs, x :: xs, y :: ys, b, h => by
    simp only [cellsEq, Option.bind_eq_some_iff] at h
    obtain ⟨_, _, _, h2, _⟩ := h
    obtain ⟨h3, h4⟩ := cellsEq_length h2
    simp [h3, h4]
  | [], _ :: _, _, _, h => by simp [cellsEq] at h
  | [], [], _ :: _, _, h => by simp [cellsEq] at h
  | _ :: _, [], _, _, h => by simp [cellsEq] at h
  | _ :: _, _ :: _, [], _, h => by simp [cellsEq] at h
theorem cellsEq_append : ∀ {k1 k2 : List CK} {l m : List AV} {b : Bool}, cellsEq (k1 ++ k2) l m = some b →
    ∃ b1 b2, cellsEq k1 (l.take k1.length) (m.take k1.length) = some b1 ∧ cellsEq k2 (l.drop k1.length) (m.drop k1.length) = some b2 ∧ b = (b1 && b2)
  | [], k2, l, m, b, h => ⟨true, b, by simp [cellsEq], by simpa using h, by simp⟩
  | c :: cs, k2, x :: xs, y :: ys, b, h => by
    simp only [List.cons_append, cellsEq, Option.bind_eq_some_iff] at h
    obtain ⟨b0, h0, b', h', h3⟩ := h
    obtain ⟨b1, b2, e1, e2, e3⟩ := cellsEq_append h'
    refine ⟨b0 && b1, b2, ?_, by simpa using e2, ?_⟩
    · simp [cellsEq, h0, e1]
    · cases h3; rw [e3, Bool.and_assoc]
  | _ :: _, _, [], _, _, h => by simp [cellsEq] at h
  | _ :: _, _, _ :: _, [], _, h => by simp [cellsEq] at h
theorem aggB_of {t : TypeId} {d : TypeDesc} (h : P.underlying t = some d) (b : Bool) (hb : (match d with | .struct _ | .array _ _ => true | _ => false) = b) : aggB P t = some b := by
  simp only [aggB, h, Option.map_some, ← hb]
  cases d <;> rfl
def eqFrom (d : Nat) (e : TypeId) (xs ys : Array Value) (s : Nat) : Nat → Nat → Sem Bool
  | _, 0 => pure true
  | i, n + 1 => do
    let a ← part e xs (i * s)
    let b ← part e ys (i * s)
    let r ← Op.equalIn d e a b
    if (!r) = true then pure false else eqFrom d e xs ys s (i + 1) n
theorem run_equalIn_array (d : Nat) (t e : TypeId) (n s : Nat) (xs ys : Array Value) (ht : P.underlying t = some (.array n e)) (hs : szOf P e = some s) :
    (Op.equalIn (d + 1) t (.agg xs) (.agg ys)).run P w = (eqFrom d e xs ys s 0 n).run P w := by
  simp only [Op.equalIn, Sem.run_bind, run_underlying ht, Result.andThen_ok, run_sizeOf_sz hs]
  rw [Std.Legacy.Range.forIn_eq_forIn_range']
  simp only [Std.Legacy.Range.size]
  have hn : (n - 0 + 1 - 1) / 1 = n := by simp
  rw [hn]
  clear hn ht
  generalize (0 : Nat) = i
  induction n generalizing i w with
  | zero => simp [eqFrom]
  | succ n ih =>
    simp only [List.range'_succ, List.forIn_cons, eqFrom, Sem.run_bind, Sem.run_ite]
    generalize (part e xs (i * s)).run P w = r1
    cases r1 with
    | halt _ _ => rfl
    | ok a w1 =>
      simp only [Result.andThen_ok]
      generalize (part e ys (i * s)).run P w1 = r2
      cases r2 with
      | halt _ _ => rfl
      | ok b w2 =>
        simp only [Result.andThen_ok]
        generalize (Op.equalIn d e a b).run P w2 = r3
        cases r3 with
        | halt _ _ => rfl
        | ok c w3 =>
          simp only [Result.andThen_ok]
          cases c
          · simp
          · have := @ih w3 (i + 1)
            simpa using this
theorem reps_succ (n : Nat) (ks : List CK) : reps (n + 1) ks = ks ++ reps n ks := by
  unfold reps
  match ks with
  | [] => simp
  | [k] => simp [List.replicate_succ]
  | _ :: _ :: _ => simp [List.replicate_succ]
theorem reps_zero (ks : List CK) : reps 0 ks = [] := by
  unfold reps
  match ks with
  | [] => rfl
  | [k] => rfl
  | _ :: _ :: _ => simp
theorem reps_length (n : Nat) (s : List CK) : (reps n s).length = n * s.length := by
  induction n with
  | zero => simp [reps_zero]
  | succ n ih => rw [reps_succ, List.length_append, ih, Nat.succ_mul]; omega
def ckOf : TypeDesc → Option CK
  | .int _ => some .i
  | .bool => some .b
  | .string => some .s
  | _ => none
theorem eq_one {d : Nat} {t : TypeId} {D : TypeDesc} {c : CK} (hu : P.underlying t = some D) (hc : ckOf D = some c) (X Y : Array Value) (ox oy : Nat) (lx ly : List AV) (b : Bool)
    (hX : Seg ι w lx X ox) (hY : Seg ι w ly Y oy) (hb : cellsEq [c] lx ly = some b) :
    ∃ vx vy, (part t X ox).run P w = .ok vx w ∧ (part t Y oy).run P w = .ok vy w ∧ (Op.equalIn (d + 1) t vx vy).run P w = .ok b w := by
  have hagg : aggB P t = some false := aggB_of hu false (by cases D <;> simp_all [ckOf])
  cases lx with
  | nil => simp [cellsEq] at hb
  | cons x lx =>
    cases ly with
    | nil => simp [cellsEq] at hb
    | cons y ly =>
      simp only [cellsEq, Option.bind_eq_some_iff] at hb
      obtain ⟨b0, h0, b1, h1, hb⟩ := hb
      have hb1 : b1 = true := by
        obtain ⟨e1, e2⟩ := cellsEq_length h1
        simp at e1 e2; subst e1; subst e2
        simp [cellsEq] at h1; exact h1
      subst hb1
      simp at hb; subst hb
      obtain ⟨vx, gx, rx⟩ := hX.head
      obtain ⟨vy, gy, ry⟩ := hY.head
      refine ⟨vx, vy, part_cell hagg gx, part_cell hagg gy, ?_⟩
      unfold cellEq at h0
      split at h0
      · split at h0
        · rename_i hk; subst hk
          cases h0; cases rx; cases ry
          cases D <;> simp [ckOf] at hc
          simp [Op.equalIn, run_underlying hu]
        · cases h0
      · cases h0; cases rx; cases ry
        cases D <;> simp [ckOf] at hc
        simp [Op.equalIn, run_underlying hu]
      · cases h0; cases rx; cases ry
        cases D <;> simp [ckOf] at hc
        simp only [Op.equalIn, run_underlying hu, Sem.run_bind, Result.andThen_ok, Sem.run_pure, beq_toListBytes, toList_eq]
      · cases h0
theorem eq_ok : ∀ (d : Nat) (t : TypeId) (ks : List CK), eqKinds P d t = some ks →
    ∀ (m : Nat) (W : World) (X Y : Array Value) (ox oy : Nat) (lx ly : List AV) (b : Bool), Seg ι W lx X ox → Seg ι W ly Y oy → cellsEq ks lx ly = some b →
      szOf P t = some ks.length ∧ ∃ vx vy, (part t X ox).run P W = .ok vx W ∧ (part t Y oy).run P W = .ok vy W ∧ (Op.equalIn (d + m) t vx vy).run P W = .ok b W
  | 0, _, _, h => by simp [eqKinds] at h
  | d + 1, t, ks, h => by
    intro m W X Y ox oy lx ly b hX hY hb
    have hd : d + 1 + m = (d + m) + 1 := by omega
    rw [hd]
    obtain ⟨hlx, hly⟩ := cellsEq_length hb
    simp only [eqKinds] at h
    split at h
    · rename_i k hu
      split at h
      · rename_i hs; cases h
        exact ⟨hs, eq_one hu rfl X Y ox oy lx ly b hX hY hb⟩
      · cases h
    · rename_i hu
      split at h
      · rename_i hs; cases h
        exact ⟨hs, eq_one hu rfl X Y ox oy lx ly b hX hY hb⟩
      · cases h
    · rename_i hu
      split at h
      · rename_i hs; cases h
        exact ⟨hs, eq_one hu rfl X Y ox oy lx ly b hX hY hb⟩
      · cases h
    · rename_i n e hu
      simp only [Option.bind_eq_some_iff] at h
      obtain ⟨s, hs, h⟩ := h
      split at h
      · rename_i hsz
        cases h
        have hlen : (reps n s).length = n * s.length := reps_length n s
        have hagg : aggB P t = some true := aggB_of hu true rfl
        refine ⟨by rw [hlen]; exact hsz.2, _, _, part_agg hagg hsz.2, part_agg hagg hsz.2, ?_⟩
        rw [run_equalIn_array (d + m) t e n s.length _ _ hu hsz.1]
        have hX' := hX.extract
        have hY' := hY.extract
        rw [hlx, hlen] at hX'
        rw [hly, hlen] at hY'
        generalize X.extract ox (ox + n * s.length) = xs at *
        generalize Y.extract oy (oy + n * s.length) = ys at *
        have key : ∀ (q i : Nat) (lx ly : List AV) (b : Bool), Seg ι W lx xs (i * s.length) → Seg ι W ly ys (i * s.length) → cellsEq (reps q s) lx ly = some b →
            (eqFrom (d + m) e xs ys s.length i q).run P W = .ok b W := by
          intro q
          induction q with
          | zero =>
            intro i lx ly b _ _ hb
            rw [reps_zero] at hb
            have hl := cellsEq_length hb
            obtain ⟨rfl, rfl⟩ : lx = [] ∧ ly = [] := by constructor <;> (apply List.eq_nil_of_length_eq_zero; simp [hl])
            simp [cellsEq] at hb
            simp [eqFrom, hb]
          | succ q ih =>
            intro i lx ly b sx sy hb
            rw [reps_succ] at hb
            obtain ⟨b1, b2, e1, e2, rfl⟩ := cellsEq_append hb
            rw [← List.take_append_drop s.length lx] at sx
            rw [← List.take_append_drop s.length ly] at sy
            obtain ⟨l1, l2⟩ := cellsEq_length e1
            obtain ⟨_, vx, vy, g1, g2, g3⟩ := eq_ok d e s hs m W xs ys (i * s.length) (i * s.length) _ _ b1 sx.left sy.left e1
            simp only [eqFrom, Sem.run_bind, g1, g2, g3, Result.andThen_ok, Sem.run_ite, Sem.run_pure]
            cases b1
            · simp
            · have h1 := sx.right
              have h2 := sy.right
              rw [l1, ← Nat.succ_mul] at h1
              rw [l2, ← Nat.succ_mul] at h2
              have := ih (i + 1) _ _ b2 h1 h2 e2
              simpa using this
        exact key n 0 lx ly b (by simpa using hX') (by simpa using hY') hb
      · cases h
    · rename_i fs hu
      simp only [Option.bind_eq_some_iff] at h
      obtain ⟨s, hs, h⟩ := h
      split at h
      · rename_i hsz
        cases h
        have hagg : aggB P t = some true := aggB_of hu true rfl
        refine ⟨hsz.1, _, _, part_agg hagg hsz.1, part_agg hagg hsz.1, ?_⟩
        have hfo : P.fieldsOf t = fs := by simp [Program.fieldsOf, hu]
        rw [run_equalIn_struct W (d + m) t _ _ (by rw [hfo]; exact hu) hsz.2, hfo]
        have hX' := hX.extract
        have hY' := hY.extract
        rw [hlx] at hX'
        rw [hly] at hY'
        generalize X.extract ox (ox + ks.length) = xs at *
        generalize Y.extract oy (oy + ks.length) = ys at *
        have key : ∀ (fl : List Field) (at_ : Nat) (ks : List CK) (lx ly : List AV) (b : Bool), eqFieldsK P (eqKinds P d) fl at_ = some ks → Seg ι W lx xs at_ → Seg ι W ly ys at_ → cellsEq ks lx ly = some b →
            (Op.eqFields (d + m) xs ys fl).run P W = .ok b W := by
          intro fl
          induction fl with
          | nil =>
            intro at_ ks lx ly b h _ _ hb
            simp [eqFieldsK] at h; subst h
            have hl := cellsEq_length hb
            obtain ⟨rfl, rfl⟩ : lx = [] ∧ ly = [] := by constructor <;> (apply List.eq_nil_of_length_eq_zero; simp [hl])
            simp [cellsEq] at hb
            simp [Op.eqFields, hb]
          | cons f fl ih =>
            intro at_ ks lx ly b h sx sy hb
            simp only [eqFieldsK, Option.bind_eq_some_iff] at h
            obtain ⟨s, hs, h⟩ := h
            split at h
            · rename_i hf
              simp only [Option.bind_eq_some_iff] at h
              obtain ⟨r, hr, h⟩ := h
              cases h
              obtain ⟨b1, b2, e1, e2, rfl⟩ := cellsEq_append hb
              rw [← List.take_append_drop s.length lx] at sx
              rw [← List.take_append_drop s.length ly] at sy
              obtain ⟨l1, l2⟩ := cellsEq_length e1
              obtain ⟨_, vx, vy, g1, g2, g3⟩ := eq_ok d f.type s hs m W xs ys at_ at_ _ _ b1 sx.left sy.left e1
              simp only [Op.eqFields, hf.1, if_true, hf.2.1, Sem.run_bind, g1, g2, g3, Result.andThen_ok, Sem.run_ite, Sem.run_pure, ne_eq, not_false_eq_true]
              cases b1
              · simp
              · have h1 := sx.right
                have h2 := sy.right
                rw [l1] at h1
                rw [l2] at h2
                have := ih _ _ _ _ b2 hr h1 h2 e2
                simpa using this
            · cases h
        exact key fs.toList 0 ks lx ly b hs hX' hY' hb
      · cases h
    · cases h
theorem eqg_ok {op : BinOp} {neg : Bool} (hop : (op = .eql ∧ neg = false) ∨ (op = .neq ∧ neg = true)) {t : TypeId} {ks : List CK} (hks : eqKinds P 100 t = some ks)
    (hagg : match P.underlying t with | some (.array _ _) | some (.struct _) => True | _ => False)
    {x y : AV} {x' y' : Value} {v : AV} (hx : VRel ι w x x') (hy : VRel ι w y y') (h : AV.eqg neg ks x y = some v) :
    ∃ b c v', x' = .agg b ∧ y' = .agg c ∧ (binOp op t x' y').run P w = .ok v' w ∧ VRel ι w v v' := by
  unfold AV.eqg at h
  split at h
  · rename_i l m
    simp only [Option.bind_eq_some_iff] at h
    obtain ⟨b, hb, h⟩ := h
    cases h
    have hx2 := hx
    have hy2 := hy
    cases hx2 with
    | agg hsx hx1 =>
    cases hy2 with
    | agg hsy hy1 =>
    rename_i X Y
    obtain ⟨hl1, hl2⟩ := cellsEq_length hb
    obtain ⟨hsz, vx, vy, g1, g2, g3⟩ := eq_ok (P := P) 100 t ks hks 9900 w X Y 0 0 l m b (Seg.of_agg hx) (Seg.of_agg hy) hb
    have ha : aggB P t = some true := by
      unfold aggB
      cases hu : P.underlying t with
      | none => simp [hu] at hagg
      | some D => rw [hu] at hagg; cases D <;> simp_all
    rw [part_agg ha hsz] at g1 g2
    cases g1; cases g2
    have ex : X.extract 0 (0 + ks.length) = X := by rw [Nat.zero_add, ← hl1, hsx]; simp
    have ey : Y.extract 0 (0 + ks.length) = Y := by rw [Nat.zero_add, ← hl2, hsy]; simp
    rw [ex, ey] at g3
    have g3 : (Op.equalIn 10000 t (.agg X) (.agg Y)).run P w = .ok b w := g3
    refine ⟨X, Y, .bool (bif neg then !b else b), rfl, rfl, ?_, .bool _⟩
    rcases hop with ⟨rfl, rfl⟩ | ⟨rfl, rfl⟩
    · simp [binOp, Op.equal, Op.maxDepth, g3]
    · simp [binOp, Op.equal, Op.maxDepth, g3]
  · cases h
end
end Go.Sx
namespace Go.Sx
open Go
section
variable {P : Program} {ι : Nm} {w : World} {N : Nat} {e : Env} {a : Act} {H : Heap} {hp : PH}
structure At (ι : Nm) (hp : PH) (w : World) (N : Nat) (e : Env) (a : Act) (H : Heap) : Prop where
  rel : Rel ι hp w
  env : EnvRel ι w N e a.tmps
  here : ∀ b B c, H[b]? = some B → B.cells? = some c → hp b = some B
theorem piece_rel {l : List AV} {X : Array Value} (hX : Seg ι w l X 0) {off : Nat} {n : Option Nat} {v : AV} (h : piece l off n = some v) {t : TypeId} (hp : partOf P t = some n) :
    ∃ v', (part t X off).run P w = .ok v' w ∧ VRel ι w v v' := by
  unfold partOf at hp
  simp only [Option.bind_eq_some_iff] at hp
  obtain ⟨g, hg, hp⟩ := hp
  cases g with
  | false =>
    simp at hp; subst hp
    simp only [piece] at h
    have hi : off < l.length := (List.getElem?_eq_some_iff.1 h).1
    have h1 := hX.1
    have h2 : X[off]? = some X[off] := Array.getElem?_eq_getElem (by omega)
    exact ⟨_, part_cell hg h2, hX.2 off v _ h (by simpa using h2)⟩
  | true =>
    simp only [Option.bind_eq_some_iff] at hp
    obtain ⟨s, hs, hp⟩ := hp
    cases hp
    simp only [piece] at h
    split at h
    · rename_i hle
      cases h
      have h1 := hX.1
      refine ⟨_, part_agg hg hs, .agg (by simp; omega) fun i x y hx hy => ?_⟩
      rw [List.getElem?_take] at hx
      split at hx
      · rw [List.getElem?_drop] at hx
        rw [Array.getElem?_extract] at hy
        simp at hy
        exact hX.2 _ x y hx (by simpa using hy.2)
      · cases hx
    · cases h
theorem Rel.cells {b : Nat} {B : Blk} {c : List AV} (h : Rel ι hp w) (hb : hp b = some B) (hc : B.cells? = some c) : ∃ k base C T fz, ι b = some (k, base) ∧ w.heap[k]? = some (.cells C T fz) ∧ CellsAt ι w c C base := by
  cases B with
  | rw c' =>
    simp [Blk.cells?] at hc; subst hc
    obtain ⟨k, C, T, fz, e1, e2, _, e5⟩ := h.rw b _ hb
    exact ⟨k, 0, C, T, fz, e1, e2, e5⟩
  | ro c' =>
    simp [Blk.cells?] at hc; subst hc
    obtain ⟨k, base, C, T, fz, e1, e2, e5⟩ := h.ro b _ hb
    exact ⟨k, base, C, T, fz, e1, e2, e5⟩
  | dead => simp [Blk.cells?] at hc
theorem At.cells {b : Nat} {c : List AV} (A : At ι hp w N e a H) (hc : cellsOf H b = some c) : ∃ k base C T fz, ι b = some (k, base) ∧ w.heap[k]? = some (.cells C T fz) ∧ CellsAt ι w c C base := by
  simp only [cellsOf, Option.bind_eq_some_iff] at hc
  obtain ⟨B, hB, hc⟩ := hc
  exact A.rel.cells (A.here b B c hB hc) hc
theorem Addr.add_off (k o j : Nat) : (⟨k, o, none⟩ : Addr).add j = ⟨k, o + j, none⟩ := by
  unfold Addr.add
  split
  · simp_all
  · rfl
theorem loadCells_ok {k base : Nat} {C : Array Value} {T : TypeId} {fz : Nat × Nat} {c : List AV} (hk : w.heap[k]? = some (.cells C T fz)) (hc : CellsAt ι w c C base) {o n : Nat} (hn : o + n ≤ c.length) :
    ∃ vs : List Value, (loadCells ⟨k, base + o, none⟩ n).run P w = .ok vs.toArray w ∧ LRel ι w ((c.drop o).take n) vs := by
  obtain ⟨e3, e4⟩ := hc
  have hv : ∀ j, j < n → w.cell? ((⟨k, base + o, none⟩ : Addr).add j) = some (C[base + o + j]?.getD undef) := by
    intro j hj
    have hj2 : base + o + j < C.size := by omega
    rw [Addr.add_off]
    simp [World.cell?, hk, hj2]
  refine ⟨(List.range n).map fun j => C[base + o + j]?.getD undef, run_loadCells (w := w) (P := P) _ n _ hv, by simp; omega, fun i x y hx hy => ?_⟩
  rw [List.getElem?_take] at hx
  split at hx
  · rename_i hi
    rw [List.getElem?_drop] at hx
    obtain ⟨v', a1, a2⟩ := e4 (o + i) x hx
    have : y = v' := by
      rw [List.getElem?_map, List.getElem?_range hi] at hy
      simp only [Option.map_some, Option.some.injEq] at hy
      rw [← hy, show base + o + i = base + (o + i) by omega, a1]; rfl
    rw [this]; exact a2
  · cases hx
theorem ld_ok (A : At ι hp w N e a H) {n : Option Nat} {x v : AV} {x' : Value} (hx : VRel ι w x x') (h : ld H n x = some v) {t : TypeId} (ht : partOf P t = some n) :
    ∃ v', (Instr.loadAt t x').run P w = .ok v' w ∧ VRel ι w v v' := by
  unfold ld at h
  split at h
  · rename_i b o
    simp only [Option.bind_eq_some_iff] at h
    obtain ⟨c, hc, h⟩ := h
    obtain ⟨k, base, C, T, fz, e1, e2, e3⟩ := A.cells hc
    cases hx with
    | ptr hi =>
    rw [e1] at hi; cases hi
    unfold partOf at ht
    simp only [Option.bind_eq_some_iff] at ht
    obtain ⟨g, hg, ht⟩ := ht
    cases g with
    | false =>
      simp at ht; subst ht
      simp only [piece] at h
      obtain ⟨v', a1, a2⟩ := e3.2 o v h
      have a1 : w.cell? ⟨k, base + o, none⟩ = some v' := by simpa [World.cell?, e2] using a1
      refine ⟨v', ?_, a2⟩
      simp only [Instr.loadAt, Instr.sureAddr, loadVar, Sem.run_bind, Sem.run_pure, Result.andThen_ok, run_isAgg_of hg, Bool.false_eq_true, if_false, run_load, a1]
    | true =>
      simp only [Option.bind_eq_some_iff] at ht
      obtain ⟨s, hs, ht⟩ := ht
      cases ht
      simp only [piece] at h
      split at h
      · rename_i hle
        cases h
        obtain ⟨vs, g1, g2⟩ := loadCells_ok (P := P) e2 e3 hle
        refine ⟨.agg vs.toArray, ?_, .agg (by simpa using g2.1) fun i x y hx hy => g2.2 i x y hx (by simpa using hy)⟩
        simp only [Instr.loadAt, Instr.sureAddr, loadVar, Sem.run_bind, Sem.run_pure, Result.andThen_ok, run_isAgg_of hg, if_true, run_sizeOf_sz hs, g1]
      · cases h
  · cases h
theorem src_ok (A : At ι hp w N e a H) {sz : Nat} {x : AV} {x' : Value} {m : Nat} {xs : List AV} (hx : VRel ι w x x') (h : srcCells H sz x = some (m, xs)) (n : Nat) (hn : n ≤ m) :
    (Builtin.lenOf x').run P w = .ok m w ∧ xs.length = m * sz ∧ ∃ vs : List Value, (Builtin.firstCells sz n x').run P w = .ok vs.toArray w ∧ LRel ι w (xs.take (n * sz)) vs := by
  unfold srcCells at h
  split at h
  · cases h; cases hx
    have : n = 0 := by omega
    subst this
    exact ⟨rfl, by simp, [], rfl, by simpa using LRel.nil⟩
  · split at h
    · rename_i hsz
      cases h; cases hx
      rename_i s
      subst hsz
      have hlen : s.data.toList.length = s.size := Array.length_toList
      refine ⟨by simp [Builtin.lenOf, hlen], by simp [byteCells], (s.data.toList.take n).map fun b => .int .u8 b.toNat, ?_, ?_⟩
      · simp only [Builtin.firstCells, Sem.run_pure]
        congr 1
        apply Array.ext'
        simp [ByteArray.extract, ByteArray.copySlice]
      · simp only [Nat.mul_one, byteCells]
        rw [← List.map_take]
        refine ⟨by simp, fun i x y hx hy => ?_⟩
        simp only [List.getElem?_map, Option.map_eq_some_iff] at hx hy
        obtain ⟨p, hp, rfl⟩ := hx
        obtain ⟨q, hq, rfl⟩ := hy
        rw [hp] at hq; cases hq
        exact .int _ _
    · cases h
  · rename_i b o len cap sz'
    simp only [Option.bind_eq_some_iff] at h
    obtain ⟨c, hc, h⟩ := h
    split at h
    · rename_i hcond
      obtain ⟨hsz, hle⟩ := hcond
      cases h
      obtain ⟨k, base, C, T, fz, e1, e2, e3⟩ := A.cells hc
      cases hx with
      | sl hi hl hcap hm ho =>
      rw [e1] at hi; cases hi
      rename_i cap' o'
      refine ⟨rfl, by simp [List.length_take]; omega, ?_⟩
      have hns : n * sz ≤ m * sz := Nat.mul_le_mul_right _ hn
      obtain ⟨vs, g1, g2⟩ := loadCells_ok (P := P) (o := o) (n := n * sz) e2 e3 (by omega)
      refine ⟨vs, ?_, ?_⟩
      · simp only [Builtin.firstCells]
        rcases ho with h0 | h0
        · have : n * sz = 0 := by have : n = 0 := by omega
                                  subst this; simp
          rw [this] at g1 ⊢
          simp [loadCells, loadCellsFrom] at g1 ⊢
          exact g1
        · rw [h0]; exact g1
      · rw [List.take_take, Nat.min_eq_left hns]; exact g2
    · cases h
  · cases h
theorem VRel.of_ptr {b o : Nat} {v : Value} (h : VRel ι w (.ptr b o) v) : ∃ k base, ι b = some (k, base) ∧ v = .pointer (some ⟨k, base + o, none⟩) := by
  cases h with
  | ptr hi => exact ⟨_, _, hi, rfl⟩
theorem run_sureAddr {a : Addr} : (Instr.sureAddr (.pointer (some a))).run P w = .ok a w := rfl
theorem bnd_ok {x : Option AV} {x' : Option Value} {d m : Nat} {r : Nat} (h : bnd x d m = some r) (hx : ∀ y, x = some y → ∃ y', x' = some y' ∧ VRel ι w y y') (hn : x = none → x' = none) (M : Nat) (hM : m ≤ M) (code : BoundsCode) :
    (x = none ∧ x' = none ∧ r = d) ∨ ∃ y', x' = some y' ∧ (Instr.sliceBound y' M code).run P w = .ok r w ∧ r ≤ m := by
  unfold bnd at h
  split at h
  · cases h; exact .inl ⟨rfl, hn rfl, rfl⟩
  · rename_i k i
    split at h
    · rename_i hi
      cases h
      obtain ⟨y', e1, e2⟩ := hx _ rfl
      cases e2
      refine .inr ⟨_, e1, ?_, by omega⟩
      have : (0 : Int) ≤ i ∧ i ≤ (M : Int) := ⟨hi.1, by omega⟩
      simp [Instr.sliceBound, asIntOf, this]
    · cases h
  · cases h
theorem bounds_ok {len cap cap' : Nat} {lo hi mx : Option AV} {lo' hi' mx' : Option Value} {r : Nat × Nat × Nat} {isS : Bool} (h : bounds len cap lo hi mx = some r) (hlc : len ≤ cap) (hc : cap ≤ cap')
    (hlo : ∀ y, lo = some y → ∃ y', lo' = some y' ∧ VRel ι w y y') (hhi : ∀ y, hi = some y → ∃ y', hi' = some y' ∧ VRel ι w y y') (hmx : ∀ y, mx = some y → ∃ y', mx' = some y' ∧ VRel ι w y y')
    (nlo : lo = none → lo' = none) (nhi : hi = none → hi' = none) (nmx : mx = none → mx' = none) (hboth : mx ≠ none → hi ≠ none) :
    ∃ m', (Instr.sliceBounds isS len cap' lo' hi' mx').run P w = .ok (r.1, r.2.1, m') w ∧ r.1 ≤ r.2.1 ∧ r.2.1 ≤ r.2.2 ∧ r.2.2 ≤ m' ∧ r.2.2 ≤ cap ∧ m' ≤ cap' ∧ (m' = r.2.2 ∨ (m' = cap' ∧ r.2.2 = cap)) := by
  unfold bounds at h
  simp only [Option.bind_eq_some_iff] at h
  obtain ⟨m, hm, h', hh, l, hl, hr⟩ := h
  cases hr
  unfold Instr.sliceBounds
  simp only
  have fin : ∀ M, h' ≤ m → m ≤ M → (do
      let l ← match lo' with
        | some v => Instr.sliceBound v h' (if mx'.isSome then .slice3C else .sliceB)
        | none => pure 0
      pure (l, h', M) : Sem (Nat × Nat × Nat)).run P w = .ok (l, h', M) w ∧ l ≤ h' := by
    intro M hhm hM
    rcases bnd_ok (P := P) hl hlo nlo h' (Nat.le_refl _) (if mx'.isSome then .slice3C else .sliceB) with ⟨_, e2, e3⟩ | ⟨y', e2, e3, e4⟩
    · subst e3; simp [e2]
    · simp [e2, e3]; omega
  rcases bnd_ok (P := P) hm hmx nmx cap' hc (if isS then .slice3Acap else .slice3Alen) with ⟨a1, a2, a3⟩ | ⟨y', a2, a3, a4⟩
  · subst a3
    rcases bnd_ok (P := P) hh hhi nhi cap' hc (if isS then .sliceAcap else .sliceAlen) with ⟨b1, b2, b3⟩ | ⟨z', b2, b3, b4⟩
    · subst b3
      obtain ⟨f1, f2⟩ := fin cap' hlc hc
      refine ⟨cap', ?_, f2, hlc, hc, Nat.le_refl _, Nat.le_refl _, .inr ⟨rfl, rfl⟩⟩
      rw [a2] at f1 ⊢
      rw [b2]
      simp only [Sem.run_bind, Sem.run_pure, Result.andThen_ok]
      simp only [Sem.run_bind] at f1
      exact f1
    · obtain ⟨f1, f2⟩ := fin cap' b4 hc
      refine ⟨cap', ?_, f2, b4, hc, Nat.le_refl _, Nat.le_refl _, .inr ⟨rfl, rfl⟩⟩
      rw [a2] at f1 ⊢
      rw [b2]
      simp only [Sem.run_bind, Sem.run_pure, Result.andThen_ok, b3]
      simp only [Sem.run_bind] at f1
      exact f1
  · rcases bnd_ok (P := P) hh hhi nhi m (Nat.le_refl _) .slice3B with ⟨b1, b2, b3⟩ | ⟨z', b2, b3, b4⟩
    · exact absurd b1 (hboth (by intro hn; rw [nmx hn] at a2; cases a2))
    · obtain ⟨f1, f2⟩ := fin m b4 (Nat.le_refl _)
      refine ⟨m, ?_, f2, b4, Nat.le_refl _, a4, by omega, .inl rfl⟩
      rw [a2] at f1 ⊢
      rw [b2]
      simp only [Sem.run_bind, Sem.run_pure, Result.andThen_ok, a3, b3]
      simp only [Sem.run_bind] at f1
      exact f1
theorem VRel.vcells {v : AV} {v' : Value} {vs : List AV} (h : VRel ι w v v') (hv : v.vcells = some vs) : LRel ι w vs v'.cells.toList := by
  cases h <;> simp [AV.vcells] at hv
  case agg hs h => subst hv; exact ⟨by simpa [Value.cells] using hs, fun i x y hx hy => h i x y hx (by simpa [Value.cells] using hy)⟩
  all_goals (subst hv; exact LRel.cons (by constructor <;> assumption) LRel.nil)
theorem foldl_set (off : Nat) : ∀ (vs : List Value) (j : Nat) (C : Array Value), off + j + vs.length ≤ C.size →
    ((vs.zipIdx j).foldl (fun cs (p : Value × Nat) => cs.setIfInBounds (off + p.2) p.1) C).toList = C.toList.take (off + j) ++ vs ++ C.toList.drop (off + j + vs.length)
  | [], j, C, _ => by simp
  | v :: vs, j, C, h => by
    simp only [List.length_cons] at h
    rw [List.zipIdx_cons, List.foldl_cons, foldl_set off vs (j + 1) _ (by simp; omega)]
    simp only [Array.toList_setIfInBounds, List.length_cons]
    rw [show off + (j + 1) = off + j + 1 by omega, show off + j + 1 + vs.length = off + j + (vs.length + 1) by omega]
    rw [List.drop_set_of_lt (by omega)]
    have hl : off + j < C.toList.length := by simp; omega
    rw [List.take_succ_eq_append_getElem (by simpa using hl)]
    simp [List.take_set]
    rw [List.set_eq_of_length_le (by simp; omega)]
theorem put_eq (c : List AV) (o : Nat) (vs : List AV) (h : o + vs.length ≤ c.length) : put c o vs = c.take o ++ vs ++ c.drop (o + vs.length) := by
  unfold put
  split
  · rename_i v
    simp only [List.length_cons, List.length_nil] at h ⊢
    rw [List.set_eq_take_append_cons_drop]
    simp [show o < c.length by omega]
  · rfl
theorem put_rel {c vs : List AV} {C us : List Value} {o : Nat} (hc : LRel ι w c C) (hv : LRel ι w vs us) (h : o + vs.length ≤ c.length) : LRel ι w (put c o vs) (C.take o ++ us ++ C.drop (o + us.length)) := by
  rw [put_eq c o vs h]
  have := ((hc.take o).append hv).append (hc.drop (o + us.length))
  rw [hv.1]; exact this
theorem put_length {c vs : List AV} {o : Nat} (h : o + vs.length ≤ c.length) : (put c o vs).length = c.length := by
  rw [put_eq c o vs h]; simp; omega
theorem fill_ok {pl pl2 : Nat → Option (Nat × Nat)} (hpl : ∀ i p, pl i = some p → pl2 i = some p) (hE : EnvRel ι w N e a.tmps) : ∀ {ps : List (Nat × Operand)} {qs : List (Nat × Nat × Opd)} {c : List AV} {C : Array Value} {c' : List AV},
    cParts pl ps = some qs → LRel ι w c C.toList → fillA c (qs.map fun p => (p.1, p.2.1, p.2.2.ev e)) = some c' →
    ∃ C', Instr.fill pl2 C (ps.map fun p => (p.1, a.eval p.2)) = some C' ∧ LRel ι w c' C'.toList
  | [], qs, c, C, c', h, hc, hf => by
    simp [cParts] at h; subst h
    simp [fillA] at hf; subst hf
    exact ⟨C, rfl, hc⟩
  | (i, x) :: ps, qs, c, C, c', h, hc, hf => by
    simp only [cParts, Option.bind_eq_some_iff] at h
    obtain ⟨p, hp, y, hy, r, hr, h⟩ := h
    cases h
    simp only [List.map_cons, fillA, Option.bind_eq_some_iff] at hf
    obtain ⟨vs, hvs, hf⟩ := hf
    split at hf
    · rename_i hcond
      have hv := (cOpd_rel hy hE).vcells hvs
      have hlen : vs.length = (a.eval x).cells.size := by simpa using hv.1
      have hclen : c.length = C.size := by simpa using hc.1
      obtain ⟨p1, p2⟩ := p
      simp only at hcond hf
      have hsz : (a.eval x).cells.size = p2 := by omega
      have hrel := put_rel hc hv (o := p1) (by omega)
      have hset := foldl_set p1 (a.eval x).cells.toList 0 C (by simp; omega)
      have hz : (a.eval x).cells.zipIdx.toList = (a.eval x).cells.toList.zipIdx := by simp
      obtain ⟨C', g1, g2⟩ := fill_ok hpl hE hr (C := ((a.eval x).cells.zipIdx.foldl (fun cs (c, j) => cs.setIfInBounds (p1 + j) c) C)) (by
        rw [← Array.foldl_toList, hz]
        simp only [Nat.add_zero] at hset
        rw [hset]; exact hrel) hf
      refine ⟨C', ?_, g2⟩
      simp only [List.map_cons, Instr.fill, hpl i _ hp]
      have : ((a.eval x).cells.size ≠ p2 || decide (p1 + (a.eval x).cells.size > C.size)) = false := by simp; omega
      rw [if_neg (by simpa using this)]
      exact g1
    · cases hf
theorem constAVs_rel : ∀ {l : List Value} {r : List AV}, constAVs l = some r → LRel ι w r l ∧ r.all AV.isCell = true
  | [], r, h => by simp [constAVs] at h; subst h; exact ⟨LRel.nil, rfl⟩
  | x :: l, r, h => by
    simp only [constAVs, Option.bind_eq_some_iff] at h
    obtain ⟨y, hy, r', hr, hh⟩ := h
    split at hh
    · rename_i hc
      cases hh
      obtain ⟨h1, h2⟩ := constAVs_rel hr
      exact ⟨LRel.cons (constAV_rel hy) h1, by simp [hc, h2]⟩
    · cases hh
theorem zeroOf_ok {t : TypeId} {z : List AV} (h : zeroOf P t = some z) : ∃ i v, P.info? t = some i ∧ i.zero = some v ∧ LRel ι w z v.cells.toList ∧ z.all AV.isCell = true ∧ (zeroValue t).run P w = .ok v w := by
  simp only [zeroOf, Option.bind_eq_some_iff] at h
  obtain ⟨i, hi, v, hv, h⟩ := h
  obtain ⟨h1, h2⟩ := constAVs_rel (ι := ι) (w := w) h
  exact ⟨i, v, hi, hv, h1, h2, by simp [zeroValue, typeInfo, hi, hv]⟩
theorem zeros_succ (n : Nat) (z : List AV) : zeros (n + 1) z = z ++ zeros n z := by
  unfold zeros
  match z with
  | [] => simp
  | [k] => simp [List.replicate_succ]
  | _ :: _ :: _ => simp [List.replicate_succ]
theorem zeros_zero (z : List AV) : zeros 0 z = [] := by
  unfold zeros
  match z with
  | [] => rfl
  | [k] => rfl
  | _ :: _ :: _ => simp
theorem made_ok {z : List AV} {Z : Array Value} (h : LRel ι w z Z.toList) (hz : z ≠ []) (n m : Nat) (hm : m = n * Z.size) : LRel ι w (zeros n z) ((Array.range m).map fun i => Z[i % Z.size]!).toList := by
  subst hm
  have hpos : 0 < Z.size := by
    have := h.1
    simp at this
    rcases Nat.eq_zero_or_pos Z.size with h0 | h0
    · exact absurd (List.eq_nil_of_length_eq_zero (by omega)) hz
    · exact h0
  have key : ((Array.range (n * Z.size)).map fun i => Z[i % Z.size]!).toList = (List.replicate n Z.toList).flatten := by
    simp only [Array.toList_map, Array.toList_range]
    induction n with
    | zero => simp
    | succ n ih =>
      rw [List.replicate_succ, List.flatten_cons, ← ih, Nat.succ_mul, Nat.add_comm, List.range_add, List.map_append, List.map_map]
      congr 1
      · apply List.ext_getElem (by simp)
        intro i h1 h2
        simp at h1 h2
        simp [Nat.mod_eq_of_lt h1, h1]
      · apply List.map_congr_left
        intro i _
        simp
  rw [key]
  clear key
  induction n with
  | zero => simpa [zeros_zero] using LRel.nil
  | succ n ih => rw [zeros_succ, List.replicate_succ, List.flatten_cons]; exact h.append ih
theorem zeros_cells {z : List AV} (n : Nat) (h : z.all AV.isCell = true) : (zeros n z).all AV.isCell = true := by
  induction n with
  | zero => simp [zeros_zero]
  | succ n ih => rw [zeros_succ, List.all_append, h, ih]; rfl
end
end Go.Sx
namespace Go.Sx
open Go
section
variable {P : Program} {ι : Nm} {w : World} {N : Nat} {e : Env} {a : Act} {H : Heap} {hp : PH} {Γ : Fns}
theorem exec_v {o : Oper} {s : Sem Value} {v' : Value} (ho : execOp a.eval o = (do pure (.value (← s)))) (h : s.run P w = .ok v' w) : (execOp a.eval o).run P w = .ok (.value v') w := by
  rw [ho]; simp [h]
theorem cOpt_rel (hE : EnvRel ι w N e a.tmps) {x : Option Operand} {y : Option Opd} (h : cOpt x = some y) :
    (∀ z, y.map (Opd.ev e) = some z → ∃ z', x.map a.eval = some z' ∧ VRel ι w z z') ∧ (y.map (Opd.ev e) = none → x.map a.eval = none) := by
  cases x with
  | none => simp [cOpt] at h; subst h; simp
  | some x =>
    simp only [cOpt, Option.bind_eq_some_iff] at h
    obtain ⟨z, hz, h⟩ := h
    cases h
    simp
    exact cOpd_rel hz hE
theorem asInt_of {k : IntKind} {n : Int} {v : Value} (h : VRel ι w (.int k n) v) : (asIntOf v).run P w = .ok (k, n) w := by cases h; rfl
theorem asB_some {x : AV} {b : Bool} (h : x.asB = some b) : x = .bool b := by
  cases x <;> simp [AV.asB] at h
  subst h; rfl
theorem idxP_ok' {t el : TypeId} {n sz : Nat} (hu : P.underlying t = some (.array n el)) (hs : szOf P el = some sz) {x i v : AV} {x' i' : Value} (hx : VRel ι w x x') (hi : VRel ι w i i') (h : AV.idxP n sz x i = some v) :
    ∃ v', (Instr.indexAt t x' i').run P w = .ok v' w ∧ VRel ι w v v' := by
  unfold AV.idxP at h
  split at h
  · rename_i b o k j
    split at h
    · rename_i hj
      cases h
      obtain ⟨kk, base, e1, rfl⟩ := hx.of_ptr
      refine ⟨.pointer (some ⟨kk, base + (o + j.toNat * sz), none⟩), ?_, .ptr e1⟩
      have hj' : 0 ≤ j ∧ j < (n : Int) := hj
      simp only [Instr.indexAt, Sem.run_bind, asInt_of hi, Result.andThen_ok, run_underlying hu, run_sureAddr, Sem.run_pure, hj', and_self, if_true, run_sizeOf_sz hs, Addr.add_off]
      rw [Nat.add_assoc]
    · cases h
  · cases h
theorem idxS_ok' {t el : TypeId} {sz : Nat} (hu : P.underlying t = some (.slice el)) (hs : szOf P el = some sz) {x i v : AV} {x' i' : Value} (hx : VRel ι w x x') (hi : VRel ι w i i') (h : AV.idxS sz x i = some v) :
    ∃ v', (Instr.indexAt t x' i').run P w = .ok v' w ∧ VRel ι w v v' := by
  unfold AV.idxS at h
  split at h
  · rename_i b o len cap sz' k j
    split at h
    · rename_i hj
      obtain ⟨h1, h2, h3⟩ := hj
      cases h
      cases hx with
      | sl hb hl hc hm ho =>
      rename_i kk base cap' o'
      have ho' : o' = base + o := by
        rcases ho with h0 | h0
        · omega
        · exact h0
      refine ⟨.pointer (some ⟨kk, base + (o + j.toNat * sz), none⟩), ?_, .ptr hb⟩
      have hj' : 0 ≤ j ∧ j < (len : Int) := ⟨h2, h3⟩
      simp only [Instr.indexAt, Sem.run_bind, asInt_of hi, Result.andThen_ok, run_underlying hu, Sem.run_pure, hj', and_self, if_true, run_sizeOf_sz hs, Addr.add_off, ho']
      rw [Nat.add_assoc]
    · cases h
  · cases h
theorem idx_ok' {t el : TypeId} {len : Nat} {n : Option Nat} {s : Nat} (hu : P.underlying t = some (.array len el)) (hpo : partOf P el = some n) (hs : szOf P el = some s) (hn : n.getD 1 = s) {x i v : AV} {x' i' : Value} (hx : VRel ι w x x') (hi : VRel ι w i i') (h : AV.idx len n x i = some v) :
    ∃ v', (Instr.index t x' i').run P w = .ok v' w ∧ VRel ι w v v' := by
  unfold AV.idx at h
  split at h
  · rename_i l k j
    split at h
    · rename_i hj
      have hx2 := hx
      cases hx2 with
      | agg hsz hh =>
      rename_i X
      obtain ⟨v', g1, g2⟩ := piece_rel (P := P) (Seg.of_agg hx) h hpo
      refine ⟨v', ?_, g2⟩
      have hj' : 0 ≤ j ∧ j < (len : Int) := hj
      rw [hn] at g1
      simp only [Instr.index, Sem.run_bind, asInt_of hi, Result.andThen_ok, run_underlying hu, hj', and_self, if_true, run_sizeOf_sz hs, g1]
    · cases h
  · cases h
theorem idxStr_ok' {t : TypeId} (hu : P.underlying t = some .string) {x i v : AV} {x' i' : Value} (hx : VRel ι w x x') (hi : VRel ι w i i') (h : AV.idxStr x i = some v) :
    ∃ v', (Instr.index t x' i').run P w = .ok v' w ∧ VRel ι w v v' := by
  unfold AV.idxStr at h
  split at h
  · rename_i s k j
    split at h
    · rename_i hj
      simp only [Option.bind_eq_some_iff] at h
      obtain ⟨b, hb, h⟩ := h
      cases h
      obtain ⟨s', rfl, hs'⟩ := hx.of_str
      refine ⟨.int .u8 (b.toNat : Int), ?_, .int _ _⟩
      have hb' : s'[j.toNat]? = some b := by
        rw [← hs'] at hb
        have hlt := (List.getElem?_eq_some_iff.1 hb).1
        have : s'.size = s'.data.toList.length := (Array.length_toList).symm
        have hget := (List.getElem?_eq_some_iff.1 hb).2
        rw [getElem?_pos s' j.toNat (by omega)]
        simp only [Option.some.injEq]
        exact hget
      simp only [Instr.index, Sem.run_bind, asInt_of hi, Result.andThen_ok, run_underlying hu, hj, if_true, hb', Sem.run_pure]
    · cases h
  · cases h
theorem slcP_ok' {t el : TypeId} {n sz : Nat} (hu : P.underlying t = some (.array n el)) (hs : szOf P el = some sz) {x v : AV} {x' : Value} {lo hi mx : Option AV} {lo' hi' mx' : Option Value} (hx : VRel ι w x x')
    (hlo : ∀ y, lo = some y → ∃ y', lo' = some y' ∧ VRel ι w y y') (hhi : ∀ y, hi = some y → ∃ y', hi' = some y' ∧ VRel ι w y y') (hmx : ∀ y, mx = some y → ∃ y', mx' = some y' ∧ VRel ι w y y')
    (nlo : lo = none → lo' = none) (nhi : hi = none → hi' = none) (nmx : mx = none → mx' = none) (hboth : mx ≠ none → hi ≠ none) (h : AV.slcP n sz x lo hi mx = some v) :
    ∃ v', (Instr.sliceAt t x' lo' hi' mx').run P w = .ok v' w ∧ VRel ι w v v' := by
  unfold AV.slcP at h
  split at h
  · rename_i b o
    simp only [Option.bind_eq_some_iff] at h
    obtain ⟨r, hr, h⟩ := h
    cases h
    obtain ⟨kk, base, e1, rfl⟩ := hx.of_ptr
    obtain ⟨m', g1, g2, g3, g4, g5, g6, g7⟩ := bounds_ok (P := P) (isS := false) hr (Nat.le_refl _) (Nat.le_refl _) hlo hhi hmx nlo nhi nmx hboth
    have hm : m' = r.2.2 := by rcases g7 with h | ⟨h1, h2⟩ <;> omega
    subst hm
    refine ⟨.slice (some (if r.2.2 = r.1 then ⟨kk, base + o, none⟩ else ⟨kk, base + o + r.1 * sz, none⟩)) (r.2.1 - r.1) (r.2.2 - r.1), ?_, ?_⟩
    · simp only [Instr.sliceAt, Sem.run_bind, run_underlying hu, Result.andThen_ok, run_sureAddr, g1, run_sizeOf_sz hs, Sem.run_pure, Addr.add_off]
    · split
      · rename_i hz
        exact .sl e1 (by omega) (Nat.le_refl _) (.inl rfl) (.inl (by omega))
      · exact .sl e1 (by omega) (Nat.le_refl _) (.inl rfl) (.inr (by omega))
  · cases h
theorem slcS_ok' {t el : TypeId} {sz : Nat} (hu : P.underlying t = some (.slice el)) (hs : szOf P el = some sz) {x v : AV} {x' : Value} {lo hi mx : Option AV} {lo' hi' mx' : Option Value} (hx : VRel ι w x x')
    (hlo : ∀ y, lo = some y → ∃ y', lo' = some y' ∧ VRel ι w y y') (hhi : ∀ y, hi = some y → ∃ y', hi' = some y' ∧ VRel ι w y y') (hmx : ∀ y, mx = some y → ∃ y', mx' = some y' ∧ VRel ι w y y')
    (nlo : lo = none → lo' = none) (nhi : hi = none → hi' = none) (nmx : mx = none → mx' = none) (hboth : mx ≠ none → hi ≠ none) (h : AV.slcS sz x lo hi mx = some v) :
    ∃ v', (Instr.sliceAt t x' lo' hi' mx').run P w = .ok v' w ∧ VRel ι w v v' := by
  have hsl : (Instr.sliceAt t x' lo' hi' mx').run P w = (Instr.slice t x' lo' hi' mx').run P w := by
    simp only [Instr.sliceAt, Sem.run_bind, run_underlying hu, Result.andThen_ok]
  rw [hsl]
  unfold AV.slcS at h
  split at h
  · rename_i b o len cap sz'
    split at h
    · rename_i hsz
      subst hsz
      simp only [Option.bind_eq_some_iff] at h
      obtain ⟨r, hr, h⟩ := h
      cases h
      cases hx with
      | sl hb hl hc hm ho =>
      rename_i kk base cap' o'
      obtain ⟨m', g1, g2, g3, g4, g5, g6, g7⟩ := bounds_ok (P := P) (isS := true) hr hl hc hlo hhi hmx nlo nhi nmx hboth
      refine ⟨.slice (some (if m' = r.1 then ⟨kk, o', none⟩ else ⟨kk, o' + r.1 * sz', none⟩)) (r.2.1 - r.1) (m' - r.1), ?_, ?_⟩
      · simp only [Instr.slice, Sem.run_bind, run_underlying hu, Result.andThen_ok, g1, run_sizeOf_sz hs, Sem.run_pure, Option.map_some, Addr.add_off]
        split <;> rfl
      · have hm' : m' - r.1 = r.2.2 - r.1 ∨ ∃ T m, w.shape? kk = some (T, m) ∧ base + (o + r.1 * sz') + (m' - r.1) * sz' ≤ m := by
          rcases g7 with g7 | ⟨g7, g8⟩
          · left; rw [g7]
          · rcases hm with hm | ⟨T, m, hm1, hm2⟩
            · left; omega
            · right
              refine ⟨T, m, hm1, ?_⟩
              have : r.1 * sz' + (m' - r.1) * sz' = m' * sz' := by rw [← Nat.add_mul]; congr 1; omega
              rw [g7] at this ⊢
              omega
        split
        · rename_i hz
          exact .sl hb (by omega) (by omega) hm' (.inl (by omega))
        · rename_i hz
          refine .sl hb (by omega) (by omega) hm' ?_
          rcases ho with h0 | h0
          · exact .inl (by omega)
          · exact .inr (by omega)
    · cases h
  · simp only [Option.bind_eq_some_iff] at h
    obtain ⟨r, hr, h⟩ := h
    cases h; cases hx
    obtain ⟨m', g1, g2, g3, g4, g5, g6, g7⟩ := bounds_ok (P := P) (isS := true) hr (Nat.le_refl _) (Nat.le_refl _) hlo hhi hmx nlo nhi nmx hboth
    refine ⟨.slice none 0 0, ?_, .nsl⟩
    simp only [Instr.slice, Sem.run_bind, run_underlying hu, Result.andThen_ok, g1, run_sizeOf_sz hs, Sem.run_pure, Option.map_none]
    have h1 : r.2.1 - r.1 = 0 := by omega
    have h2 : m' - r.1 = 0 := by omega
    rw [h1, h2]
    simp
  · cases h
theorem slcStr_ok' {t : TypeId} (hu : P.underlying t = some .string) {x v : AV} {x' : Value} {lo hi : Option AV} {lo' hi' : Option Value} (hx : VRel ι w x x')
    (hlo : ∀ y, lo = some y → ∃ y', lo' = some y' ∧ VRel ι w y y') (hhi : ∀ y, hi = some y → ∃ y', hi' = some y' ∧ VRel ι w y y')
    (nlo : lo = none → lo' = none) (nhi : hi = none → hi' = none) (h : AV.slcStr x lo hi = some v) :
    ∃ v', (Instr.sliceAt t x' lo' hi' none).run P w = .ok v' w ∧ VRel ι w v v' := by
  have hsl : (Instr.sliceAt t x' lo' hi' none).run P w = (Instr.slice t x' lo' hi' none).run P w := by
    simp only [Instr.sliceAt, Sem.run_bind, run_underlying hu, Result.andThen_ok]
  rw [hsl]
  unfold AV.slcStr at h
  split at h
  · rename_i s
    simp only [Option.bind_eq_some_iff] at h
    obtain ⟨r, hr, h⟩ := h
    cases h
    obtain ⟨s', rfl, hs'⟩ := hx.of_str
    have hlen : s.length = s'.size := by rw [← hs']; exact Array.length_toList
    rw [hlen] at hr
    obtain ⟨m', g1, g2, g3, g4, g5, g6, g7⟩ := bounds_ok (P := P) (isS := false) hr (Nat.le_refl _) (Nat.le_refl _) hlo hhi (mx' := none) (by intro y hy; cases hy) nlo nhi (fun _ => rfl) (fun h => absurd rfl h)
    refine ⟨.string (s'.extract r.1 r.2.1), ?_, VRel.str' ?_⟩
    · simp only [Instr.slice, Sem.run_bind, run_underlying hu, Result.andThen_ok, Option.isSome_none, Bool.false_eq_true, if_false, Sem.run_pure, g1]
    · rw [← hs']
      simp [ByteArray.extract, ByteArray.copySlice, List.take_drop]
  · cases h
theorem bytesOf_ok : ∀ {l : List AV} {s : List UInt8} {vs : List Value}, bytesOf l = some s → LRel ι w l vs → ∃ ns : List Int, vs = ns.map (Value.int .u8) ∧ s = ns.map fun n => UInt8.ofNat n.toNat
  | [], s, vs, h, hl => by
    simp [bytesOf] at h; subst h
    have : vs = [] := List.eq_nil_of_length_eq_zero (by have := hl.1; simpa using this.symm)
    exact ⟨[], by simp [this], by simp⟩
  | x :: l, s, vs, h, hl => by
    unfold bytesOf at h
    split at h
    · rename_i heq; cases heq
    · rename_i n l' heq
      cases heq
      simp only [Option.bind_eq_some_iff] at h
      obtain ⟨r, hr, h⟩ := h
      cases h
      cases vs with
      | nil => have := hl.1; simp at this
      | cons y vs =>
        obtain ⟨ns, g1, g2⟩ := bytesOf_ok hr hl.tail
        have := hl.head
        cases this
        exact ⟨n :: ns, by simp [g1], by simp [g2]⟩
    · cases h
theorem pushAll (ns : List Int) : ∀ s : ByteArray, (ns.foldl (fun r n => r.push (UInt8.ofNat n.toNat)) s).data.toList = s.data.toList ++ ns.map fun n => UInt8.ofNat n.toNat := by
  induction ns with
  | nil => intro s; simp
  | cons n ns ih => intro s; rw [List.foldl_cons, ih]; simp [ByteArray.push]
theorem toStr_ok' (A : At ι hp w N e a H) {s d el : TypeId} (hs : P.underlying s = some (.slice el)) (he : P.underlying el = some (.int .u8)) (hd : P.underlying d = some .string) {x : AV} {x' : Value} (hx : VRel ι w x x') {m : Nat} {xs : List AV} {bs : List UInt8}
    (h1 : srcCells H 1 x = some (m, xs)) (h2 : bytesOf xs = some bs) (h3 : ∀ t, x ≠ .str t) : ∃ v', (convert s d x').run P w = .ok v' w ∧ VRel ι w (.str bs) v' := by
  obtain ⟨g1, g2, vs, g3, g4⟩ := src_ok (P := P) A hx h1 m (Nat.le_refl _)
  rw [← g2, List.take_length] at g4
  obtain ⟨ns, n1, n2⟩ := bytesOf_ok h2 g4
  cases hx with
  | nsl =>
    simp [srcCells] at h1
    obtain ⟨rfl, rfl⟩ := h1
    simp [bytesOf] at h2; subst h2
    exact ⟨.string .empty, by simp [convert, run_underlying hs, run_underlying hd, run_underlying he, Conv.bytesToString], VRel.str' rfl⟩
  | sl hi hl hc hm ho =>
    rename_i b off len cap sz k base cap' o
    have hml : m = len := by
      simp only [srcCells, Option.bind_eq_some_iff] at h1
      obtain ⟨c, _, h1⟩ := h1
      split at h1
      · cases h1; rfl
      · cases h1
    subst hml
    rw [n1] at g3
    simp only [Builtin.firstCells, Nat.mul_one] at g3
    refine ⟨_, by rw [run_convert_bytes_string w s d el _ _ _ hs he hd, run_bytesToString w _ _ _ ns g3], VRel.str' ?_⟩
    rw [pushAll, n2]; rfl
  | str t => exact absurd rfl (h3 _)
  | _ => simp [srcCells] at h1
theorem bytesOf_byteCells (s : List UInt8) : bytesOf (byteCells s) = some s := by
  induction s with
  | nil => rfl
  | cons b s ih =>
    simp only [byteCells, List.map_cons, bytesOf] at ih ⊢
    rw [ih]
    simp
theorem un_ok {op : UnOp} {x v : AV} {x' : Value} (hx : VRel ι w x x') (h : AV.un op x = some v) : ∃ v', (Op.unary op x').run P w = .ok v' w ∧ VRel ι w v v' := by
  unfold AV.un at h
  split at h
  · cases h; cases hx; exact ⟨_, rfl, .int _ _⟩
  · cases h; cases hx; exact ⟨_, rfl, .int _ _⟩
  · cases h; cases hx; exact ⟨_, rfl, .bool _⟩
  · cases h
theorem fold_min (P : Program) : ∀ {xs : List AV} {ys : List Value} {x v : AV} {y : Value}, VRel ι w x y → LRel ι w xs ys → foldA AV.min2 x xs = some v → ∃ v', (ys.foldlM Builtin.min2 y).run P w = .ok v' w ∧ VRel ι w v v'
  | [], ys, x, v, y, hx, hl, h => by
    simp [foldA] at h; subst h
    have : ys = [] := List.eq_nil_of_length_eq_zero (by have := hl.1; simpa using this.symm)
    subst this
    exact ⟨y, rfl, hx⟩
  | x2 :: xs, ys, x, v, y, hx, hl, h => by
    simp only [foldA, Option.bind_eq_some_iff] at h
    obtain ⟨z, hz, h⟩ := h
    cases ys with
    | nil => have := hl.1; simp at this
    | cons y2 ys =>
      have h2 := hl.head
      unfold AV.min2 at hz
      split at hz
      · cases hz; cases hx; cases h2
        obtain ⟨v', g1, g2⟩ := fold_min P (.int _ _) hl.tail h
        exact ⟨v', by simp only [List.foldlM_cons, Builtin.min2, Sem.run_bind, Sem.run_pure, Result.andThen_ok]; exact g1, g2⟩
      · cases hz
theorem fold_max (P : Program) : ∀ {xs : List AV} {ys : List Value} {x v : AV} {y : Value}, VRel ι w x y → LRel ι w xs ys → foldA AV.max2 x xs = some v → ∃ v', (ys.foldlM Builtin.max2 y).run P w = .ok v' w ∧ VRel ι w v v'
  | [], ys, x, v, y, hx, hl, h => by
    simp [foldA] at h; subst h
    have : ys = [] := List.eq_nil_of_length_eq_zero (by have := hl.1; simpa using this.symm)
    subst this
    exact ⟨y, rfl, hx⟩
  | x2 :: xs, ys, x, v, y, hx, hl, h => by
    simp only [foldA, Option.bind_eq_some_iff] at h
    obtain ⟨z, hz, h⟩ := h
    cases ys with
    | nil => have := hl.1; simp at this
    | cons y2 ys =>
      have h2 := hl.head
      unfold AV.max2 at hz
      split at hz
      · cases hz; cases hx; cases h2
        obtain ⟨v', g1, g2⟩ := fold_max P (.int _ _) hl.tail h
        exact ⟨v', by simp only [List.foldlM_cons, Builtin.max2, Sem.run_bind, Sem.run_pure, Result.andThen_ok]; exact g1, g2⟩
      · cases hz
theorem len_ok {x v : AV} {x' : Value} {ts : Array TypeId} {t T e : TypeId} (ht : ts[0]? = some t) (hu : P.underlying t = some (.slice e)) (hx : VRel ι w x x') (h : AV.len x = some v) :
    ∃ v', (Builtin.len_ ts T #[x']).run P w = .ok v' w ∧ VRel ι w v v' := by
  unfold AV.len at h
  split at h
  · cases h; cases hx
    exact ⟨.int .i64 _, by simp [Builtin.len_, ht, run_underlying hu, goInt], .int _ _⟩
  · cases h; cases hx
    exact ⟨.int .i64 0, by simp [Builtin.len_, ht, run_underlying hu, goInt], .int _ _⟩
  · cases h
theorem lenStr_ok {x v : AV} {x' : Value} {ts : Array TypeId} {t T : TypeId} (ht : ts[0]? = some t) (hu : P.underlying t = some .string) (hx : VRel ι w x x') (h : AV.lenStr x = some v) :
    ∃ v', (Builtin.len_ ts T #[x']).run P w = .ok v' w ∧ VRel ι w v v' := by
  unfold AV.lenStr at h
  split at h
  · cases h
    obtain ⟨s', rfl, hs'⟩ := hx.of_str
    have hlen : s'.data.toList.length = s'.size := Array.length_toList
    rw [← hs', hlen]
    exact ⟨.int .i64 _, by simp [Builtin.len_, ht, run_underlying hu, goInt], .int _ _⟩
  · cases h
end
end Go.Sx
namespace Go.Sx
open Go
section
variable {P : Program} {ι : Nm} {w : World} {N : Nat} {e : Env} {a : Act} {H : Heap} {hp : PH} {Γ : Fns}
def IOp.isQ : IOp → Bool
  | .callQ _ _ => true
  | _ => false
theorem gives_of {o : Oper} {s : Sem Value} {v : AV} (ho : execOp a.eval o = (do pure (.value (← s)))) (h : ∃ v', s.run P w = .ok v' w ∧ VRel ι w v v') : Gives P o a ι w v := by
  obtain ⟨v', h1, h2⟩ := h
  exact ⟨v', exec_v ho h1, h2⟩
theorem eqIn_bool (d : Nat) {t : TypeId} (hu : P.underlying t = some .bool) (x y : Bool) : (Op.equalIn (d + 1) t (.bool x) (.bool y)).run P w = .ok (x == y) w := by
  simp [Op.equalIn, run_underlying hu]
theorem eqIn_sl0 (d : Nat) {t e : TypeId} (hu : P.underlying t = some (.slice e)) (l c : Nat) (y : Option Addr) (m k : Nat) : (Op.equalIn (d + 1) t (.slice none l c) (.slice y m k)).run P w = .ok y.isNone w := by
  simp [Op.equalIn, run_underlying hu]
theorem eqIn_sl1 (d : Nat) {t e : TypeId} (hu : P.underlying t = some (.slice e)) (x : Addr) (l c m k : Nat) : (Op.equalIn (d + 1) t (.slice (some x) l c) (.slice none m k)).run P w = .ok false w := by
  simp [Op.equalIn, run_underlying hu]
theorem eqIn_p0 (d : Nat) {t e : TypeId} (hu : P.underlying t = some (.pointer e)) (y : Option Addr) : (Op.equalIn (d + 1) t (.pointer none) (.pointer y)).run P w = .ok y.isNone w := by
  simp [Op.equalIn, run_underlying hu]
theorem eqIn_p1 (d : Nat) {t e : TypeId} (hu : P.underlying t = some (.pointer e)) (x : Addr) : (Op.equalIn (d + 1) t (.pointer (some x)) (.pointer none)).run P w = .ok false w := by
  simp [Op.equalIn, run_underlying hu]
theorem bin_eq_of {t : TypeId} {x y : Value} {b : Bool} (h1 : binOp .eql t x y = (do pure (.bool (← Op.equal t x y)))) (h : (Op.equalIn (9999 + 1) t x y).run P w = .ok b w) : (binOp .eql t x y).run P w = .ok (.bool b) w := by
  rw [h1]
  have h : (Op.equal t x y).run P w = .ok b w := h
  simp [h]
theorem bin_ne_of {t : TypeId} {x y : Value} {b : Bool} (h1 : binOp .neq t x y = (do pure (.bool (!(← Op.equal t x y))))) (h : (Op.equalIn (9999 + 1) t x y).run P w = .ok b w) : (binOp .neq t x y).run P w = .ok (.bool !b) w := by
  rw [h1]
  have h : (Op.equal t x y).run P w = .ok b w := h
  simp [h]
theorem run_places (fs : Array Field) (hall : (fs.all fun f => (szOf P f.type).isSome) = true) :
    (fs.mapM fun f => (do pure (f.offset, ← sizeOf f.type) : Sem (Nat × Nat))).run P w = .ok (fs.map fun f => (f.offset, (szOf P f.type).getD 0)) w := by
  rw [Array.mapM_eq_mapM_toList]
  have : ∀ l : List Field, (∀ f ∈ l, (szOf P f.type).isSome = true) → (l.mapM fun f => (do pure (f.offset, ← sizeOf f.type) : Sem (Nat × Nat))).run P w = .ok (l.map fun f => (f.offset, (szOf P f.type).getD 0)) w := by
    intro l
    induction l with
    | nil => intro _; simp
    | cons f l ih =>
      intro hl
      obtain ⟨s, hs⟩ := Option.isSome_iff_exists.1 (hl f (by simp))
      have := ih fun g hg => hl g (by simp [hg])
      simp only [List.mapM_cons, Sem.run_bind, run_sizeOf_sz hs, Result.andThen_ok, Sem.run_pure] at this ⊢
      rw [this]
      simp [hs]
  have h2 := this fs.toList (fun f hf => by
    have := Array.all_eq_true.1 hall
    obtain ⟨i, hi, rfl⟩ := List.mem_iff_getElem.1 hf
    exact this i (by simpa using hi))
  simp only [Sem.run_map, h2, Result.andThen_ok]
  congr 1
  apply Array.ext'
  simp
set_option maxHeartbeats 1000000 in
theorem gives_ok (A : At ι hp w N e a H) {qs : List Nat} {o : Oper} {io : IOp} (hc : compOp P qs o = some io) (hl : io.heapless = true) (hq : io.isQ = false) {v : AV} (h : stepV Γ io e H = some v) : Gives P o a ι w v := by
  have hE := A.env
  obtain ⟨dst, op, type, pos, after, guard⟩ := o
  unfold compOp at hc
  cases op <;> simp only [Option.bind_eq_some_iff] at hc
  case move x =>
    obtain ⟨y, hy, hc⟩ := hc; cases hc
    simp [stepV] at h; subst h
    exact ⟨_, rfl, cOpd_rel hy hE⟩
  case assign x =>
    obtain ⟨y, hy, hc⟩ := hc; cases hc
    simp [stepV] at h; subst h
    exact ⟨_, rfl, cOpd_rel hy hE⟩
  case nilCheck x =>
    obtain ⟨y, hy, hc⟩ := hc; cases hc
    simp only [stepV] at h
    have hr := cOpd_rel hy hE
    unfold AV.nilck at h
    split at h
    · rename_i b o heq
      cases h
      rw [heq] at hr
      obtain ⟨k, base, h1, h2⟩ := hr.of_ptr
      refine ⟨.pointer (some ⟨k, base + o, none⟩), ?_, .ptr h1⟩
      simp [execOp, h2]
    · cases h
  case pick c x y =>
    obtain ⟨c', hc', x', hx', y', hy', hc⟩ := hc; cases hc
    simp only [stepV, AV.pick, Option.bind_eq_some_iff] at h
    obtain ⟨b, hb, h⟩ := h
    cases h
    have h1 := cOpd_rel hc' hE
    rw [asB_some hb] at h1
    have h1 := h1.of_bool
    cases b
    · exact ⟨_, by simp [execOp, h1, asBool], cOpd_rel hy' hE⟩
    · exact ⟨_, by simp [execOp, h1, asBool], cOpd_rel hx' hE⟩
  case alloc => obtain ⟨z, hz, hc⟩ := hc; cases hc; simp [IOp.heapless] at hl
  case box => obtain ⟨z, hz, hc⟩ := hc; cases hc; simp [IOp.heapless] at hl
  case build t ps =>
    obtain ⟨z, hz, hc⟩ := hc
    obtain ⟨i, zv, hi, hzi, hzr, hzc, hzrun⟩ := zeroOf_ok (ι := ι) (w := w) hz
    split at hc
    · rename_i fs hu
      split at hc
      · rename_i hall
        simp only [Option.bind_eq_some_iff] at hc
        obtain ⟨qs', hqs, hc⟩ := hc
        cases hc
        simp only [stepV, Option.bind_eq_some_iff] at h
        obtain ⟨c, hc', h⟩ := h
        cases h
        have hplaces := run_places (P := P) (w := w) fs hall
        obtain ⟨C', g1, g2⟩ := fill_ok (pl2 := ((fs.map fun f => (f.offset, (szOf P f.type).getD 0))[·]?)) (C := zv.cells) (by
          intro i p hp
          simp only [fieldAtP, Option.bind_eq_some_iff] at hp
          obtain ⟨f, hf, s, hs, hp⟩ := hp
          cases hp
          simp [Array.getElem?_map, hf, hs]) hE hqs hzr hc'
        refine gives_of (s := Instr.build t (ps.map fun (i, x) => (i, a.eval x))) rfl ⟨.agg C', ?_, ?_⟩
        · simp only [Instr.build]
          rw [Sem.run_bind, hzrun, Result.andThen_ok, Sem.run_bind, run_underlying hu, Result.andThen_ok]
          simp only
          rw [Sem.run_bind, hplaces, Result.andThen_ok]
          have : (ps.map fun (i, x) => (i, a.eval x)).toList = ps.toList.map fun p => (p.1, a.eval p.2) := by simp
          rw [this, g1]
          simp
        · exact .agg (by simpa using g2.1) fun i x y hx hy => g2.2 i x y hx (by simpa using hy)
      · cases hc
    · rename_i n el hu
      simp only [Option.bind_eq_some_iff] at hc
      obtain ⟨s, hs, qs', hqs, hc⟩ := hc
      cases hc
      simp only [stepV, Option.bind_eq_some_iff] at h
      obtain ⟨c, hc', h⟩ := h
      cases h
      obtain ⟨C', g1, g2⟩ := fill_ok (C := zv.cells) (pl2 := fun i => some (i * s, s)) (fun _ _ h => h) hE hqs hzr hc'
      refine gives_of (s := Instr.build t (ps.map fun (i, x) => (i, a.eval x))) rfl ⟨.agg C', ?_, ?_⟩
      · simp only [Instr.build, Sem.run_bind, hzrun, Result.andThen_ok, run_underlying hu, run_sizeOf_sz hs]
        have : (ps.map fun (i, x) => (i, a.eval x)).toList = ps.toList.map fun p => (p.1, a.eval p.2) := by simp
        rw [this, g1]
        simp
      · exact .agg (by simpa using g2.1) fun i x y hx hy => g2.2 i x y hx (by simpa using hy)
    · cases hc
  case buildSlice t len ps =>
    split at hc
    · simp only [Option.bind_eq_some_iff] at hc
      obtain ⟨s, _, z, _, q, _, hc⟩ := hc
      split at hc <;> cases hc
      simp [IOp.heapless] at hl
    · cases hc
  case load t x =>
    obtain ⟨n, hn, y, hy, hc⟩ := hc; cases hc
    simp only [stepV] at h
    exact gives_of rfl (ld_ok A (cOpd_rel hy hE) h hn)
  case store => obtain ⟨_, _, _, _, _, _, hc⟩ := hc; cases hc; simp [IOp.heapless] at hl
  case binOp op t x y yt =>
    obtain ⟨x', hx', y', hy', hc⟩ := hc
    have h1 := cOpd_rel hx' hE
    have h2 := cOpd_rel hy' hE
    split at hc
    all_goals try (cases hc; done)
    case h_1 | h_2 =>
      cases hc
      simp only [stepV] at h
      obtain ⟨v', g1, g2⟩ := bin_ok (P := P) (t := t) h1 h2 h
      refine gives_of (s := (do eqGuard op t x y (a.eval x) (a.eval y); binOp op t (a.eval x) (a.eval y))) rfl ⟨v', ?_, g2⟩
      have hg : (eqGuard op t x y (a.eval x) (a.eval y)).run P w = .ok () w := by
        apply eqGuard_plain
        · intro b hb
          rw [hb] at h1 g1
          unfold AV.bin at h
          split at h
          · rename_i h3 _; rw [h3] at h1; cases h1
          · rename_i h3 _; rw [h3] at h1; cases h1
          · cases h
        · intro hb
          rw [hb] at h1
          unfold AV.bin at h
          split at h
          · rename_i h3 _; rw [h3] at h1; cases h1
          · rename_i h3 _; rw [h3] at h1; cases h1
          · cases h
      simp [hg, g1]
    case h_3 hu =>
      have key : ∀ neg, (op = .eql ∧ neg = false) ∨ (op = .neq ∧ neg = true) → AV.eqb neg (x'.ev e) (y'.ev e) = some v → Gives P ⟨dst, .binOp op t x y yt, type, pos, after, guard⟩ a ι w v := by
        intro neg hop h
        unfold AV.eqb at h
        split at h
        · rename_i b1 b2 e1 e2
          cases h
          rw [e1] at h1; rw [e2] at h2
          have h1 := h1.of_bool
          have h2 := h2.of_bool
          refine gives_of (s := (do eqGuard op t x y (a.eval x) (a.eval y); binOp op t (a.eval x) (a.eval y))) rfl ⟨.bool (bif neg then !(b1 == b2) else (b1 == b2)), ?_, .bool _⟩
          have hg : (eqGuard op t x y (a.eval x) (a.eval y)).run P w = .ok () w := by
            apply eqGuard_plain
            · intro b hb; rw [h1] at hb; cases hb
            · intro hb; rw [h1] at hb; cases hb
          rcases hop with ⟨rfl, rfl⟩ | ⟨rfl, rfl⟩
          · rw [Sem.run_bind, hg, Result.andThen_ok, h1, h2]; exact bin_eq_of rfl (eqIn_bool 9999 hu _ _)
          · rw [Sem.run_bind, hg, Result.andThen_ok, h1, h2]; exact bin_ne_of rfl (eqIn_bool 9999 hu _ _)
        · cases h
      cases op <;> simp at hc
      · subst hc; exact key false (.inl ⟨rfl, rfl⟩) (by simpa [stepV] using h)
      · subst hc; exact key true (.inr ⟨rfl, rfl⟩) (by simpa [stepV] using h)
    case h_4 | h_5 =>
      rename_i hu
      have key : ∀ neg ks, eqKinds P 100 t = some ks → P.eqGuardType P.depth t = false → (op = .eql ∧ neg = false) ∨ (op = .neq ∧ neg = true) → AV.eqg neg ks (x'.ev e) (y'.ev e) = some v → Gives P ⟨dst, .binOp op t x y yt, type, pos, after, guard⟩ a ι w v := by
        intro neg ks hks hgt hop h
        obtain ⟨b, c, v', e1, e2, g1, g2⟩ := eqg_ok (P := P) hop hks (by rw [hu]; trivial) h1 h2 h
        refine gives_of (s := (do eqGuard op t x y (a.eval x) (a.eval y); binOp op t (a.eval x) (a.eval y))) rfl ⟨v', ?_, g2⟩
        have hg : (eqGuard op t x y (a.eval x) (a.eval y)).run P w = .ok () w := by rw [e1, e2]; exact eqGuard_agg hgt
        simp [hg, g1]
      split at hc
      · cases hc
      · rename_i hgt
        simp only [Option.bind_eq_some_iff] at hc
        obtain ⟨ks, hks, hc⟩ := hc
        cases op <;> simp at hc
        · subst hc; exact key false ks hks (by simpa using hgt) (.inl ⟨rfl, rfl⟩) (by simpa [stepV] using h)
        · subst hc; exact key true ks hks (by simpa using hgt) (.inr ⟨rfl, rfl⟩) (by simpa [stepV] using h)
    case h_6 hu =>
      have key : ∀ neg, (op = .eql ∧ neg = false) ∨ (op = .neq ∧ neg = true) → AV.eqs neg (x'.ev e) (y'.ev e) = some v → Gives P ⟨dst, .binOp op t x y yt, type, pos, after, guard⟩ a ι w v := by
        intro neg hop h
        refine gives_of (s := (do eqGuard op t x y (a.eval x) (a.eval y); binOp op t (a.eval x) (a.eval y))) rfl ?_
        have hg : (eqGuard op t x y (a.eval x) (a.eval y)).run P w = .ok () w := by
          apply eqGuard_plain
          · intro b hb; rw [hb] at h1; unfold AV.eqs at h; split at h <;> first | (rename_i h3 _; rw [h3] at h1; cases h1; done) | (cases h; done)
          · intro hb; rw [hb] at h1; unfold AV.eqs at h; split at h <;> first | (rename_i h3 _; rw [h3] at h1; cases h1; done) | (cases h; done)
        simp only [Sem.run_bind, hg, Result.andThen_ok]
        unfold AV.eqs at h
        split at h <;> first | (cases h; done) | skip
        all_goals
          rename_i h3 h4
          rw [h3] at h1; rw [h4] at h2
          generalize a.eval x = vx at *
          generalize a.eval y = vy at *
          cases h; cases h1; cases h2
          rcases hop with ⟨rfl, rfl⟩ | ⟨rfl, rfl⟩
          · first
              | exact ⟨_, bin_eq_of rfl (eqIn_sl0 9999 hu _ _ _ _ _), .bool _⟩
              | exact ⟨_, bin_eq_of rfl (eqIn_sl1 9999 hu _ _ _ _ _), .bool _⟩
          · first
              | exact ⟨_, bin_ne_of rfl (eqIn_sl0 9999 hu _ _ _ _ _), .bool _⟩
              | exact ⟨_, bin_ne_of rfl (eqIn_sl1 9999 hu _ _ _ _ _), .bool _⟩
      cases op <;> simp at hc
      · subst hc; exact key false (.inl ⟨rfl, rfl⟩) (by simpa [stepV] using h)
      · subst hc; exact key true (.inr ⟨rfl, rfl⟩) (by simpa [stepV] using h)
    case h_7 hu =>
      have key : ∀ neg, (op = .eql ∧ neg = false) ∨ (op = .neq ∧ neg = true) → AV.eqp neg (x'.ev e) (y'.ev e) = some v → Gives P ⟨dst, .binOp op t x y yt, type, pos, after, guard⟩ a ι w v := by
        intro neg hop h
        refine gives_of (s := (do eqGuard op t x y (a.eval x) (a.eval y); binOp op t (a.eval x) (a.eval y))) rfl ?_
        have hg : (eqGuard op t x y (a.eval x) (a.eval y)).run P w = .ok () w := by
          apply eqGuard_plain
          · intro b hb; rw [hb] at h1; unfold AV.eqp at h; split at h <;> first | (rename_i h3 _; rw [h3] at h1; cases h1; done) | (cases h; done)
          · intro hb; rw [hb] at h1; unfold AV.eqp at h; split at h <;> first | (rename_i h3 _; rw [h3] at h1; cases h1; done) | (cases h; done)
        simp only [Sem.run_bind, hg, Result.andThen_ok]
        unfold AV.eqp at h
        split at h <;> first | (cases h; done) | skip
        all_goals
          rename_i h3 h4
          rw [h3] at h1; rw [h4] at h2
          generalize a.eval x = vx at *
          generalize a.eval y = vy at *
          cases h; cases h1; cases h2
          rcases hop with ⟨rfl, rfl⟩ | ⟨rfl, rfl⟩
          · first
              | exact ⟨_, bin_eq_of rfl (eqIn_p0 9999 hu _), .bool _⟩
              | exact ⟨_, bin_eq_of rfl (eqIn_p1 9999 hu _), .bool _⟩
          · first
              | exact ⟨_, bin_ne_of rfl (eqIn_p0 9999 hu _), .bool _⟩
              | exact ⟨_, bin_ne_of rfl (eqIn_p1 9999 hu _), .bool _⟩
      cases op <;> simp at hc
      · subst hc; exact key false (.inl ⟨rfl, rfl⟩) (by simpa [stepV] using h)
      · subst hc; exact key true (.inr ⟨rfl, rfl⟩) (by simpa [stepV] using h)
  case unOp op t x =>
    obtain ⟨y, hy, hc⟩ := hc; cases hc
    simp only [stepV] at h
    exact gives_of rfl (un_ok (cOpd_rel hy hE) h)
  case convert s d x =>
    obtain ⟨y, hy, hc⟩ := hc
    have h1 := cOpd_rel hy hE
    split at hc
    · rename_i k0 k hs hd
      cases hc
      simp only [stepV] at h
      unfold AV.conv at h
      split at h
      · rename_i k2 n heq
        cases h
        rw [heq] at h1
        have h1 := h1.of_int
        refine gives_of (s := convert s d (a.eval x)) rfl ⟨.int k (k.wrap n), ?_, .int _ _⟩
        rw [h1]
        simp [convert, run_underlying hs, run_underlying hd, Conv.intToInt]
      · cases h
    · rename_i el hs hd
      split at hc
      · rename_i he
        cases hc
        simp only [stepV, Option.bind_eq_some_iff] at h
        obtain ⟨p, hp, bs, hbs, h⟩ := h
        cases h
        by_cases hstr : ∃ t, y.ev e = .str t
        · obtain ⟨t, ht⟩ := hstr
          rw [ht] at hp h1
          simp [srcCells] at hp
          subst hp
          simp only [bytesOf_byteCells] at hbs
          cases hbs
          obtain ⟨s', hs', hss⟩ := h1.of_str
          refine gives_of (s := convert s d (a.eval x)) rfl ⟨.string s', ?_, VRel.str' hss⟩
          rw [hs']
          simp [convert, run_underlying hs, run_underlying hd]
        · obtain ⟨m, xs⟩ := p
          exact gives_of (s := convert s d (a.eval x)) rfl (toStr_ok' A hs he hd h1 hp hbs (fun t ht => hstr ⟨t, ht⟩))
      · cases hc
    · split at hc <;> cases hc
      simp [IOp.heapless] at hl
    · rename_i hs hd
      cases hc
      simp only [stepV, Option.map_none] at h
      unfold AV.slcStr at h
      split at h
      · rename_i s0 heq
        rw [heq] at h1
        simp [bounds, bnd] at h
        subst h
        obtain ⟨s', hs', hss⟩ := h1.of_str
        refine gives_of (s := convert s d (a.eval x)) rfl ⟨.string s', ?_, VRel.str' hss⟩
        rw [hs']
        simp [convert, run_underlying hs, run_underlying hd]
      · cases h
    · cases hc
  case indexAddr t x i =>
    obtain ⟨x', hx', i', hi', hc⟩ := hc
    have h1 := cOpd_rel hx' hE
    have h2 := cOpd_rel hi' hE
    split at hc
    · rename_i n el hu
      simp only [Option.bind_eq_some_iff] at hc
      obtain ⟨s, hs, hc⟩ := hc; cases hc
      simp only [stepV] at h
      exact gives_of rfl (idxP_ok' hu hs h1 h2 h)
    · rename_i el hu
      simp only [Option.bind_eq_some_iff] at hc
      obtain ⟨s, hs, hc⟩ := hc; cases hc
      simp only [stepV] at h
      exact gives_of rfl (idxS_ok' hu hs h1 h2 h)
    · cases hc
  case index t x i =>
    obtain ⟨x', hx', i', hi', hc⟩ := hc
    have h1 := cOpd_rel hx' hE
    have h2 := cOpd_rel hi' hE
    split at hc
    · rename_i n el hu
      simp only [Option.bind_eq_some_iff] at hc
      obtain ⟨p, hp, s, hs, hc⟩ := hc
      split at hc
      · rename_i hps
        cases hc
        simp only [stepV] at h
        exact gives_of rfl (idx_ok' hu hp hs hps h1 h2 h)
      · cases hc
    · rename_i hu
      cases hc
      simp only [stepV] at h
      exact gives_of rfl (idxStr_ok' hu h1 h2 h)
    · cases hc
  case fieldAddr s x f =>
    obtain ⟨y, hy, hc⟩ := hc
    have h1 := cOpd_rel hy hE
    split at hc
    · rename_i fs hu
      simp only [Option.bind_eq_some_iff] at hc
      obtain ⟨p, hp, hc⟩ := hc
      split at hc
      · cases hc
      · rename_i hnz
        cases hc
        simp only [fieldAtP, Option.bind_eq_some_iff] at hp
        obtain ⟨fd, hf, sz, hs, hp⟩ := hp
        cases hp
        simp only [stepV] at h
        unfold AV.fldP at h
        split at h
        · rename_i b o heq
          cases h
          rw [heq] at h1
          obtain ⟨k, base, e1, e2⟩ := h1.of_ptr
          refine gives_of (s := Instr.fieldAt s (a.eval x) f) rfl ⟨.pointer (some ⟨k, base + (o + fd.offset), none⟩), ?_, .ptr e1⟩
          rw [e2]
          simp only [Instr.fieldAt, Sem.run_bind, run_underlying hu, Result.andThen_ok, hf, run_sureAddr, fieldPlace, run_sizeOf_sz hs]
          rw [if_neg hnz]
          simp only [Sem.run_pure, Result.andThen_ok, Addr.add_off, Nat.add_assoc]
        · cases h
    · cases hc
  case field t x f =>
    obtain ⟨y, hy, hc⟩ := hc
    have h1 := cOpd_rel hy hE
    split at hc
    · rename_i fs hu
      simp only [Option.bind_eq_some_iff] at hc
      obtain ⟨fd, hf, n, hn, hc⟩ := hc
      cases hc
      simp only [stepV] at h
      unfold AV.fld at h
      split at h
      · rename_i l heq
        rw [heq] at h1
        have h2 := h1
        generalize hv : a.eval x = vx at h2
        cases h2 with
        | agg hsz hh =>
        rename_i X
        rw [hv] at h1
        obtain ⟨v', g1, g2⟩ := piece_rel (P := P) (Seg.of_agg h1) h hn
        refine gives_of (s := Instr.field t (a.eval x) f) rfl ⟨v', ?_, g2⟩
        rw [hv]
        simp only [Instr.field, Sem.run_bind, run_underlying hu, Result.andThen_ok, hf, asAgg, Sem.run_pure, g1]
      · cases h
    · cases hc
  case slice t x lo hi mx =>
    obtain ⟨x', hx', lo', hlo', hi', hhi', mx', hmx', hc⟩ := hc
    have h1 := cOpd_rel hx' hE
    obtain ⟨l1, l2⟩ := cOpt_rel hE hlo'
    obtain ⟨i1, i2⟩ := cOpt_rel hE hhi'
    obtain ⟨m1, m2⟩ := cOpt_rel hE hmx'
    split at hc
    · cases hc
    · rename_i hboth
      have hboth' : mx'.map (Opd.ev e) ≠ none → hi'.map (Opd.ev e) ≠ none := by
        intro h1 h2
        apply hboth
        cases mx' with
        | none => simp at h1
        | some _ => cases hi' with
          | none => rfl
          | some _ => simp at h2
      split at hc
      · rename_i n el hu
        simp only [Option.bind_eq_some_iff] at hc
        obtain ⟨s, hs, hc⟩ := hc; cases hc
        simp only [stepV] at h
        exact gives_of rfl (slcP_ok' hu hs h1 l1 i1 m1 l2 i2 m2 hboth' h)
      · rename_i el hu
        simp only [Option.bind_eq_some_iff] at hc
        obtain ⟨s, hs, hc⟩ := hc; cases hc
        simp only [stepV] at h
        exact gives_of rfl (slcS_ok' hu hs h1 l1 i1 m1 l2 i2 m2 hboth' h)
      · rename_i hu
        split at hc
        · cases hc
        · rename_i hnm
          cases hc
          simp only [stepV] at h
          have hmn : mx'.map (Opd.ev e) = none := by
            cases mx' with
            | none => rfl
            | some _ => simp at hnm
          have := m2 hmn
          refine gives_of (s := Instr.sliceAt t (a.eval x) (lo.map a.eval) (hi.map a.eval) (mx.map a.eval)) rfl ?_
          rw [this]
          exact slcStr_ok' hu h1 l1 i1 l2 i2 h
      · cases hc
  case makeSlice t l c =>
    obtain ⟨_, _, _, _, hc⟩ := hc
    split at hc
    · simp only [Option.bind_eq_some_iff] at hc
      obtain ⟨_, _, _, _, hc⟩ := hc
      split at hc <;> cases hc
      simp [IOp.heapless] at hl
    · cases hc
  case extract x i =>
    obtain ⟨y, hy, hc⟩ := hc; cases hc
    have h1 := cOpd_rel hy hE
    simp only [stepV] at h
    unfold AV.ext at h
    split at h
    · rename_i l heq
      rw [heq] at h1
      generalize hv : a.eval x = vx at h1
      cases h1 with
      | tup hsz hh =>
      rename_i X
      have hi : i < l.length := (List.getElem?_eq_some_iff.1 h).1
      have hX : X[i]? = some X[i] := Array.getElem?_eq_getElem (by omega)
      refine gives_of (s := Instr.extract (a.eval x) i) rfl ⟨X[i], ?_, hh i _ _ h hX⟩
      rw [hv]
      simp only [Instr.extract, hX, Sem.run_pure]
    · cases h
  case makeFunc fn x y =>
    cases fn <;> simp only [Option.bind_eq_some_iff, reduceCtorEq] at hc
    rename_i f
    obtain ⟨x', hx', y', hy', hc⟩ := hc; cases hc
    simp only [stepV] at h
    cases h
    have h1 := cOpds_rel hE hx'
    have h2 := cOpds_rel hE hy'
    refine gives_of (s := Instr.makeFunc (.func f) (x.map a.eval) (y.map a.eval)) rfl ⟨.func (.func f) (x.map a.eval) (y.map a.eval), rfl, ?_⟩
    exact .fn (by simpa using h1.1) (by simpa using h2.1) (fun i p q hp hq => h1.2 i p q hp (by simpa using hq)) (fun i p q hp hq => h2.2 i p q hp (by simpa using hq))
  case call c =>
    obtain ⟨xs, hxs, hc⟩ := hc
    have h1 := cOpds_rel hE hxs
    split at hc
    · split at hc
      · split at hc
        · cases hc; simp [IOp.isQ] at hq
        · cases hc; simp [IOp.heapless] at hl
      · cases hc
    · cases hc; simp [IOp.heapless] at hl
    · rename_i b hcal
      have hrun : ∀ {v' : Value} {s : Sem Value}, (∀ cs, builtin b c.argTypes type cs (c.args.map a.eval) = (do pure (.value (← s)))) → s.run P w = .ok v' w →
          (execOp a.eval ⟨dst, .call c, type, pos, after, guard⟩).run P w = .ok (.value v') w := by
        intro v' s hb hs
        simp only [execOp, resolve, hcal, Sem.run_bind, Sem.run_pure, Result.andThen_ok, invoke]
        rw [hb]
        simp [hs]
      obtain ⟨cal, args, ts⟩ := c
      simp only at hcal hc h1 hrun hxs
      subst hcal
      unfold cBuiltin at hc
      split at hc
      · rename_i t x ht
        have hargs : ∃ z, args.map a.eval = #[z] ∧ VRel ι w (x.ev e) z := by
          cases hm : args.toList.map a.eval with
          | nil => rw [hm] at h1; have := h1.1; simp at this
          | cons z zs =>
            rw [hm] at h1
            have hzs : zs = [] := List.eq_nil_of_length_eq_zero (by have := h1.1; simpa using this.symm)
            subst hzs
            exact ⟨z, Array.ext' (by rw [Array.toList_map, hm]), h1.head⟩
        obtain ⟨z, hz, hzr⟩ := hargs
        split at hc
        · rename_i el hu
          cases hc
          simp only [stepV] at h
          obtain ⟨v', g1, g2⟩ := len_ok (P := P) (T := type) ht hu hzr h
          exact ⟨v', hrun (s := Builtin.len_ ts type #[z]) (by intro cs; rw [hz]; rfl) g1, g2⟩
        · rename_i hu
          cases hc
          simp only [stepV] at h
          obtain ⟨v', g1, g2⟩ := lenStr_ok (P := P) (T := type) ht hu hzr h
          exact ⟨v', hrun (s := Builtin.len_ ts type #[z]) (by intro cs; rw [hz]; rfl) g1, g2⟩
        · rename_i n el hu
          cases hc
          simp only [stepV, Opd.ev] at h
          cases h
          exact ⟨.int .i64 n, hrun (s := Builtin.len_ ts type #[z]) (by intro cs; rw [hz]; rfl) (by simp [Builtin.len_, ht, run_underlying hu, goInt]), .int _ _⟩
        · rename_i arr hu
          split at hc
          · rename_i n el hu2
            cases hc
            simp only [stepV, Opd.ev] at h
            cases h
            exact ⟨.int .i64 n, hrun (s := Builtin.len_ ts type #[z]) (by intro cs; rw [hz]; rfl) (by simp [Builtin.len_, ht, run_underlying hu, run_underlying hu2, goInt]), .int _ _⟩
          · cases hc
        · cases hc
      · rename_i x xs'
        cases hc
        simp only [stepV] at h
        have hargs : ∃ z zs, (args.map a.eval).toList = z :: zs ∧ VRel ι w (x.ev e) z ∧ LRel ι w (xs'.map (Opd.ev e)) zs := by
          rw [Array.toList_map]
          cases hm : args.toList.map a.eval with
          | nil => rw [hm] at h1; have := h1.1; simp at this
          | cons z zs => rw [hm] at h1; exact ⟨z, zs, rfl, h1.head, h1.tail⟩
        obtain ⟨z, zs, hz, r1, r2⟩ := hargs
        obtain ⟨v', g1, g2⟩ := fold_min P r1 r2 h
        exact ⟨v', hrun (s := Builtin.min_ ts type (args.map a.eval)) (fun _ => rfl) (by simp only [Builtin.min_, hz]; exact g1), g2⟩
      · rename_i x xs'
        cases hc
        simp only [stepV] at h
        have hargs : ∃ z zs, (args.map a.eval).toList = z :: zs ∧ VRel ι w (x.ev e) z ∧ LRel ι w (xs'.map (Opd.ev e)) zs := by
          rw [Array.toList_map]
          cases hm : args.toList.map a.eval with
          | nil => rw [hm] at h1; have := h1.1; simp at this
          | cons z zs => rw [hm] at h1; exact ⟨z, zs, rfl, h1.head, h1.tail⟩
        obtain ⟨z, zs, hz, r1, r2⟩ := hargs
        obtain ⟨v', g1, g2⟩ := fold_max P r1 r2 h
        exact ⟨v', hrun (s := Builtin.max_ ts type (args.map a.eval)) (fun _ => rfl) (by simp only [Builtin.max_, hz]; exact g1), g2⟩
      · split at hc
        · simp only [Option.bind_eq_some_iff] at hc
          obtain ⟨_, _, hc⟩ := hc
          split at hc <;> cases hc
          simp [IOp.heapless] at hl
        · cases hc
      · split at hc
        · simp only [Option.bind_eq_some_iff] at hc
          obtain ⟨_, _, hc⟩ := hc
          split at hc <;> cases hc
          simp [IOp.heapless] at hl
        · cases hc
      · cases hc
    · cases hc
  all_goals cases hc
end
end Go.Sx
namespace Go.Sx
open Go
def upd (hp : PH) (b : Nat) (B : Blk) : PH := fun x => if x = b then some B else hp x
def updN (ι : Nm) (b k : Nat) : Nm := fun x => if x = b then some (k, 0) else ι x
def over (hp : PH) (H : Heap) : PH := fun b => if b < H.length then H[b]? else hp b
theorem over_self {hp : PH} {H : Heap} (h : ∀ b, b < H.length → hp b = H[b]?) : over hp H = hp := by
  funext b
  unfold over
  split
  · rename_i hb; exact (h b hb).symm
  · rfl
theorem over_push {hp : PH} {H : Heap} {B : Blk} (h : ∀ b, b < H.length → hp b = H[b]?) : over hp (H ++ [B]) = upd hp H.length B := by
  funext b
  unfold over upd
  simp only [List.length_append, List.length_cons, List.length_nil]
  by_cases h1 : b < H.length
  · rw [if_pos (by omega), List.getElem?_append_left h1, if_neg (by omega), h b h1]
  · by_cases h2 : b = H.length
    · subst h2; simp
    · rw [if_neg (by omega), if_neg h2]
theorem over_set {hp : PH} {H : Heap} {b : Nat} {B : Blk} (h : ∀ b, b < H.length → hp b = H[b]?) (hb : b < H.length) : over hp (H.set b B) = upd hp b B := by
  funext x
  unfold over upd
  simp only [List.length_set, List.getElem?_set]
  by_cases h1 : x < H.length
  · rw [if_pos h1]
    by_cases h2 : x = b
    · subst h2; simp [h1]
    · rw [if_neg (by omega), if_neg h2, h x h1]
  · rw [if_neg h1, if_neg (by omega)]
theorem Rel.none_of {ι : Nm} {hp : PH} {w : World} (h : Rel ι hp w) {b : Nat} (hb : hp b = none) : ι b = none := by
  have := h.dom b
  rw [hb] at this
  simpa using this
theorem Rel.some_of {ι : Nm} {hp : PH} {w : World} (h : Rel ι hp w) {b : Nat} {B : Blk} (hb : hp b = some B) : ∃ p, ι b = some p := by
  have := h.dom b
  rw [hb] at this
  simpa [Option.isSome_iff_exists] using this
theorem Rel.lt {ι : Nm} {hp : PH} {w : World} (h : Rel ι hp w) {b k base : Nat} {B : Blk} (hb : hp b = some B) (hd : B ≠ .dead) (hi : ι b = some (k, base)) : k < w.heap.size := by
  cases B with
  | rw c =>
    obtain ⟨k', C, T, fz, e1, e2, _⟩ := h.rw b c hb
    rw [hi] at e1; cases e1
    exact (Array.getElem?_eq_some_iff.1 e2).1
  | ro c =>
    obtain ⟨k', base', C, T, fz, e1, e2, _⟩ := h.ro b c hb
    rw [hi] at e1; cases e1
    exact (Array.getElem?_eq_some_iff.1 e2).1
  | dead => exact absurd rfl hd
theorem shapes_alloc (w : World) (o : Obj) : Shapes w (w.alloc o) := by
  intro k s h
  unfold World.shape? at h ⊢
  have hk : k < w.heap.size := by
    rcases Nat.lt_or_ge k w.heap.size with h' | h'
    · exact h'
    · simp [Array.getElem?_eq_none h'] at h
  rw [RowKit.Below.heap_alloc w o k hk]; exact h
theorem heap_alloc_lt (w : World) (o : Obj) {k : Nat} (hk : k < w.heap.size) : (w.alloc o).heap[k]? = w.heap[k]? := RowKit.Below.heap_alloc w o k hk
theorem heap_alloc_new (w : World) (o : Obj) : (w.alloc o).heap[w.heap.size]? = some o := by
  show (w.heap.push o)[w.heap.size]? = _
  rw [Array.getElem?_push, if_pos rfl]
theorem Step.alloc {ι : Nm} {hp : PH} {w : World} (h : Rel ι hp w) {n : Nat} (hn : hp n = none) {c : List AV} {C : Array Value} {T : TypeId} {fz : Nat × Nat} (hc : CellsAt ι w c C 0) (hf : Unfrozen C fz) :
    Step ι hp w (updN ι n w.heap.size) (upd hp n (.rw c)) (w.alloc (.cells C T fz)) := by
  have hin := h.none_of hn
  have hext : Ext ι (updN ι n w.heap.size) := by
    intro b p hb
    unfold updN
    split
    · rename_i he; subst he; rw [hin] at hb; cases hb
    · exact hb
  have hsh := shapes_alloc w (.cells C T fz)
  have hcell : ∀ {c : List AV} {C : Array Value} {base : Nat}, CellsAt ι w c C base → CellsAt (updN ι n w.heap.size) (w.alloc (.cells C T fz)) c C base :=
    fun ⟨h1, h2⟩ => ⟨h1, fun i v hv => let ⟨v', a1, a2⟩ := h2 i v hv; ⟨v', a1, a2.mono hext (shapes_alloc w _)⟩⟩
  refine ⟨hext, ⟨fun b => ?_, fun b c' hb => ?_, fun b c' hb => ?_, fun b b' c1 B k base base' hb hb' hd hne h1 h2 => ?_⟩, by simp, fun k hk _ => heap_alloc_lt w _ hk, fun b c' k hb hi hk => ?_, fun b c' hb => ?_, hsh, rfl, rfl, rfl⟩
  · unfold updN upd
    split
    · rfl
    · exact h.dom b
  · unfold upd at hb
    split at hb
    · rename_i he; subst he
      cases hb
      exact ⟨w.heap.size, C, T, fz, by simp [updN], heap_alloc_new w _, hf, hcell hc⟩
    · rename_i hne
      obtain ⟨k, C', T', fz', e1, e2, e3, e4⟩ := h.rw b c' hb
      exact ⟨k, C', T', fz', by simp [updN, hne, e1], by rw [heap_alloc_lt w _ (Array.getElem?_eq_some_iff.1 e2).1]; exact e2, e3, ⟨e4.1, fun i v hv => let ⟨v', a1, a2⟩ := e4.2 i v hv; ⟨v', a1, a2.mono hext hsh⟩⟩⟩
  · unfold upd at hb
    split at hb
    · cases hb
    · rename_i hne
      obtain ⟨k, base, C', T', fz', e1, e2, e4⟩ := h.ro b c' hb
      exact ⟨k, base, C', T', fz', by simp [updN, hne, e1], by rw [heap_alloc_lt w _ (Array.getElem?_eq_some_iff.1 e2).1]; exact e2, ⟨e4.1, fun i v hv => let ⟨v', a1, a2⟩ := e4.2 i v hv; ⟨v', a1, a2.mono hext hsh⟩⟩⟩
  · unfold upd at hb hb'
    unfold updN at h1 h2
    split at hb <;> split at hb'
    · omega
    · rename_i e1 e2
      rw [if_pos e1] at h1; rw [if_neg e2] at h2
      cases h1
      have := h.lt hb' hd h2
      omega
    · rename_i e1 e2
      rw [if_neg e1] at h1; rw [if_pos e2] at h2
      cases h2
      have := h.lt hb (by simp) h1
      omega
    · rename_i e1 e2
      rw [if_neg e1] at h1; rw [if_neg e2] at h2
      exact h.excl b b' c1 B k base base' hb hb' hd hne h1 h2
  · unfold upd at hb
    unfold updN at hi
    split at hb
    · rename_i he
      rw [if_pos he] at hi
      cases hi
      omega
    · rename_i he
      rw [if_neg he] at hi
      exact ⟨b, c', hb, hi⟩
  · unfold upd at hb
    split at hb
    · cases hb
    · exact hb
def World.putBlock (w : World) (k : Nat) (o : Obj) : World := { w with heap := w.heap.setIfInBounds k o }
theorem heap_putBlock_ne (w : World) {k j : Nat} (o : Obj) (h : j ≠ k) : (World.putBlock w k o).heap[j]? = w.heap[j]? := by
  simp [World.putBlock, Array.getElem?_setIfInBounds_ne (Ne.symm h)]
theorem heap_putBlock_same (w : World) {k : Nat} (o : Obj) (h : k < w.heap.size) : (World.putBlock w k o).heap[k]? = some o := by
  simp [World.putBlock, h]
theorem putBlock_self {w : World} {k : Nat} {o : Obj} (h : w.heap[k]? = some o) : World.putBlock w k o = w := by
  unfold World.putBlock
  have : w.heap.setIfInBounds k o = w.heap := by
    apply Array.ext_getElem?
    intro i
    by_cases hi : i = k
    · subst hi
      have hlt := (Array.getElem?_eq_some_iff.1 h).1
      simp [hlt, (Array.getElem?_eq_some_iff.1 h).2]
    · rw [Array.getElem?_setIfInBounds_ne (Ne.symm hi)]
  rw [this]
theorem putBlock_putBlock (w : World) (k : Nat) (o o' : Obj) : World.putBlock (World.putBlock w k o) k o' = World.putBlock w k o' := by
  unfold World.putBlock
  simp only
  congr 1
  apply Array.ext_getElem?
  intro i
  by_cases hi : i = k
  · subst hi
    by_cases hlt : i < w.heap.size
    · simp [hlt]
    · simp [hlt]
  · rw [Array.getElem?_setIfInBounds_ne (Ne.symm hi), Array.getElem?_setIfInBounds_ne (Ne.symm hi), Array.getElem?_setIfInBounds_ne (Ne.symm hi)]
theorem shapes_putBlock {w : World} {k : Nat} {C C' : Array Value} {T : TypeId} {fz fz' : Nat × Nat} (hk : w.heap[k]? = some (.cells C T fz)) (hs : C'.size = C.size) : Shapes w (World.putBlock w k (.cells C' T fz')) := by
  intro j s h
  unfold World.shape? at h ⊢
  by_cases hj : j = k
  · subst hj
    rw [heap_putBlock_same w _ (Array.getElem?_eq_some_iff.1 hk).1]
    rw [hk] at h
    simpa [hs] using h
  · rw [heap_putBlock_ne w _ hj]; exact h
theorem Step.write {ι : Nm} {hp : PH} {w : World} (h : Rel ι hp w) {b k : Nat} {c c' : List AV} {C C' : Array Value} {T : TypeId} {fz : Nat × Nat} (hb : hp b = some (.rw c)) (hi : ι b = some (k, 0)) (hk : w.heap[k]? = some (.cells C T fz)) (hs : C'.size = C.size)
    (hc : CellsAt ι w c' C' 0) : Step ι hp w ι (upd hp b (.rw c')) (World.putBlock w k (.cells C' T fz)) := by
  have hsh := shapes_putBlock (fz' := fz) hk hs
  have hklt := (Array.getElem?_eq_some_iff.1 hk).1
  have hcell : ∀ {c : List AV} {D : Array Value} {base : Nat}, CellsAt ι w c D base → CellsAt ι (World.putBlock w k (.cells C' T fz)) c D base :=
    fun ⟨h1, h2⟩ => ⟨h1, fun i v hv => let ⟨v', a1, a2⟩ := h2 i v hv; ⟨v', a1, a2.mono (.refl _) hsh⟩⟩
  have huf : Unfrozen C fz := by
    obtain ⟨k', C2, T2, fz2, e1, e2, e3, _⟩ := h.rw b c hb
    rw [hi] at e1; cases e1
    rw [hk] at e2; cases e2
    exact e3
  have hoth : ∀ b' B k' base', hp b' = some B → B ≠ .dead → b' ≠ b → ι b' = some (k', base') → k' ≠ k := by
    intro b' B k' base' h1 h2 h3 h4 he
    subst he
    exact h.excl b b' c B k' 0 base' hb h1 h2 h3 hi h4
  refine ⟨.refl _, ⟨fun b' => ?_, fun b' c1 hb' => ?_, fun b' c1 hb' => ?_, fun b1 b2 c1 B k1 base base' h1 h2 hd hne h3 h4 => ?_⟩, by simp [World.putBlock], fun j hj hno => ?_, fun b' c1 k1 hb' hi' hk1 => ?_, fun b' c1 hb' => ?_, hsh, rfl, rfl, rfl⟩
  · unfold upd
    split
    · rename_i he; subst he; rw [hi]; rfl
    · exact h.dom b'
  · unfold upd at hb'
    split at hb'
    · rename_i he; subst he
      cases hb'
      refine ⟨k, C', T, fz, hi, heap_putBlock_same w _ hklt, ?_, hcell hc⟩
      intro j hj; rw [hs] at hj; exact huf j hj
    · rename_i hne
      obtain ⟨k1, C1, T1, fz1, e1, e2, e3, e4⟩ := h.rw b' c1 hb'
      have := hoth b' _ k1 0 hb' (by simp) hne e1
      exact ⟨k1, C1, T1, fz1, e1, by rw [heap_putBlock_ne w _ this]; exact e2, e3, hcell e4⟩
  · unfold upd at hb'
    split at hb'
    · cases hb'
    · rename_i hne
      obtain ⟨k1, base, C1, T1, fz1, e1, e2, e4⟩ := h.ro b' c1 hb'
      have := hoth b' _ k1 base hb' (by simp) hne e1
      exact ⟨k1, base, C1, T1, fz1, e1, by rw [heap_putBlock_ne w _ this]; exact e2, hcell e4⟩
  · unfold upd at h1 h2
    split at h1 <;> split at h2
    · omega
    · rename_i e1 e2; subst e1
      exact h.excl b1 b2 c B k1 base base' hb h2 hd hne h3 h4
    · rename_i e1 e2; subst e2
      exact h.excl b1 b2 c1 (.rw c) k1 base base' h1 hb (by simp) hne h3 h4
    · exact h.excl b1 b2 c1 B k1 base base' h1 h2 hd hne h3 h4
  · have : j ≠ k := fun he => hno b c hb (he ▸ hi)
    rw [heap_putBlock_ne w _ this]
  · unfold upd at hb'
    split at hb'
    · rename_i he; subst he; exact ⟨_, c, hb, hi'⟩
    · exact ⟨b', c1, hb', hi'⟩
  · unfold upd at hb'
    split at hb'
    · cases hb'
    · exact hb'
theorem Step.rename {ι : Nm} {hp : PH} {w : World} (h : Rel ι hp w) {b n k : Nat} {c c' : List AV} {C C' : Array Value} {T : TypeId} {fz : Nat × Nat} (hb : hp b = some (.rw c)) (hn : hp n = none) (hi : ι b = some (k, 0)) (hk : w.heap[k]? = some (.cells C T fz)) (hs : C'.size = C.size)
    (hc : CellsAt ι w c' C' 0) : Step ι hp w (updN ι n k) (upd (upd hp b .dead) n (.rw c')) (World.putBlock w k (.cells C' T fz)) := by
  have hin := h.none_of hn
  have hbn : b ≠ n := by intro he; subst he; rw [hb] at hn; cases hn
  have hext : Ext ι (updN ι n k) := by
    intro b p hb
    unfold updN
    split
    · rename_i he; subst he; rw [hin] at hb; cases hb
    · exact hb
  have hsh := shapes_putBlock (fz' := fz) hk hs
  have hklt := (Array.getElem?_eq_some_iff.1 hk).1
  have hcell : ∀ {c : List AV} {D : Array Value} {base : Nat}, CellsAt ι w c D base → CellsAt (updN ι n k) (World.putBlock w k (.cells C' T fz)) c D base :=
    fun ⟨h1, h2⟩ => ⟨h1, fun i v hv => let ⟨v', a1, a2⟩ := h2 i v hv; ⟨v', a1, a2.mono hext hsh⟩⟩
  have huf : Unfrozen C fz := by
    obtain ⟨k', C2, T2, fz2, e1, e2, e3, _⟩ := h.rw b c hb
    rw [hi] at e1; cases e1
    rw [hk] at e2; cases e2
    exact e3
  have hoth : ∀ b' B k' base', hp b' = some B → B ≠ .dead → b' ≠ b → ι b' = some (k', base') → k' ≠ k := by
    intro b' B k' base' h1 h2 h3 h4 he
    subst he
    exact h.excl b b' c B k' 0 base' hb h1 h2 h3 hi h4
  refine ⟨hext, ⟨fun b' => ?_, fun b' c1 hb' => ?_, fun b' c1 hb' => ?_, fun b1 b2 c1 B k1 base base' h1 h2 hd hne h3 h4 => ?_⟩, by simp [World.putBlock], fun j hj hno => ?_, fun b' c1 k1 hb' hi' hk1 => ?_, fun b' c1 hb' => ?_, hsh, rfl, rfl, rfl⟩
  · unfold upd updN
    split
    · rfl
    · split
      · rename_i he; subst he; rw [hi]; rfl
      · exact h.dom b'
  · unfold upd at hb'
    split at hb'
    · rename_i he; subst he
      cases hb'
      refine ⟨k, C', T, fz, by simp [updN], heap_putBlock_same w _ hklt, ?_, hcell hc⟩
      intro j hj; rw [hs] at hj; exact huf j hj
    · rename_i hne
      split at hb'
      · cases hb'
      · rename_i hne2
        obtain ⟨k1, C1, T1, fz1, e1, e2, e3, e4⟩ := h.rw b' c1 hb'
        have := hoth b' _ k1 0 hb' (by simp) hne2 e1
        exact ⟨k1, C1, T1, fz1, by simp [updN, hne, e1], by rw [heap_putBlock_ne w _ this]; exact e2, e3, hcell e4⟩
  · unfold upd at hb'
    split at hb'
    · cases hb'
    · rename_i hne
      split at hb'
      · cases hb'
      · rename_i hne2
        obtain ⟨k1, base, C1, T1, fz1, e1, e2, e4⟩ := h.ro b' c1 hb'
        have := hoth b' _ k1 base hb' (by simp) hne2 e1
        exact ⟨k1, base, C1, T1, fz1, by simp [updN, hne, e1], by rw [heap_putBlock_ne w _ this]; exact e2, hcell e4⟩
  · unfold upd at h1 h2
    unfold updN at h3 h4
    split at h1
    · rename_i e1
      rw [if_pos e1] at h3; cases h3
      split at h2
      · omega
      · rename_i e2
        rw [if_neg e2] at h4
        split at h2
        · cases h2; exact absurd rfl hd
        · rename_i e3
          exact hoth b2 B k base' h2 hd e3 h4 rfl
    · rename_i e1
      rw [if_neg e1] at h3
      split at h1
      · cases h1
      · rename_i e3
        split at h2
        · rename_i e2
          rw [if_pos e2] at h4; cases h4
          exact hoth b1 _ k base h1 (by simp) e3 h3 rfl
        · rename_i e2
          rw [if_neg e2] at h4
          split at h2
          · cases h2; exact absurd rfl hd
          · exact h.excl b1 b2 c1 B k1 base base' h1 h2 hd hne h3 h4
  · have : j ≠ k := fun he => hno b c hb (he ▸ hi)
    rw [heap_putBlock_ne w _ this]
  · unfold upd at hb'
    unfold updN at hi'
    split at hb'
    · rename_i he
      rw [if_pos he] at hi'; cases hi'
      exact ⟨b, c, hb, hi⟩
    · rename_i he
      rw [if_neg he] at hi'
      split at hb'
      · cases hb'
      · exact ⟨b', c1, hb', hi'⟩
  · unfold upd at hb'
    split at hb'
    · cases hb'
    · split at hb'
      · cases hb'
      · exact hb'
theorem Step.kill {ι : Nm} {hp : PH} {w : World} (h : Rel ι hp w) {b : Nat} {B : Blk} (hb : hp b = some B) : Step ι hp w ι (upd hp b .dead) w := by
  refine ⟨.refl _, ⟨fun b' => ?_, fun b' c1 hb' => ?_, fun b' c1 hb' => ?_, fun b1 b2 c1 B k1 base base' h1 h2 hd hne h3 h4 => ?_⟩, Nat.le_refl _, fun _ _ _ => rfl, fun b' c1 k1 hb' hi' hk1 => ?_, fun b' c1 hb' => ?_, .refl _, rfl, rfl, rfl⟩
  · unfold upd
    split
    · rename_i he; subst he
      rw [h.dom, hb]; rfl
    · exact h.dom b'
  · unfold upd at hb'
    split at hb'
    · cases hb'
    · exact h.rw b' c1 hb'
  · unfold upd at hb'
    split at hb'
    · cases hb'
    · exact h.ro b' c1 hb'
  · unfold upd at h1 h2
    split at h1
    · cases h1
    · split at h2
      · cases h2; exact absurd rfl hd
      · exact h.excl b1 b2 c1 B k1 base base' h1 h2 hd hne h3 h4
  · unfold upd at hb'
    split at hb'
    · cases hb'
    · exact ⟨b', c1, hb', hi'⟩
  · unfold upd at hb'
    split at hb'
    · cases hb'
    · exact hb'
def spliceC (C : Array Value) (o : Nat) (vs : List Value) : Array Value := (C.toList.take o ++ vs ++ C.toList.drop (o + vs.length)).toArray
theorem spliceC_size {C : Array Value} {o : Nat} {vs : List Value} (h : o + vs.length ≤ C.size) : (spliceC C o vs).size = C.size := by
  simp [spliceC]; omega
theorem setCell_putBlock {w : World} {g off : Nat} {C : Array Value} {T : TypeId} {fz : Nat × Nat} (h : w.heap[g]? = some (.cells C T fz)) (v : Value) :
    w.setCell ⟨g, off, none⟩ v = World.putBlock w g (.cells (C.setIfInBounds off v) T fz) := by
  unfold World.setCell World.putBlock
  congr 1
  apply Array.ext_getElem?
  intro i
  have hg := (Array.getElem?_eq_some_iff.1 h).1
  rw [Array.getElem?_modify]
  by_cases hi : g = i
  · subst hi
    rw [if_pos rfl, h]
    simp [hg]
  · rw [if_neg hi, Array.getElem?_setIfInBounds_ne hi]
theorem run_storeCells_sx (P : Program) (g o : Nat) (T : TypeId) (fz : Nat × Nat) : ∀ (vs : List Value) (i : Nat) (C : Array Value) (w : World), w.heap[g]? = some (.cells C T fz) → Unfrozen C fz → o + i + vs.length ≤ C.size → (∀ v ∈ vs, v.oneCell' = true) →
    (storeCells ⟨g, o, none⟩ vs i).run P w = .ok () (World.putBlock w g (.cells (spliceC C (o + i) vs) T fz))
  | [], i, C, w, hg, _, _, _ => by
    have : spliceC C (o + i) [] = C := by simp [spliceC]
    simp only [storeCells, Sem.run_pure, this, putBlock_self hg]
  | v :: vs, i, C, w, hg, hf, hl, h1 => by
    simp only [List.length_cons] at hl
    have hcell : w.cell? ⟨g, o + i, none⟩ = some C[o + i] := by
      simp [World.cell?, hg]
    have hfr : w.frozen? ⟨g, o + i, none⟩ = false := by
      have := hf (o + i) (by omega)
      simp only [World.frozen?, hg]
      simp only [Bool.and_eq_false_iff, decide_eq_false_iff_not]
      omega
    simp only [storeCells, Sem.run_bind, Addr.add_off, run_store P w _ v _ (h1 v (by simp)), hcell, hfr, Bool.false_eq_true, if_false, Result.andThen_ok, setCell_putBlock hg]
    have hglt := (Array.getElem?_eq_some_iff.1 hg).1
    rw [run_storeCells_sx P g o T fz vs (i + 1) (C.setIfInBounds (o + i) v) _ (heap_putBlock_same w _ hglt) (by intro j hj; simp at hj; exact hf j hj) (by simp; omega) (fun u hu => h1 u (by simp [hu])), putBlock_putBlock]
    have key : spliceC (C.setIfInBounds (o + i) v) (o + (i + 1)) vs = spliceC C (o + i) (v :: vs) := by
      unfold spliceC
      apply Array.ext'
      simp only [Array.toList_setIfInBounds, List.length_cons]
      rw [show o + (i + 1) = o + i + 1 by omega, show o + i + 1 + vs.length = o + i + (vs.length + 1) by omega]
      rw [List.drop_set_of_lt (by omega)]
      have hl2 : o + i < C.toList.length := by simp; omega
      rw [List.take_succ_eq_append_getElem (by simpa using hl2)]
      simp [List.take_set]
      rw [List.set_eq_of_length_le (by simp; omega)]
    rw [key]
theorem spliceC_rel {ι : Nm} {w : World} {c vs : List AV} {C : Array Value} {us : List Value} {o : Nat} (hc : CellsAt ι w c C 0) (hv : LRel ι w vs us) (ho : o + vs.length ≤ c.length) :
    CellsAt ι w (c.take o ++ vs ++ c.drop (o + vs.length)) (spliceC C o us) 0 := by
  have hlen := hv.1
  have h1 := hc.1
  refine ⟨by rw [spliceC_size (by omega)]; simp; omega, fun i v hi => ?_⟩
  have hcv : ∀ (i : Nat) (v : AV), c[i]? = some v → ∃ v', C.toList[i]? = some v' ∧ VRel ι w v v' := by
    intro i v h
    obtain ⟨v', a1, a2⟩ := hc.2 i v h
    exact ⟨v', by simpa using a1, a2⟩
  simp only [spliceC, Nat.zero_add, List.getElem?_toArray]
  rw [List.append_assoc] at hi ⊢
  rw [List.getElem?_append] at hi ⊢
  simp only [List.length_take, Array.length_toList] at hi ⊢
  rw [Nat.min_eq_left (by omega)] at hi ⊢
  by_cases h2 : i < o
  · rw [if_pos h2, List.getElem?_take_of_lt h2] at hi ⊢
    exact hcv i v hi
  · rw [if_neg h2] at hi ⊢
    rw [List.getElem?_append] at hi ⊢
    rw [← hlen]
    by_cases h3 : i - o < vs.length
    · rw [if_pos h3] at hi ⊢
      obtain ⟨y, hy, hr⟩ := hv.some hi
      exact ⟨y, hy, hr⟩
    · rw [if_neg h3, List.getElem?_drop] at hi ⊢
      exact hcv _ v hi
end Go.Sx
namespace Go.Sx
open Go
def Does (P : Program) (o : Oper) (a : Act) (ι : Nm) (hp : PH) (w : World) (H' : Heap) (v : AV) : Prop :=
  ∃ r v' w' ι', (execOp a.eval o).run P w = .ok r w' ∧ (r = .value v' ∨ (r = .skip ∧ v' = undef)) ∧ Step ι hp w ι' (over hp H') w' ∧ VRel ι' w' v v'
structure AtH (ι : Nm) (hp : PH) (w : World) (N : Nat) (e : Env) (a : Act) (H H' : Heap) : Prop where
  rel : Rel ι hp w
  env : EnvRel ι w N e a.tmps
  same : ∀ b, b < H.length → hp b = H[b]?
  free : ∀ b, H.length ≤ b → b < H'.length → hp b = none
section
variable {P : Program} {ι : Nm} {w : World} {N : Nat} {e : Env} {a : Act} {H H' : Heap} {hp : PH} {Γ : Fns}
theorem AtH.at_ (A : AtH ι hp w N e a H H') : At ι hp w N e a H :=
  ⟨A.rel, A.env, fun b B _ hb _ => by rw [A.same b (List.getElem?_eq_some_iff.1 hb).1]; exact hb⟩
theorem CellsAt.of_l {c : List AV} {C : Array Value} (h : LRel ι w c C.toList) : CellsAt ι w c C 0 := by
  refine ⟨by have := h.1; simp at this; omega, fun i v hv => ?_⟩
  obtain ⟨y, hy, hr⟩ := h.some hv
  exact ⟨y, by simpa using hy, hr⟩
theorem CellsAt.of_append {c : List AV} {C D : Array Value} (h : LRel ι w c C.toList) : CellsAt ι w c (C ++ D) 0 := by
  refine ⟨by have := h.1; simp at this ⊢; omega, fun i v hv => ?_⟩
  obtain ⟨y, hy, hr⟩ := h.some hv
  refine ⟨y, ?_, hr⟩
  rw [Nat.zero_add, Array.getElem?_append_left (by have := (List.getElem?_eq_some_iff.1 hy).1; simpa using this)]
  simpa using hy
theorem unfrozen0 (C : Array Value) : Unfrozen C (0, 0) := fun j _ h => by omega
structure AtN (ι : Nm) (hp : PH) (w : World) (N : Nat) (e : Env) (a : Act) (n : Nat) : Prop where
  rel : Rel ι hp w
  env : EnvRel ι w N e a.tmps
  free : hp n = none
def Makes (P : Program) (o : Oper) (a : Act) (ι : Nm) (hp : PH) (w : World) (n : Nat) (c : List AV) (v : AV) : Prop :=
  ∃ v' w' ι', (execOp a.eval o).run P w = .ok (.value v') w' ∧ Step ι hp w ι' (upd hp n (.rw c)) w' ∧ VRel ι' w' v v'
theorem new_block {c : List AV} {n : Nat} (A : AtN ι hp w N e a n) {C : Array Value} {T : TypeId} {fz : Nat × Nat} (hc : CellsAt ι w c C 0) (hf : Unfrozen C fz) :
    Step ι hp w (updN ι n w.heap.size) (upd hp n (.rw c)) (w.alloc (.cells C T fz)) :=
  Step.alloc A.rel A.free hc hf
theorem does_alloc {t : TypeId} {z : List AV} (hz : zeroOf P t = some z) {dst : Option Tmp} {type : TypeId} {pos : String} {after : Array Edge} {guard : Option (Nat × Bool)} {n : Nat} (A : AtN ι hp w N e a n) :
    Makes P ⟨dst, .alloc t, type, pos, after, guard⟩ a ι hp w n z (.ptr n 0) := by
  obtain ⟨i, v, hi, hv, hr, hc, hrun⟩ := zeroOf_ok (ι := ι) (w := w) hz
  refine ⟨.pointer (some ⟨w.heap.size, 0, none⟩), w.alloc (.cells v.cells t), _, ?_, new_block A (CellsAt.of_l hr) (unfrozen0 _), ?_⟩
  · simp [execOp, Instr.alloc, hrun, newVar, newRow]
  · have : VRel (updN ι n w.heap.size) (w.alloc (.cells v.cells t)) (.ptr n 0) (.pointer (some ⟨w.heap.size, 0 + 0, none⟩)) := .ptr (by simp [updN])
    exact this
theorem does_box {t : TypeId} {x : Operand} {y : Opd} {vs : List AV} (hx : cOpd x = some y) (hv : (y.ev e).vcells = some vs) {dst : Option Tmp} {type : TypeId} {pos : String} {after : Array Edge} {guard : Option (Nat × Bool)} {n : Nat} (A : AtN ι hp w N e a n) :
    Makes P ⟨dst, .box t x, type, pos, after, guard⟩ a ι hp w n vs (.ptr n 0) := by
  have hr := (cOpd_rel hx A.env).vcells hv
  refine ⟨.pointer (some ⟨w.heap.size, 0, none⟩), w.alloc (.cells (a.eval x).cells t), _, ?_, new_block A (CellsAt.of_l hr) (unfrozen0 _), ?_⟩
  · simp [execOp, Instr.box, newVar, newRow]
  · have : VRel (updN ι n w.heap.size) (w.alloc (.cells (a.eval x).cells t)) (.ptr n 0) (.pointer (some ⟨w.heap.size, 0 + 0, none⟩)) := .ptr (by simp [updN])
    exact this
theorem does_buildSl {t el : TypeId} (hu : P.underlying t = some (.slice el)) {len s : Nat} (hs : szOf P el = some s) {z : List AV} (hz : zeroOf P el = some z) {ps : Array (Nat × Operand)} {qs : List (Nat × Nat × Opd)} (hq : cParts (fun i => some (i * s, s)) ps.toList = some qs)
    (hlim : len * s ≤ 16777216) (hzl : z.length = s) (hs0 : s ≠ 0) {c : List AV} (hc : fillA (zeros len z) (qs.map fun p => (p.1, p.2.1, p.2.2.ev e)) = some c) {dst : Option Tmp} {type : TypeId} {pos : String} {after : Array Edge} {guard : Option (Nat × Bool)} {n : Nat} (A : AtN ι hp w N e a n) :
    Makes P ⟨dst, .buildSlice t len ps, type, pos, after, guard⟩ a ι hp w n c (.sl n 0 len len s) := by
  obtain ⟨i, v, hi, hv, hr, hcc, hrun⟩ := zeroOf_ok (ι := ι) (w := w) hz
  have hvs : v.cells.size = s := by have := hr.1; simp at this; omega
  have hz0 : z ≠ [] := by intro h; subst h; simp at hzl; omega
  have hp2 : (ps.map fun (i, x) => (i, a.eval x)).toList = ps.toList.map fun p => (p.1, a.eval p.2) := by simp
  have hn' : ¬ (len * s > 2 ^ 24) := by omega
  have key : ∃ C', LRel ι w c C'.toList ∧ (Instr.buildSlice t len (ps.map fun (i, x) => (i, a.eval x))).run P w = .ok (.slice (some ⟨w.heap.size, 0, none⟩) len len) (w.alloc (.cells C' el)) := by
    by_cases h0 : len * s = 0
    · have : len = 0 := by rcases Nat.mul_eq_zero.1 h0 with h | h <;> omega
      subst this
      obtain ⟨C', g1, g2⟩ := fill_ok (C := #[]) (pl2 := fun i => some (i * s, s)) (fun _ _ h => h) A.env hq (by simpa [zeros_zero] using LRel.nil) hc
      refine ⟨C', g2, ?_⟩
      unfold Instr.buildSlice
      rw [Sem.run_bind, run_underlying hu, Result.andThen_ok]
      simp only
      rw [Sem.run_bind, run_sizeOf_sz hs, Result.andThen_ok, if_neg hn', hp2]
      have hr0 : ∀ f : Nat → Value, (Array.range 0).map f = #[] := by intro f; simp
      rw [Nat.zero_mul]
      simp only [if_true, Sem.run_bind, Sem.run_pure, Result.andThen_ok, hr0]
      rw [g1]
      simp [newRow]
    · obtain ⟨C', g1, g2⟩ := fill_ok (pl2 := fun i => some (i * s, s)) (fun _ _ h => h) A.env hq (made_ok hr hz0 len (len * s) (by rw [hvs])) hc
      refine ⟨C', g2, ?_⟩
      unfold Instr.buildSlice
      rw [Sem.run_bind, run_underlying hu, Result.andThen_ok]
      simp only
      rw [Sem.run_bind, run_sizeOf_sz hs, Result.andThen_ok, if_neg hn', hp2]
      simp only [if_neg h0, Sem.run_bind, hrun, Result.andThen_ok, Sem.run_pure]
      rw [g1]
      simp [newRow]
  obtain ⟨C', g2, hb⟩ := key
  refine ⟨.slice (some ⟨w.heap.size, 0, none⟩) len len, w.alloc (.cells C' el), _, ?_, new_block A (CellsAt.of_l g2) (unfrozen0 _), ?_⟩
  · simp only [execOp, Sem.run_bind, hb, Result.andThen_ok, Sem.run_pure]
  · exact .sl (show updN ι _ w.heap.size _ = some (w.heap.size, 0) by simp [updN]) (Nat.le_refl _) (Nat.le_refl _) (.inl rfl) (.inr rfl)
theorem does_mkSl {t el : TypeId} (hu : P.underlying t = some (.slice el)) {i : TypeInfo} (hi : P.info? el = some i) {z : List AV} (hz : zeroOf P el = some z) (hzl : z.length = i.size) (hz0 : z ≠ []) {l c : Operand} {l' c' : Opd} (hl : cOpd l = some l') (hc : cOpd c = some c')
    {v : AV} {B : Blk} (h : mkSlA H z i.bytes (l'.ev e) (c'.ev e) = some (v, H ++ [B])) {dst : Option Tmp} {type : TypeId} {pos : String} {after : Array Edge} {guard : Option (Nat × Bool)} (A : AtN ι hp w N e a H.length) :
    ∃ c0, B = .rw c0 ∧ Makes P ⟨dst, .makeSlice t l c, type, pos, after, guard⟩ a ι hp w H.length c0 v := by
  obtain ⟨i2, zv, hi2, hzi, hr, hcc, hrun⟩ := zeroOf_ok (ι := ι) (w := w) hz
  rw [hi] at hi2; cases hi2
  have h1 := cOpd_rel hl A.env
  have h2 := cOpd_rel hc A.env
  unfold mkSlA at h
  split at h
  · rename_i k1 n1 k2 n2 e1 e2
    rw [e1] at h1; rw [e2] at h2
    have h1 := h1.of_int
    have h2 := h2.of_int
    split at h
    · rename_i hcond
      obtain ⟨c1, c2, c3, c4⟩ := hcond
      simp only [Option.some.injEq, Prod.mk.injEq, List.append_cancel_left_eq, List.cons.injEq, and_true] at h
      obtain ⟨rfl, rfl⟩ := h
      have hvs : zv.cells.size = i.size := by have := hr.1; simp at this; omega
      refine ⟨_, rfl, .slice (some ⟨w.heap.size, 0, none⟩) n1.toNat n2.toNat, w.alloc (.cells (madeCells zv.cells (n2.toNat * i.size)) el), _, ?_, new_block A (T := el) (CellsAt.of_l (made_ok hr hz0 n2.toNat (n2.toNat * i.size) (by rw [hvs]))) (unfrozen0 _), ?_⟩
      · have := run_make (P := P) w t el i zv hu hi hzi k1 k2 n1 n2 c1 c2 (by rw [Int.mul_comm]; exact c3) (by omega)
        simp only [execOp, h1, h2, Sem.run_bind, this, Result.andThen_ok, Sem.run_pure, madeCells]
      · exact .sl (show updN ι _ w.heap.size _ = some (w.heap.size, 0) by simp [updN]) (by omega) (Nat.le_refl _) (.inl rfl) (.inr rfl)
    · cases h
  · cases h
theorem does_store {t : TypeId} {sz n : Nat} (hs : szOf P t = some sz) {x y : Operand} {x' y' : Opd} (hx : cOpd x = some x') (hy : cOpd y = some y') (h : st n H sz (x'.ev e) (y'.ev e) = some H') {dst : Option Tmp} {type : TypeId} {pos : String} {after : Array Edge} {guard : Option (Nat × Bool)} (A : AtH ι hp w N e a H H') :
    Does P ⟨dst, .store t x y, type, pos, after, guard⟩ a ι hp w H' .top := by
  have h1 := cOpd_rel hx A.env
  have h2 := cOpd_rel hy A.env
  unfold st at h
  split at h
  · rename_i b o hb
    rw [hb] at h1
    obtain ⟨k, base, e1, e2⟩ := h1.of_ptr
    simp only [Option.bind_eq_some_iff] at h
    obtain ⟨c, hc, vs, hvs, h⟩ := h
    split at h
    · rename_i hsz
      unfold stW at h
      split at h
      · rename_i hcond
        cases h
        have hHb : H[b]? = some (.rw c) := by
          unfold rwOf at hc
          split at hc
          · rename_i heq; cases hc; exact heq
          · cases hc
        have hblt := (List.getElem?_eq_some_iff.1 hHb).1
        have hpb : hp b = some (.rw c) := by rw [A.same b hblt]; exact hHb
        obtain ⟨k2, C, T, fz, i1, i2, i3, i4⟩ := A.rel.rw b c hpb
        rw [e1] at i1; cases i1
        have hvr := h2.vcells hvs
        have hcell : ∀ v ∈ (a.eval y).cells.toList, v.oneCell' = true := by
          intro v hv
          obtain ⟨j, hj, rfl⟩ := List.mem_iff_getElem.1 hv
          have hj2 : j < vs.length := hvr.1 ▸ hj
          have hall := hcond.2
          simp only [stOK, Bool.and_eq_true, List.all_eq_true] at hall
          exact (hvr.2 j vs[j] _ (List.getElem?_eq_getElem hj2) (List.getElem?_eq_getElem hj)).oneCell (hall.1 _ (List.getElem_mem hj2))
        have hvsz : (a.eval y).cells.size = sz := by have := hvr.1; simp at this; omega
        have hlen := i4.1
        have hrun := run_storeCells_sx P k o T fz (a.eval y).cells.toList 0 C w i2 i3 (by simp; omega) hcell
        refine ⟨.skip, undef, World.putBlock w k (.cells (spliceC C o (a.eval y).cells.toList) T fz), ι, ?_, .inr ⟨rfl, rfl⟩, ?_, .top _⟩
        · simp only [execOp, e2, Instr.storeAt, run_sureAddr, Sem.run_bind, Result.andThen_ok, storeVar, run_sizeOf_sz hs, hvsz, ne_eq, not_true_eq_false, if_false]
          rw [Nat.zero_add, hrun, Nat.add_zero]
          rfl
        · rw [over_set A.same hblt]
          have hsp := spliceC_rel i4 hvr (o := o) (by omega)
          rw [put_eq c o vs (by omega)]
          exact Step.write A.rel hpb e1 i2 (spliceC_size (by simp; omega)) hsp
      · cases h
    · cases h
  · cases h
theorem run_copy {ts : Array TypeId} {t el type : TypeId} {sz : Nat} (ht : ts[0]? = some t) (hu : P.underlying t = some (.slice el)) (hs : szOf P el = some sz) {base : Option Addr} {dl dc : Nat} {s : Value} {m : Nat} (g1 : (Builtin.lenOf s).run P w = .ok m w)
    {vs : List Value} (g3 : (Builtin.firstCells sz (m.min dl) s).run P w = .ok vs.toArray w) :
    (Builtin.copy_ ts type #[.slice base dl dc, s]).run P w = (((match base with | some a => storeCells a vs | none => pure () : Sem Unit)).run P w).andThen fun _ w' => .ok (goInt (m.min dl : Nat)) w' := by
  cases base <;> simp [Builtin.copy_, ht, run_underlying hu, g1, run_sizeOf_sz hs, g3]
theorem does_copy {sz n : Nat} {x y : Operand} {x' y' : Opd} (hx : cOpd x = some x') (hy : cOpd y = some y') {ts : Array TypeId} {t el : TypeId} (ht : ts[0]? = some t) (hu : P.underlying t = some (.slice el)) (hs : szOf P el = some sz) {type : TypeId}
    {v : AV} (h : copyA n H sz (x'.ev e) (y'.ev e) = some (v, H')) (A : AtH ι hp w N e a H H') :
    ∃ v' w' ι', (Builtin.copy_ ts type #[a.eval x, a.eval y]).run P w = .ok v' w' ∧ Step ι hp w ι' (over hp H') w' ∧ VRel ι' w' v v' := by
  have h1 := cOpd_rel hx A.env
  have h2 := cOpd_rel hy A.env
  unfold copyA at h
  simp only [Option.bind_eq_some_iff] at h
  obtain ⟨⟨m, xs⟩, hsrc, h⟩ := h
  simp only at h
  split at h
  · rename_i heq
    rw [heq] at h1
    cases h
    obtain ⟨g1, g2, vs, g3, g4⟩ := src_ok (P := P) A.at_ h2 hsrc 0 (Nat.zero_le _)
    generalize a.eval x = vx at *
    cases h1
    refine ⟨.int .i64 0, w, ι, ?_, ?_, .int _ _⟩
    · have : m.min 0 = 0 := Nat.min_zero _
      rw [run_copy ht hu hs g1 (by rw [this]; exact g3)]
      simp [this, goInt]
    · rw [over_self A.same]; exact Step.refl A.rel
  · rename_i b o len cap sz' heq
    rw [heq] at h1
    split at h
    · rename_i hsz
      subst hsz
      generalize a.eval x = vx at *
      cases h1 with
      | sl hi hl hc hm ho =>
      rename_i k base cap' o'
      obtain ⟨g1, g2, vs, g3, g4⟩ := src_ok (P := P) A.at_ h2 hsrc (m.min len) (Nat.min_le_left _ _)
      split at h
      · rename_i hz
        cases h
        refine ⟨.int .i64 0, w, ι, ?_, ?_, .int _ _⟩
        · rw [hz] at g3 g4
          have hvs : vs = [] := List.eq_nil_of_length_eq_zero (by have := g4.1; simp at this; omega)
          subst hvs
          rw [run_copy ht hu hs g1 (by rw [hz]; exact g3), hz]
          simp [storeCells, goInt]
        · rw [over_self A.same]; exact Step.refl A.rel
      · rename_i hnz
        simp only [Option.bind_eq_some_iff] at h
        obtain ⟨c, hcc, h⟩ := h
        split at h
        · rename_i hcond
          cases h
          have hHb : H[b]? = some (.rw c) := by
            unfold rwOf at hcc
            split at hcc
            · rename_i heq; cases hcc; exact heq
            · cases hcc
          have hblt := (List.getElem?_eq_some_iff.1 hHb).1
          have hpb : hp b = some (.rw c) := by rw [A.same b hblt]; exact hHb
          obtain ⟨k2, C, T, fz, i1, i2, i3, i4⟩ := A.rel.rw b c hpb
          rw [hi] at i1; cases i1
          have ho' : o' = o := by
            rcases ho with h0 | h0
            · exfalso
              apply hnz
              have hl0 : len = 0 := by omega
              rw [hl0]; exact Nat.min_zero _
            · rw [h0, Nat.zero_add]
          subst ho'
          have hcell : ∀ v ∈ vs, v.oneCell' = true := by
            intro v hv
            obtain ⟨j, hj, rfl⟩ := List.mem_iff_getElem.1 hv
            have hj2 : j < (xs.take (m.min len * sz')).length := g4.1 ▸ hj
            have hall := hcond.2
            simp only [stOK, Bool.and_eq_true, List.all_eq_true] at hall
            exact (g4.2 j _ _ (List.getElem?_eq_getElem hj2) (List.getElem?_eq_getElem hj)).oneCell (hall.1 _ (List.getElem_mem hj2))
          have hlen := i4.1
          have hvl := g4.1
          have hrun := run_storeCells_sx P k o' T fz vs 0 C w i2 i3 (by have := hcond.1; omega) hcell
          refine ⟨.int .i64 (m.min len : Nat), World.putBlock w k (.cells (spliceC C o' vs) T fz), ι, ?_, ?_, .int _ _⟩
          · rw [run_copy ht hu hs g1 g3]
            rw [hrun, Nat.add_zero]; rfl
          · rw [over_set A.same hblt]
            have hsp := spliceC_rel i4 g4 (o := o') hcond.1
            exact Step.write A.rel hpb hi i2 (spliceC_size (by have := hcond.1; omega)) hsp
        · cases h
    · cases h
  · cases h
end
end Go.Sx
namespace Go.Sx
open Go
section
variable {P : Program} {w : World}
theorem zeroCells_size (z : Array Value) (n : Nat) : (Builtin.zeroCells z n).size = n * z.size := by simp [Builtin.zeroCells]
set_option maxHeartbeats 4000000 in
theorem run_append_grows {ts : Array TypeId} {t el type : TypeId} {i : TypeInfo} {zv : Value} (ht : ts[0]? = some t) (hu : P.underlying t = some (.slice el)) (hi : P.info? el = some i) (hz : i.zero = some zv) (hb : i.bytes ≤ 16384) (hb0 : i.bytes ≠ 0)
    {u : TypeDesc} (h1 : (ts[1]?).bind P.underlying = some u) (hu1 : isIntD u = false) {base : Option Addr} {sl sc : Nat} {x : Value} {m : Nat} (g1 : (Builtin.lenOf x).run P w = .ok m w)
    (hgrow : sc < sl + m) (hlim : sl + m ≤ lim) {old new : List Value} (g2 : (Builtin.firstCells i.size sl (.slice base sl sc)).run P w.drew = .ok old.toArray w.drew) (g3 : (Builtin.firstCells i.size m x).run P w.drew = .ok new.toArray w.drew) :
    ∃ nc, sl + m ≤ nc ∧ (Builtin.append_ ts type #[.slice base sl sc, x]).run P w =
      .ok (.slice (some ⟨w.heap.size, 0, none⟩) (sl + m) nc) (w.drew.alloc (.cells ((old ++ new).toArray ++ Builtin.zeroCells zv.cells (nc - (sl + m))) el)) := by
  simp only [Option.bind_eq_some_iff] at h1
  obtain ⟨t1, ht1, hu2⟩ := h1
  refine ⟨(sl + m) + w.tape w.drawn (.appendCap (sl + m) sc el) % (2 ^ 63 - (sl + m)), by omega, ?_⟩
  have hn := nextslicecap_le hgrow
  have hlim' : sl + m ≤ 4294967296 := hlim
  have hbig : ¬ (Builtin.nextslicecap (sl + m) sc * i.bytes > 2 ^ 48) := by
    have : Builtin.nextslicecap (sl + m) sc * i.bytes ≤ (2 * (sl + m)) * 16384 := Nat.mul_le_mul hn hb
    omega
  have hneed : ¬ (sl + m ≤ sc) := by omega
  unfold Builtin.append_
  cases u <;> first
    | (simp [isIntD] at hu1; done)
    | (simp [ht, ht1, run_underlying hu, run_underlying hu2, g1, sizeOf, typeInfo, hi, hneed, hb0, hbig, Question.forced, Question.cut, g2, g3, zeroValue, hz, newRow]; rw [← Array.append_assoc, List.append_toArray old new])
set_option maxHeartbeats 4000000 in
theorem run_append_fits {ts : Array TypeId} {t el type : TypeId} {i : TypeInfo} (ht : ts[0]? = some t) (hu : P.underlying t = some (.slice el)) (hi : P.info? el = some i)
    {u : TypeDesc} (h1 : (ts[1]?).bind P.underlying = some u) (hu1 : isIntD u = false) {base : Option Addr} {sl sc : Nat} {x : Value} {m : Nat} (g1 : (Builtin.lenOf x).run P w = .ok m w)
    (hfit : sl + m ≤ sc) {new : List Value} (g3 : (Builtin.firstCells i.size m x).run P w = .ok new.toArray w) :
    (Builtin.append_ ts type #[.slice base sl sc, x]).run P w =
      (((match base with | some a => storeCells (a.add (sl * i.size)) new | none => pure () : Sem Unit)).run P w).andThen fun _ w' => .ok (.slice base (sl + m) sc) w' := by
  simp only [Option.bind_eq_some_iff] at h1
  obtain ⟨t1, ht1, hu2⟩ := h1
  unfold Builtin.append_
  cases u <;> first
    | (simp [isIntD] at hu1; done)
    | (cases base <;> simp [ht, ht1, run_underlying hu, run_underlying hu2, g1, sizeOf, typeInfo, hi, hfit, g3])
end
end Go.Sx
namespace Go.Sx
open Go
section
variable {P : Program} {ι : Nm} {w : World} {N : Nat} {e : Env} {a : Act} {H H' : Heap} {hp : PH} {Γ : Fns}
theorem spliceC_grow {c vs : List AV} {C : Array Value} {us : List Value} {o : Nat} (hc : CellsAt ι w c C 0) (hv : LRel ι w vs us) (ho : o ≤ c.length) (hC : o + vs.length ≤ C.size) :
    CellsAt ι w (c.take o ++ vs) (spliceC C o us) 0 := by
  have hlen := hv.1
  have h1 := hc.1
  refine ⟨by rw [spliceC_size (by omega)]; simp; omega, fun i v hi => ?_⟩
  simp only [spliceC, Nat.zero_add, List.getElem?_toArray]
  rw [List.append_assoc]
  rw [List.getElem?_append] at hi ⊢
  simp only [List.length_take, Array.length_toList] at hi ⊢
  rw [Nat.min_eq_left (by omega)] at hi ⊢
  by_cases h2 : i < o
  · rw [if_pos h2, List.getElem?_take_of_lt h2] at hi ⊢
    obtain ⟨v', a1, a2⟩ := hc.2 i v hi
    exact ⟨v', by simpa using a1, a2⟩
  · rw [if_neg h2] at hi ⊢
    have h3 := (List.getElem?_eq_some_iff.1 hi).1
    rw [List.getElem?_append_left (by omega)]
    exact hv.some hi
theorem over_kill_push {b : Nat} {B : Blk} (h : ∀ b, b < H.length → hp b = H[b]?) (hb : b < H.length) : over hp (H.set b .dead ++ [B]) = upd (upd hp b .dead) H.length B := by
  funext x
  unfold over upd
  simp only [List.length_append, List.length_set, List.length_cons, List.length_nil]
  by_cases h1 : x < H.length
  · rw [if_pos (by omega), List.getElem?_append_left (by simpa using h1), List.getElem?_set]
    by_cases h2 : x = b
    · subst h2; simp [h1, Nat.ne_of_lt h1]
    · rw [if_neg (by omega), if_neg (by omega), if_neg h2, h x h1]
  · by_cases h2 : x = H.length
    · subst h2
      simp
    · rw [if_neg (by omega), if_neg h2, if_neg (by omega)]
theorem shape_alloc (w : World) (C : Array Value) (T : TypeId) : (w.alloc (.cells C T)).shape? w.heap.size = some (T, C.size) := by
  unfold World.shape?
  rw [heap_alloc_new]
theorem all_one {xs : List AV} {vs : List Value} (h : LRel ι w xs vs) (hc : xs.all AV.isCell = true) : ∀ v ∈ vs, v.oneCell' = true := by
  intro v hv
  obtain ⟨j, hj, rfl⟩ := List.mem_iff_getElem.1 hv
  have hj2 : j < xs.length := h.1 ▸ hj
  simp only [List.all_eq_true] at hc
  exact (h.2 j _ _ (List.getElem?_eq_getElem hj2) (List.getElem?_eq_getElem hj)).oneCell (hc _ (List.getElem_mem hj2))
theorem does_append {x y : Operand} {x' y' : Opd} (hx : cOpd x = some x') (hy : cOpd y = some y') {ts : Array TypeId} {t el type : TypeId} {i : TypeInfo} (ht : ts[0]? = some t) (hu : P.underlying t = some (.slice el)) (hi : P.info? el = some i)
    (hz : i.zero.isSome = true) (hb : i.bytes ≤ 16384) (hb0 : i.bytes ≠ 0) (hs0 : i.size ≠ 0) {u : TypeDesc} (hu2 : (ts[1]?).bind P.underlying = some u) (hu1 : isIntD u = false) (hzs : ∀ zv, i.zero = some zv → zv.cells.size = i.size)
    {v : AV} (h : appendA H i.size (x'.ev e) (y'.ev e) = some (v, H')) (A : AtH ι hp w N e a H H') :
    ∃ v' w' ι', (Builtin.append_ ts type #[a.eval x, a.eval y]).run P w = .ok v' w' ∧ Step ι hp w ι' (over hp H') w' ∧ VRel ι' w' v v' := by
  obtain ⟨zv, hz⟩ := Option.isSome_iff_exists.1 hz
  have hzsz := hzs zv hz
  have h1 := cOpd_rel hx A.env
  have h2 := cOpd_rel hy A.env
  unfold appendA at h
  simp only [Option.bind_eq_some_iff] at h
  obtain ⟨⟨m, xs⟩, hsrc, h⟩ := h
  simp only at h
  obtain ⟨g1, g2, vs, g3, g4⟩ := src_ok (P := P) A.at_ h2 hsrc m (Nat.le_refl _)
  have hdrew : Shapes w w.drew := fun _ _ h => h
  have A2 : At ι hp w.drew N e a H := ⟨A.rel.drew _, A.env.mono (.refl _) hdrew, A.at_.here⟩
  obtain ⟨_, _, vsd, g3d, g4d⟩ := src_ok (P := P) A2 (h2.mono (.refl _) hdrew) hsrc m (Nat.le_refl _)
  rw [← g2, List.take_length] at g4 g4d
  split at h
  · rename_i heq
    rw [heq] at h1
    generalize a.eval x = vx at *
    cases h1
    split at h
    · rename_i hm0
      cases h
      subst hm0
      have hvs : vs = [] := List.eq_nil_of_length_eq_zero (by have := g4.1; simp at g2; simp [g2] at this; omega)
      subst hvs
      refine ⟨.slice none 0 0, w, ι, ?_, by rw [over_self A.same]; exact Step.refl A.rel, .nsl⟩
      rw [run_append_fits (type := type) ht hu hi hu2 hu1 g1 (by omega) g3]
      simp
    · rename_i hm0
      split at h
      · rename_i hlim
        cases h
        obtain ⟨nc, n1, n2⟩ := run_append_grows (type := type) ht hu hi hz hb hb0 hu2 hu1 g1 (base := none) (sl := 0) (sc := 0) (by omega) (by omega) (old := []) rfl g3d
        refine ⟨_, _, updN ι H.length w.heap.size, n2, ?_, ?_⟩
        · refine (Step.drew A.rel (w.drawn + 1)).trans ?_
          rw [over_push A.same]
          refine Step.alloc (w := w.drew) A2.rel (A.free _ (Nat.le_refl _) (by simp)) ?_ (unfrozen0 _)
          exact CellsAt.of_append (C := vsd.toArray) (by simpa using g4d)
        · rw [Nat.zero_add]
          refine .sl (show updN ι H.length w.heap.size H.length = some (w.heap.size, 0) by simp [updN]) (Nat.le_refl _) (by omega) (.inr ⟨el, _, shape_alloc w.drew _ el, ?_⟩) (.inr rfl)
          have := g4d.1
          simp [zeroCells_size, hzsz]
          have hm : m * i.size + (nc - m) * i.size = nc * i.size := by rw [← Nat.add_mul]; congr 1; omega
          simp only [Nat.zero_add] at n1
          omega
      · cases h
  · rename_i b o len cap sz' heq
    rw [heq] at h1
    simp only [Option.bind_eq_some_iff] at h
    obtain ⟨c, hcc, h⟩ := h
    split at h
    · rename_i hcond
      obtain ⟨ho0, hsz, hcapc, hlc, hlim, hcells⟩ := hcond
      subst ho0; subst hsz
      cases h
      have hHb : H[b]? = some (.rw c) := by
        unfold rwOf at hcc
        split at hcc
        · rename_i heq; cases hcc; exact heq
        · cases hcc
      have hblt := (List.getElem?_eq_some_iff.1 hHb).1
      have hpb : hp b = some (.rw c) := by rw [A.same b hblt]; exact hHb
      obtain ⟨k2, C, T, fz, i1, i2, i3, i4⟩ := A.rel.rw b c hpb
      have h1' := h1
      generalize a.eval x = vx at *
      cases h1 with
      | sl hi0 hl hc hm ho =>
      rename_i kk base cap' o'
      rw [hi0] at i1; cases i1
      have hlen := i4.1
      have hfree : hp H.length = none := A.free _ (Nat.le_refl _) (by simp)
      have hlenc : len * i.size ≤ c.length := Nat.le_trans (Nat.mul_le_mul_right _ hlc) hcapc
      by_cases hfit : len + m ≤ cap'
      · have hroom : (len + m) * i.size ≤ C.size := by
          rcases hm with hm | ⟨T', M, s1, s2⟩
          · rw [hm] at hfit
            have := Nat.mul_le_mul_right i.size hfit
            omega
          · have hM : M = C.size := by
              unfold World.shape? at s1
              rw [i2] at s1
              simp at s1
              exact s1.2.symm
            have := Nat.mul_le_mul_right i.size hfit
            omega
        have hvl := g4.1
        have hlm : len * i.size + m * i.size = (len + m) * i.size := by rw [← Nat.add_mul]
        have hrun := run_storeCells_sx P k2 (len * i.size) T fz vs 0 C w i2 i3 (by omega) (all_one g4 hcells)
        refine ⟨.slice (some ⟨k2, o', none⟩) (len + m) cap', World.putBlock w k2 (.cells (spliceC C (len * i.size) vs) T fz), updN ι H.length k2, ?_, ?_, ?_⟩
        · rw [run_append_fits (type := type) ht hu hi hu2 hu1 g1 hfit g3]
          simp only [Addr.add_off]
          by_cases hcz : cap' = 0
          · have hm0 : m = 0 := by omega
            have hl0 : len = 0 := by omega
            subst hm0; subst hl0
            have hvs : vs = [] := List.eq_nil_of_length_eq_zero (by omega)
            subst hvs
            have hsp : spliceC C (0 * i.size) [] = C := by simp [spliceC]
            rw [hsp, putBlock_self i2]
            simp [storeCells]
          · have ho' : o' = 0 := by rcases ho with h | h <;> omega
            subst ho'
            rw [Nat.zero_add, hrun, Nat.add_zero]
            rfl
        · rw [over_kill_push A.same hblt]
          exact Step.rename A.rel hpb hfree hi0 i2 (spliceC_size (by omega)) (spliceC_grow i4 g4 hlenc (by omega))
        · refine .sl (show updN ι H.length k2 H.length = some (k2, 0) by simp [updN]) (Nat.le_refl _) (by omega) (.inr ⟨T, C.size, ?_, ?_⟩) ?_
          · unfold World.shape?
            rw [heap_putBlock_same w _ (Array.getElem?_eq_some_iff.1 i2).1]
            simp only
            rw [spliceC_size (by omega)]
          · rcases hm with hm | ⟨T', M, s1, s2⟩
            · subst hm; omega
            · have hM : M = C.size := by
                unfold World.shape? at s1
                rw [i2] at s1
                simp at s1
                exact s1.2.symm
              omega
          · rcases ho with h | h
            · exact .inl h
            · exact .inr h
      · obtain ⟨old, o1, o2⟩ := loadCells_ok (P := P) (w := w.drew) (o := 0) (n := len * i.size) (k := k2) (base := 0) (C := C) (T := T) (fz := fz) (c := c) i2 ⟨i4.1, fun j v hv => let ⟨v', a1, a2⟩ := i4.2 j v hv; ⟨v', a1, a2.mono (.refl _) hdrew⟩⟩ (by omega)
        have hold : (Builtin.firstCells i.size len (.slice (some ⟨k2, o', none⟩) len cap')).run P w.drew = .ok old.toArray w.drew := by
          simp only [Builtin.firstCells]
          rcases ho with h | h
          · have hl0 : len = 0 := by omega
            subst hl0
            simp only [Nat.zero_mul, loadCells, loadCellsFrom] at o1 ⊢
            exact o1
          · rw [h]; exact o1
        obtain ⟨nc, n1, n2⟩ := run_append_grows (type := type) ht hu hi hz hb hb0 hu2 hu1 g1 (by omega) hlim hold g3d
        have hall : LRel ι w.drew (c.take (len * i.size) ++ xs) (old ++ vsd) := by
          have := o2
          rw [List.drop_zero] at this
          exact this.append g4d
        refine ⟨_, _, updN ι H.length w.heap.size, n2, ?_, ?_⟩
        · refine ((Step.drew A.rel (w.drawn + 1)).trans (Step.kill (A.rel.drew (w.drawn + 1)) hpb)).trans ?_
          rw [over_kill_push A.same hblt]
          refine Step.alloc (w := w.drew) (Step.kill (A.rel.drew (w.drawn + 1)) hpb).rel ?_ ?_ (unfrozen0 _)
          · unfold upd
            rw [if_neg (by omega)]; exact hfree
          · exact CellsAt.of_append (C := (old ++ vsd).toArray) (by simpa using hall)
        · refine .sl (show updN ι H.length w.heap.size H.length = some (w.heap.size, 0) by simp [updN]) (Nat.le_refl _) (by omega) (.inr ⟨el, _, shape_alloc w.drew _ el, ?_⟩) (.inr rfl)
          have e1 := hall.1
          simp only [List.length_append, List.length_take] at e1
          rw [Nat.min_eq_left hlenc] at e1
          simp [zeroCells_size, hzsz]
          have hm' : (len + m) * i.size + (nc - (len + m)) * i.size = nc * i.size := by rw [← Nat.add_mul]; congr 1; omega
          have hlm : len * i.size + m * i.size = (len + m) * i.size := by rw [← Nat.add_mul]
          omega
    · cases h
  · cases h
end
end Go.Sx
namespace Go.Sx
open Go
section
variable {P : Program} {ι : Nm} {w : World} {N : Nat} {e : Env} {a : Act} {H H' : Heap} {hp : PH} {Γ : Fns}
theorem freeze_new (w : World) (C : Array Value) (T : TypeId) : (w.alloc (.cells C T)).freeze { block := w.heap.size, off := C.size } 1 = w.alloc (.cells C T (C.size, C.size + 1)) := by
  have key : (w.heap.push (.cells C T)).modify w.heap.size (fun
      | .cells c elem (lo, hi) => .cells c elem (if lo == hi then (C.size, C.size + 1) else (min lo C.size, max hi (C.size + 1)))
      | o => o) = w.heap.push (.cells C T (C.size, C.size + 1)) := by
    apply Array.ext_getElem?
    intro j
    rw [Array.getElem?_modify, Array.getElem?_push, Array.getElem?_push]
    by_cases hj : j = w.heap.size
    · subst hj; simp
    · rw [if_neg (Ne.symm hj), if_neg hj, if_neg hj]
  unfold World.freeze
  rw [if_neg (by omega)]
  exact congrArg (fun h => ({ w with heap := h } : World)) key
theorem does_toBytes {s d el : TypeId} (hs : P.underlying s = some .string) (hd : P.underlying d = some (.slice el)) (he : P.underlying el = some (.int .u8)) {x : Operand} {x' : Opd} (hx : cOpd x = some x') {v : AV} {B : Blk} (h : toBytesA H (x'.ev e) = some (v, H ++ [B]))
    {dst : Option Tmp} {type : TypeId} {pos : String} {after : Array Edge} {guard : Option (Nat × Bool)} (A : AtN ι hp w N e a H.length) : ∃ c0, B = .rw c0 ∧ Makes P ⟨dst, .convert s d x, type, pos, after, guard⟩ a ι hp w H.length c0 v := by
  have h1 := cOpd_rel hx A.env
  unfold toBytesA at h
  split at h
  · rename_i t heq
    rw [heq] at h1
    split at h
    · rename_i hlim
      simp only [Option.some.injEq, Prod.mk.injEq, List.append_cancel_left_eq, List.cons.injEq, and_true] at h
      obtain ⟨rfl, rfl⟩ := h
      obtain ⟨t', ht, htt⟩ := h1.of_str
      have hsz : t.length = t'.size := by rw [← htt]; exact Array.length_toList
      let nc := t'.size + w.tape w.drawn (.appendCap t'.size 0 el) % (2 ^ 63 - t'.size)
      let C : Array Value := (t'.data.map fun b => Value.int .u8 b.toNat) ++ Array.replicate (nc - t'.size) (.int .u8 0)
      refine ⟨_, rfl, .slice (some ⟨w.heap.size, 0, none⟩) t'.size nc, w.drew.alloc (.cells C el (C.size, C.size + 1)), updN ι H.length w.heap.size, ?_, ?_, ?_⟩
      · have hf := freeze_new w.drew C el
        have hs2 : (w.drew.alloc (.cells C el)).shape? w.heap.size = some (el, C.size) := shape_alloc w.drew C el
        have hrun : (Conv.stringToBytes el t').run P w = .ok (.slice (some ⟨w.heap.size, 0, none⟩) t'.size nc) (w.drew.alloc (.cells C el (C.size, C.size + 1))) := by
          unfold Conv.stringToBytes
          simp only [Sem.run_bind, run_choose_drew, Question.forced, Bool.false_eq_true, if_false, Result.andThen_ok, Question.cut, newRow, run_newObj_alloc, Sem.run_pure, markStringish, run_shape]
          show Result.andThen (Sem.run P (match (w.drew.alloc (.cells C el)).shape? w.heap.size with | some (_, n) => freeze { block := w.heap.size, off := n } 1 | _ => pure ()) (w.drew.alloc (.cells C el))) _ = _
          rw [hs2]
          simp only [run_freeze, Result.andThen_ok]
          rw [← hf]
          rfl
        simp only [execOp, ht]
        simp [convert, run_underlying hs, run_underlying hd, run_underlying he, hrun]
      · refine (Step.drew A.rel (w.drawn + 1)).trans ?_
        refine Step.alloc (w := w.drew) (A.rel.drew (w.drawn + 1)) A.free ?_ ?_
        · refine CellsAt.of_append ⟨by simp [byteCells, ← htt], fun j p q hp hq => ?_⟩
          simp only [byteCells, ← htt, List.getElem?_map, Array.toList_map, Option.map_eq_some_iff] at hp hq
          obtain ⟨b, hb, rfl⟩ := hp
          obtain ⟨b', hb', rfl⟩ := hq
          rw [hb] at hb'; cases hb'
          exact .int _ _
        · intro j hj h; omega
      · rw [hsz]
        refine .sl (show updN ι H.length w.heap.size H.length = some (w.heap.size, 0) by simp [updN]) (Nat.le_refl _) (by omega) (.inr ⟨el, C.size, ?_, ?_⟩) (.inr rfl)
        · unfold World.shape?
          rw [show w.heap.size = w.drew.heap.size from rfl, heap_alloc_new]
        · simp [C]; omega
    · cases h
  · cases h
end
end Go.Sx
namespace Go.Sx
open Go
theorem oldL_all (n : Nat) : ∀ l : List AV, AV.old.oldL n l = l.all (AV.old n)
  | [] => rfl
  | v :: l => by simp [AV.old.oldL, oldL_all n l]
theorem oldL_iff {n : Nat} {l : List AV} : AV.old.oldL n l = true ↔ ∀ v ∈ l, v.old n = true := by
  rw [oldL_all, List.all_eq_true]
mutual
theorem AV.old_mono {n m : Nat} (h : n ≤ m) : ∀ v : AV, v.old n = true → v.old m = true
  | .top, _ | .int _ _, _ | .bool _, _ | .str _, _ | .nil, _ | .nsl, _ => rfl
  | .ptr b o, hv => by simp [AV.old] at hv ⊢; omega
  | .sl b o l c s, hv => by simp [AV.old] at hv ⊢; omega
  | .fn f a c, hv => by
    simp only [AV.old, Bool.and_eq_true] at hv ⊢
    exact ⟨oldL_mono h a hv.1, oldL_mono h c hv.2⟩
  | .agg l, hv => by simp only [AV.old] at hv ⊢; exact oldL_mono h l hv
  | .tup l, hv => by simp only [AV.old] at hv ⊢; exact oldL_mono h l hv
theorem oldL_mono {n m : Nat} (h : n ≤ m) : ∀ l : List AV, AV.old.oldL n l = true → AV.old.oldL m l = true
  | [], _ => rfl
  | v :: l, hv => by
    simp only [AV.old.oldL, Bool.and_eq_true] at hv ⊢
    exact ⟨AV.old_mono h v hv.1, oldL_mono h l hv.2⟩
end
theorem oldL_append {n : Nat} {l m : List AV} : AV.old.oldL n (l ++ m) = (AV.old.oldL n l && AV.old.oldL n m) := by
  rw [oldL_all, oldL_all, oldL_all, List.all_append]
theorem oldL_take {n k : Nat} {l : List AV} (h : AV.old.oldL n l = true) : AV.old.oldL n (l.take k) = true :=
  oldL_iff.2 fun v hv => oldL_iff.1 h v (List.mem_of_mem_take hv)
theorem oldL_drop {n k : Nat} {l : List AV} (h : AV.old.oldL n l = true) : AV.old.oldL n (l.drop k) = true :=
  oldL_iff.2 fun v hv => oldL_iff.1 h v (List.mem_of_mem_drop hv)
theorem oldL_get {n i : Nat} {l : List AV} {v : AV} (h : AV.old.oldL n l = true) (hv : l[i]? = some v) : v.old n = true :=
  oldL_iff.1 h v (List.mem_of_getElem? hv)
theorem oldL_getD {n i : Nat} {l : List AV} (h : AV.old.oldL n l = true) : (l.getD i .top).old n = true := by
  rw [List.getD_eq_getElem?_getD]
  cases hv : l[i]? with
  | none => rfl
  | some v => exact oldL_get h hv
def wfH (H : Heap) : Prop := ∀ b c, cellsOf H b = some c → AV.old.oldL H.length c = true
def wfE (n : Nat) (e : Env) : Prop := ∀ t, (e t).old n = true
def SP (n : Nat) (H H' : Heap) : Prop := ∀ b, b < n → ∀ m, b < m → (∀ c, cellsOf H b = some c → AV.old.oldL m c = true) → ∀ c, cellsOf H' b = some c → AV.old.oldL m c = true
theorem SP.refl (n : Nat) (H : Heap) : SP n H H := fun _ _ _ _ h => h
theorem SP.trans {n : Nat} {A B C : Heap} (h : SP n A B) (k : SP n B C) : SP n A C := fun b hb m hm hc => k b hb m hm (h b hb m hm hc)
structure Keeps (n : Nat) (H H' : Heap) : Prop where
  le : H.length ≤ H'.length
  wf : wfH H'
  sp : SP n H H'
theorem Keeps.refl {n : Nat} {H : Heap} (h : wfH H) : Keeps n H H := ⟨Nat.le_refl _, h, .refl _ _⟩
theorem Keeps.trans {n : Nat} {A B C : Heap} (h : Keeps n A B) (k : Keeps n B C) : Keeps n A C := ⟨Nat.le_trans h.le k.le, k.wf, h.sp.trans k.sp⟩
def FnWf (F : Fn) : Prop := ∀ args H v H', wfH H → AV.old.oldL H.length args = true → F args H = some (v, H') → Keeps H.length H H' ∧ v.old H'.length = true
def FnsWf (Γ : Fns) : Prop := ∀ f F, Γ f = some F → FnWf F
def Opd.okc : Opd → Bool
  | .tmp _ => true
  | .cst v => v.old 0
def IOp.opds : IOp → List Opd
  | .mov x | .nilck x | .box x | .load _ x | .un _ x | .conv _ x | .toStr x | .toBytes x | .fldP _ x | .fld _ _ x | .ext _ x | .len x | .lenStr x => [x]
  | .pick c a b => [c, a, b]
  | .alloc _ => []
  | .build _ ps | .buildSl _ _ _ ps => ps.map (·.2.2)
  | .store _ a x | .bin _ a x | .eqb _ a x | .eqs _ a x | .eqp _ a x | .eqg _ _ a x | .idxP _ _ a x | .idxS _ a x | .idx _ _ a x | .idxStr a x | .mkSl _ _ a x | .append _ a x | .copy _ a x => [a, x]
  | .slcP _ _ x lo hi mx | .slcS _ x lo hi mx => x :: (lo.toList ++ hi.toList ++ mx.toList)
  | .slcStr x lo hi => x :: (lo.toList ++ hi.toList)
  | .min x xs | .max x xs | .callV x xs => x :: xs
  | .call _ xs | .callQ _ xs => xs
  | .mkFn _ a b => a ++ b
def IOp.lits : IOp → List AV
  | .alloc z | .build z _ | .buildSl z _ _ _ | .mkSl z _ _ _ => z
  | _ => []
def IOp.okc (o : IOp) : Bool := o.opds.all Opd.okc && AV.old.oldL 0 o.lits
theorem ev_old {n : Nat} {e : Env} (hE : wfE n e) {x : Opd} (hx : x.okc = true) : (x.ev e).old n = true := by
  cases x with
  | tmp t => exact hE t
  | cst v => exact AV.old_mono (Nat.zero_le _) v hx
theorem evs_old {n : Nat} {e : Env} (hE : wfE n e) : ∀ {l : List Opd}, l.all Opd.okc = true → AV.old.oldL n (l.map (Opd.ev e)) = true
  | [], _ => rfl
  | x :: l, h => by
    simp only [List.all_cons, Bool.and_eq_true] at h
    simp only [List.map_cons, AV.old.oldL, Bool.and_eq_true]
    exact ⟨ev_old hE h.1, evs_old hE h.2⟩
theorem vcells_old {n : Nat} {v : AV} {vs : List AV} (h : v.old n = true) (hv : v.vcells = some vs) : AV.old.oldL n vs = true := by
  cases v <;> simp [AV.vcells] at hv
  case agg l => subst hv; simpa [AV.old] using h
  all_goals (subst hv; simpa [AV.old.oldL] using h)
theorem put_old {n o : Nat} {c vs : List AV} (hc : AV.old.oldL n c = true) (hv : AV.old.oldL n vs = true) : AV.old.oldL n (put c o vs) = true := by
  unfold put
  split
  · rename_i v
    refine oldL_iff.2 fun x hx => ?_
    rcases List.mem_or_eq_of_mem_set hx with h | h
    · exact oldL_iff.1 hc x h
    · subst h; simpa [AV.old.oldL] using hv
  · rw [oldL_append, oldL_append, oldL_take hc, oldL_drop hc, hv]; rfl
theorem fillA_old {n : Nat} : ∀ {ps : List (Nat × Nat × AV)} {c c' : List AV}, AV.old.oldL n c = true → (∀ p ∈ ps, p.2.2.old n = true) → fillA c ps = some c' → AV.old.oldL n c' = true
  | [], c, c', hc, _, h => by simp [fillA] at h; subst h; exact hc
  | (off, sz, v) :: ps, c, c', hc, hp, h => by
    simp only [fillA, Option.bind_eq_some_iff] at h
    obtain ⟨vs, hvs, h⟩ := h
    split at h
    · exact fillA_old (put_old hc (vcells_old (hp (off, sz, v) (by simp)) hvs)) (fun p hp' => hp p (by simp [hp'])) h
    · cases h
theorem piece_old {n off : Nat} {k : Option Nat} {c : List AV} {v : AV} (hc : AV.old.oldL n c = true) (h : piece c off k = some v) : v.old n = true := by
  cases k with
  | none => exact oldL_get hc h
  | some k =>
    simp only [piece] at h
    split at h
    · cases h; simp only [AV.old]; exact oldL_take (oldL_drop hc)
    · cases h
theorem ld_old {H : Heap} (hH : wfH H) {k : Option Nat} {x v : AV} (h : ld H k x = some v) : v.old H.length = true := by
  unfold ld at h
  split at h
  · simp only [Option.bind_eq_some_iff] at h
    obtain ⟨c, hc, h⟩ := h
    exact piece_old (hH _ _ hc) h
  · cases h
theorem foldA_old {n : Nat} {f : AV → AV → Option AV} (hf : ∀ x y z, f x y = some z → z.old n = true) : ∀ {l : List AV} {x v : AV}, x.old n = true → foldA f x l = some v → v.old n = true
  | [], x, v, hx, h => by simp [foldA] at h; subst h; exact hx
  | y :: l, x, v, hx, h => by
    simp only [foldA, Option.bind_eq_some_iff] at h
    obtain ⟨z, hz, h⟩ := h
    exact foldA_old hf (hf _ _ _ hz) h
theorem intBin_old {n : Nat} {op : BinOp} {k k' : IntKind} {a b : Int} {v : AV} (h : intBin op k a k' b = some v) : v.old n = true := by
  cases op <;> simp only [intBin] at h <;> (repeat' split at h) <;> first | (cases h; done) | (cases h; rfl)
theorem strBin_old {n : Nat} {op : BinOp} {a b : List UInt8} {v : AV} (h : strBin op a b = some v) : v.old n = true := by
  cases op <;> simp only [strBin] at h <;> (repeat' split at h) <;> first | (cases h; done) | (cases h; rfl)
theorem srcCells_old {H : Heap} (hH : wfH H) {sz : Nat} {x : AV} {p : Nat × List AV} (h : srcCells H sz x = some p) : AV.old.oldL H.length p.2 = true := by
  unfold srcCells at h
  split at h
  · cases h; rfl
  · split at h
    · cases h
      refine oldL_iff.2 fun v hv => ?_
      simp only [byteCells, List.mem_map] at hv
      obtain ⟨b, _, rfl⟩ := hv
      rfl
    · cases h
  · simp only [Option.bind_eq_some_iff] at h
    obtain ⟨c, hc, h⟩ := h
    split at h
    · cases h; exact oldL_take (oldL_drop (hH _ _ hc))
    · cases h
  · cases h
theorem callA_wf {Γ : Fns} (hΓ : FnsWf Γ) {f : Nat} {xs : List AV} {H : Heap} {v : AV} {H' : Heap} (hH : wfH H) (hx : AV.old.oldL H.length xs = true) (h : callA Γ f xs H = some (v, H')) : Keeps H.length H H' ∧ v.old H'.length = true := by
  unfold callA at h
  split at h
  · rename_i F hF
    exact hΓ f F hF xs H v H' hH hx h
  · cases h
set_option maxHeartbeats 1000000 in
theorem stepV_old {Γ : Fns} (hΓ : FnsWf Γ) {o : IOp} (hk : o.okc = true) {e : Env} {H : Heap} (hH : wfH H) (hE : wfE H.length e) {v : AV} (h : stepV Γ o e H = some v) : v.old H.length = true := by
  have hops : ∀ x ∈ o.opds, (x.ev e).old H.length = true := by
    intro x hx
    simp only [IOp.okc, Bool.and_eq_true, List.all_eq_true] at hk
    exact ev_old hE (hk.1 x hx)
  have hlit : AV.old.oldL H.length o.lits = true := by
    simp only [IOp.okc, Bool.and_eq_true] at hk
    exact oldL_mono (Nat.zero_le _) _ hk.2
  cases o <;> simp only [stepV] at h
  case mov x => cases h; exact hops x (by simp [IOp.opds])
  case nilck x =>
    have := hops x (by simp [IOp.opds])
    unfold AV.nilck at h
    split at h
    · rename_i heq; cases h; rw [heq] at this; exact this
    · cases h
  case pick c a b =>
    have h1 := hops a (by simp [IOp.opds])
    have h2 := hops b (by simp [IOp.opds])
    simp only [AV.pick, Option.bind_eq_some_iff] at h
    obtain ⟨t, _, h⟩ := h
    cases h
    cases t
    · exact h2
    · exact h1
  case build z ps =>
    simp only [Option.bind_eq_some_iff] at h
    obtain ⟨c, hc, h⟩ := h
    cases h
    simp only [AV.old]
    refine fillA_old hlit (fun p hp => ?_) hc
    simp only [List.mem_map] at hp
    obtain ⟨q, hq, rfl⟩ := hp
    exact hops _ (by simp only [IOp.opds, List.mem_map]; exact ⟨q, hq, rfl⟩)
  case load k x => exact ld_old hH h
  case bin op x y =>
    unfold AV.bin at h
    split at h
    · exact intBin_old h
    · exact strBin_old h
    · cases h
  case eqb => unfold AV.eqb at h; split at h <;> first | (cases h; done) | (cases h; rfl)
  case eqs => unfold AV.eqs at h; split at h <;> first | (cases h; done) | (cases h; rfl)
  case eqp => unfold AV.eqp at h; split at h <;> first | (cases h; done) | (cases h; rfl)
  case eqg =>
    unfold AV.eqg at h
    split at h
    · simp only [Option.bind_eq_some_iff] at h
      obtain ⟨b, _, h⟩ := h
      cases h; rfl
    · cases h
  case un => unfold AV.un at h; split at h <;> first | (cases h; done) | (cases h; rfl)
  case conv => unfold AV.conv at h; split at h <;> first | (cases h; done) | (cases h; rfl)
  case toStr =>
    simp only [Option.bind_eq_some_iff] at h
    obtain ⟨p, _, s, _, h⟩ := h
    cases h; rfl
  case idxP n s x i =>
    have h1 := hops x (by simp [IOp.opds])
    unfold AV.idxP at h
    split at h
    · rename_i heq _
      rw [heq] at h1
      split at h
      · cases h; exact h1
      · cases h
    · cases h
  case idxS s x i =>
    have h1 := hops x (by simp [IOp.opds])
    unfold AV.idxS at h
    split at h
    · rename_i heq _
      rw [heq] at h1
      split at h
      · cases h; exact h1
      · cases h
    · cases h
  case idx n k x i =>
    have h1 := hops x (by simp [IOp.opds])
    unfold AV.idx at h
    split at h
    · rename_i heq _
      rw [heq] at h1
      simp only [AV.old] at h1
      split at h
      · exact piece_old h1 h
      · cases h
    · cases h
  case idxStr =>
    unfold AV.idxStr at h
    split at h
    · split at h
      · simp only [Option.bind_eq_some_iff] at h
        obtain ⟨b, _, h⟩ := h
        cases h; rfl
      · cases h
    · cases h
  case fldP off x =>
    have h1 := hops x (by simp [IOp.opds])
    unfold AV.fldP at h
    split at h
    · rename_i heq; rw [heq] at h1; cases h; exact h1
    · cases h
  case fld off k x =>
    have h1 := hops x (by simp [IOp.opds])
    unfold AV.fld at h
    split at h
    · rename_i heq; rw [heq] at h1; simp only [AV.old] at h1; exact piece_old h1 h
    · cases h
  case slcP n s x lo hi mx =>
    have h1 := hops x (by simp [IOp.opds])
    unfold AV.slcP at h
    split at h
    · rename_i heq
      rw [heq] at h1
      simp only [Option.bind_eq_some_iff] at h
      obtain ⟨r, _, h⟩ := h
      cases h; exact h1
    · cases h
  case slcS s x lo hi mx =>
    have h1 := hops x (by simp [IOp.opds])
    unfold AV.slcS at h
    split at h
    · rename_i heq
      rw [heq] at h1
      split at h
      · simp only [Option.bind_eq_some_iff] at h
        obtain ⟨r, _, h⟩ := h
        cases h; exact h1
      · cases h
    · simp only [Option.bind_eq_some_iff] at h
      obtain ⟨r, _, h⟩ := h
      cases h; rfl
    · cases h
  case slcStr =>
    unfold AV.slcStr at h
    split at h
    · simp only [Option.bind_eq_some_iff] at h
      obtain ⟨r, _, h⟩ := h
      cases h; rfl
    · cases h
  case ext i x =>
    have h1 := hops x (by simp [IOp.opds])
    unfold AV.ext at h
    split at h
    · rename_i heq; rw [heq] at h1; simp only [AV.old] at h1; exact oldL_get h1 h
    · cases h
  case len => unfold AV.len at h; split at h <;> first | (cases h; done) | (cases h; rfl)
  case lenStr => unfold AV.lenStr at h; split at h <;> first | (cases h; done) | (cases h; rfl)
  case min x xs =>
    refine foldA_old ?_ (hops x (by simp [IOp.opds])) h
    intro a b c hc
    unfold AV.min2 at hc
    split at hc <;> first | (cases hc; done) | (cases hc; rfl)
  case max x xs =>
    refine foldA_old ?_ (hops x (by simp [IOp.opds])) h
    intro a b c hc
    unfold AV.max2 at hc
    split at hc <;> first | (cases hc; done) | (cases hc; rfl)
  case callQ f xs =>
    simp only [quiet, Option.bind_eq_some_iff] at h
    obtain ⟨⟨v', H'⟩, hc, h⟩ := h
    split at h
    · rename_i heq
      cases h
      have := (callA_wf hΓ hH (oldL_iff.2 fun v hv => by
        simp only [List.mem_map] at hv
        obtain ⟨x, hx, rfl⟩ := hv
        exact hops x (by simpa [IOp.opds] using hx)) hc).2
      simp only at heq
      rw [heq] at this; exact this
    · cases h
  case mkFn f a b =>
    cases h
    simp only [AV.old, Bool.and_eq_true]
    refine ⟨oldL_iff.2 fun v hv => ?_, oldL_iff.2 fun v hv => ?_⟩
    · simp only [List.mem_map] at hv
      obtain ⟨x, hx, rfl⟩ := hv
      exact hops x (by simp [IOp.opds, hx])
    · simp only [List.mem_map] at hv
      obtain ⟨x, hx, rfl⟩ := hv
      exact hops x (by simp [IOp.opds, hx])
  all_goals cases h
theorem cellsOf_push {H : Heap} {B : Blk} {b : Nat} (h : b < H.length) : cellsOf (H ++ [B]) b = cellsOf H b := by
  simp only [cellsOf, List.getElem?_append_left h]
theorem cellsOf_new {H : Heap} {c : List AV} : cellsOf (H ++ [.rw c]) H.length = some c := by
  simp [cellsOf, Blk.cells?]
theorem cellsOf_ge {H : Heap} {b : Nat} (h : H.length ≤ b) : cellsOf H b = none := by
  simp [cellsOf, List.getElem?_eq_none h]
theorem cellsOf_lt {H : Heap} {b : Nat} {c : List AV} (h : cellsOf H b = some c) : b < H.length := by
  rcases Nat.lt_or_ge b H.length with h' | h'
  · exact h'
  · rw [cellsOf_ge h'] at h; cases h
theorem keeps_push {H : Heap} {c : List AV} (n : Nat) (hn : n ≤ H.length) (hH : wfH H) (hc : AV.old.oldL H.length c = true) : Keeps n H (H ++ [.rw c]) := by
  refine ⟨by simp, fun b d hb => ?_, fun b hb m hm h d hd => ?_⟩
  · rcases Nat.lt_or_ge b H.length with h | h
    · rw [cellsOf_push h] at hb
      exact oldL_mono (by simp) _ (hH b d hb)
    · have := cellsOf_lt hb
      simp at this
      have : b = H.length := by omega
      subst this
      rw [cellsOf_new] at hb; cases hb
      exact oldL_mono (by simp) _ hc
  · rw [cellsOf_push (by omega)] at hd
    exact h d hd
theorem rwOf_cells {H : Heap} {b : Nat} {c : List AV} (h : rwOf H b = some c) : cellsOf H b = some c := by
  unfold rwOf at h
  split at h
  · rename_i heq; cases h; simp [cellsOf, heq, Blk.cells?]
  · cases h
theorem cellsOf_set_same {H : Heap} {b : Nat} {B : Blk} (h : b < H.length) : cellsOf (H.set b B) b = B.cells? := by
  simp [cellsOf, h]
theorem cellsOf_set_ne {H : Heap} {b x : Nat} {B : Blk} (h : x ≠ b) : cellsOf (H.set b B) x = cellsOf H x := by
  simp [cellsOf, List.getElem?_set_ne (Ne.symm h)]
theorem keeps_set {H : Heap} {b n : Nat} {c d : List AV} (hH : wfH H) (hb : cellsOf H b = some c) (hd : AV.old.oldL H.length d = true) (hs : b < n → ∀ m, b < m → AV.old.oldL m c = true → AV.old.oldL m d = true) : Keeps n H (H.set b (.rw d)) := by
  have hlt := cellsOf_lt hb
  refine ⟨by simp, fun x y hx => ?_, fun x hx m hm h y hy => ?_⟩
  · rw [List.length_set]
    by_cases he : x = b
    · subst he; rw [cellsOf_set_same hlt] at hx; cases hx; exact hd
    · rw [cellsOf_set_ne he] at hx; exact hH x y hx
  · by_cases he : x = b
    · subst he
      rw [cellsOf_set_same hlt] at hy; cases hy
      exact hs hx m hm (h c hb)
    · rw [cellsOf_set_ne he] at hy; exact h y hy
theorem keeps_kill {H : Heap} {b n : Nat} (hH : wfH H) (hb : b < H.length) : Keeps n H (H.set b .dead) := by
  refine ⟨by simp, fun x y hx => ?_, fun x hx m hm h y hy => ?_⟩
  · rw [List.length_set]
    by_cases he : x = b
    · subst he; rw [cellsOf_set_same hb] at hx; cases hx
    · rw [cellsOf_set_ne he] at hx; exact hH x y hx
  · by_cases he : x = b
    · subst he; rw [cellsOf_set_same hb] at hy; cases hy
    · rw [cellsOf_set_ne he] at hy; exact h y hy
theorem splice_old {n o : Nat} {c vs : List AV} (hc : AV.old.oldL n c = true) (hv : AV.old.oldL n vs = true) : AV.old.oldL n (c.take o ++ vs ++ c.drop (o + vs.length)) = true := by
  rw [oldL_append, oldL_append, oldL_take hc, oldL_drop hc, hv]; rfl
theorem zeros_old {n m : Nat} {z : List AV} (h : AV.old.oldL n z = true) : AV.old.oldL n (zeros m z) = true := by
  refine oldL_iff.2 fun v hv => ?_
  have : v ∈ z := by
    unfold zeros at hv
    split at hv
    · rename_i x; rw [List.mem_replicate] at hv; simp [hv.2]
    · rw [List.mem_flatten] at hv
      obtain ⟨l, hl, hv⟩ := hv
      rw [List.mem_replicate] at hl
      rw [← hl.2]; exact hv
  exact oldL_iff.1 h v this
theorem stOK_use {n b m : Nat} {vs : List AV} (h : stOK n b vs = true) (hb : b < n) (hm : b < m) : AV.old.oldL m vs = true := by
  simp only [stOK, Bool.and_eq_true, Bool.or_eq_true, decide_eq_true_eq] at h
  rcases h.2 with h1 | h1
  · omega
  · rw [← oldL_all] at h1
    exact oldL_mono hm _ h1
set_option maxHeartbeats 1000000 in
theorem stepH_wf {Γ : Fns} (hΓ : FnsWf Γ) {n : Nat} {o : IOp} (hk : o.okc = true) {e : Env} {H : Heap} (hn : n ≤ H.length) (hH : wfH H) (hE : wfE H.length e) {v : AV} {H' : Heap} (h : stepH Γ n o e H = some (v, H')) :
    Keeps n H H' ∧ v.old H'.length = true := by
  have hops : ∀ x ∈ o.opds, (x.ev e).old H.length = true := by
    intro x hx
    simp only [IOp.okc, Bool.and_eq_true, List.all_eq_true] at hk
    exact ev_old hE (hk.1 x hx)
  have hlit : AV.old.oldL H.length o.lits = true := by
    simp only [IOp.okc, Bool.and_eq_true] at hk
    exact oldL_mono (Nat.zero_le _) _ hk.2
  cases o <;> simp only [stepH] at h
  case alloc z =>
    cases h
    exact ⟨keeps_push n hn hH hlit, by simp [AV.old]⟩
  case box x =>
    simp only [Option.bind_eq_some_iff] at h
    obtain ⟨vs, hvs, h⟩ := h
    cases h
    exact ⟨keeps_push n hn hH (vcells_old (hops x (by simp [IOp.opds])) hvs), by simp [AV.old]⟩
  case buildSl z len sz ps =>
    simp only [Option.bind_eq_some_iff] at h
    obtain ⟨c, hc, h⟩ := h
    cases h
    refine ⟨keeps_push n hn hH (fillA_old (zeros_old hlit) (fun p hp => ?_) hc), by simp [AV.old]⟩
    simp only [List.mem_map] at hp
    obtain ⟨q, hq, rfl⟩ := hp
    exact hops _ (by simp only [IOp.opds, List.mem_map]; exact ⟨q, hq, rfl⟩)
  case store sz a x =>
    simp only [Option.bind_eq_some_iff] at h
    obtain ⟨H1, hst, h⟩ := h
    cases h
    refine ⟨?_, rfl⟩
    have hx := hops x (by simp [IOp.opds])
    unfold st at hst
    split at hst
    · simp only [Option.bind_eq_some_iff] at hst
      obtain ⟨c, hc, vs, hvs, hst⟩ := hst
      split at hst
      · unfold stW at hst
        split at hst
        · rename_i hcond
          cases hst
          have hvo := vcells_old hx hvs
          have hcc := rwOf_cells hc
          exact keeps_set hH hcc (put_old (hH _ _ hcc) hvo) fun hb m hm hcm => put_old hcm (stOK_use hcond.2 hb hm)
        · cases hst
      · cases hst
    · cases hst
  case toBytes x =>
    unfold toBytesA at h
    split at h
    · split at h
      · cases h
        refine ⟨keeps_push n hn hH (oldL_iff.2 fun v hv => ?_), by simp [AV.old]⟩
        simp only [byteCells, List.mem_map] at hv
        obtain ⟨b, _, rfl⟩ := hv
        rfl
      · cases h
    · cases h
  case mkSl z bytes l c =>
    unfold mkSlA at h
    split at h
    · split at h
      · cases h
        exact ⟨keeps_push n hn hH (zeros_old hlit), by simp [AV.old]⟩
      · cases h
    · cases h
  case append sz s x =>
    unfold appendA at h
    simp only [Option.bind_eq_some_iff] at h
    obtain ⟨p, hp, h⟩ := h
    have hpo := srcCells_old hH hp
    split at h
    · split at h
      · cases h; exact ⟨Keeps.refl hH, rfl⟩
      · split at h
        · cases h
          exact ⟨keeps_push n hn hH hpo, by simp [AV.old]⟩
        · cases h
    · simp only [Option.bind_eq_some_iff] at h
      obtain ⟨c, hc, h⟩ := h
      split at h
      · cases h
        have hcc := rwOf_cells hc
        have k1 := keeps_kill (n := n) hH (cellsOf_lt hcc)
        refine ⟨k1.trans (keeps_push n (by simpa using hn) k1.wf ?_), by simp [AV.old]⟩
        rw [List.length_set, oldL_append, oldL_take (hH _ _ hcc), hpo]; rfl
      · cases h
    · cases h
  case copy sz d s =>
    unfold copyA at h
    simp only [Option.bind_eq_some_iff] at h
    obtain ⟨p, hp, h⟩ := h
    have hpo := srcCells_old hH hp
    split at h
    · cases h; exact ⟨Keeps.refl hH, rfl⟩
    · split at h
      · split at h
        · cases h; exact ⟨Keeps.refl hH, rfl⟩
        · simp only [Option.bind_eq_some_iff] at h
          obtain ⟨c, hc, h⟩ := h
          split at h
          · rename_i hcond
            cases h
            have hcc := rwOf_cells hc
            exact ⟨keeps_set hH hcc (splice_old (hH _ _ hcc) (oldL_take hpo)) fun hb m hm hcm => splice_old hcm (stOK_use hcond.2 hb hm), rfl⟩
          · cases h
      · cases h
    · cases h
  case call f xs =>
    have := callA_wf hΓ hH (oldL_iff.2 fun v hv => by
      simp only [List.mem_map] at hv
      obtain ⟨x, hx, rfl⟩ := hv
      exact hops x (by simpa [IOp.opds] using hx)) h
    exact ⟨⟨this.1.le, this.1.wf, fun b hb => this.1.sp b (by omega)⟩, this.2⟩
  case callV x xs =>
    split at h
    · rename_i f fs cs heq
      have hx := hops x (by simp [IOp.opds])
      rw [heq] at hx
      simp only [AV.old, Bool.and_eq_true] at hx
      have := callA_wf hΓ hH (by
        rw [oldL_append, oldL_append, hx.1, hx.2]
        simp only [Bool.true_and, Bool.and_true]
        exact oldL_iff.2 fun v hv => by
          simp only [List.mem_map] at hv
          obtain ⟨y, hy, rfl⟩ := hv
          exact hops y (by simp [IOp.opds, hy])) h
      exact ⟨⟨this.1.le, this.1.wf, fun b hb => this.1.sp b (by omega)⟩, this.2⟩
    · cases h
  all_goals cases h
theorem gstep_wf {Γ : Fns} (hΓ : FnsWf Γ) {n : Nat} {g : GOp} (hk : g.op.okc = true) {e : Env} {H : Heap} (hn : n ≤ H.length) (hH : wfH H) (hE : wfE H.length e) {v : AV} {H' : Heap} (h : gstep Γ n g e H = some (v, H')) :
    Keeps n H H' ∧ v.old H'.length = true := by
  have hstep : ∀ {v H'}, astep Γ n g.op e H = some (v, H') → Keeps n H H' ∧ v.old H'.length = true := by
    intro v H' h
    unfold astep at h
    cases hl : g.op.heapless with
    | true =>
      rw [hl] at h
      simp only [cond_true, Option.bind_eq_some_iff] at h
      obtain ⟨v', hv, h⟩ := h
      cases h
      exact ⟨Keeps.refl hH, stepV_old hΓ hk hH hE hv⟩
    | false =>
      rw [hl] at h
      exact stepH_wf hΓ hk hn hH hE h
  unfold gstep at h
  split at h
  · exact hstep h
  · rename_i t want heq
    simp only [Option.bind_eq_some_iff] at h
    obtain ⟨b, _, h⟩ := h
    have : (gsel want b (astep Γ n g.op e H) (some (.tup [], H)) = astep Γ n g.op e H) ∨ (gsel want b (astep Γ n g.op e H) (some (.tup [], H)) = some (.tup [], H)) := by
      unfold gsel
      rcases b with _ | b
      · simp
      · cases want <;> cases b <;> simp
    rcases this with h1 | h1
    · rw [h1] at h; exact hstep h
    · rw [h1] at h; cases h; exact ⟨Keeps.refl hH, rfl⟩
theorem wfE_put {n m : Nat} {e : Env} (hE : wfE n e) (h : n ≤ m) {d : Option Nat} {v : AV} (hv : v.old m = true) : wfE m (e.put d v) := by
  intro t
  cases d with
  | none => exact AV.old_mono h _ (hE t)
  | some d =>
    simp only [Env.put]
    cases Nat.beq d t
    · exact AV.old_mono h _ (hE t)
    · exact hv
theorem runOps_wf {Γ : Fns} (hΓ : FnsWf Γ) {n : Nat} : ∀ {l : List GOp} {e : Env} {H : Heap}, (∀ g ∈ l, g.op.okc = true) → n ≤ H.length → wfH H → wfE H.length e → ∀ {e' : Env} {H' : Heap}, runOps Γ n l e H = some (e', H') → Keeps n H H' ∧ wfE H'.length e'
  | [], e, H, _, hn, hH, hE, e', H', h => by simp [runOps] at h; obtain ⟨rfl, rfl⟩ := h; exact ⟨Keeps.refl hH, hE⟩
  | g :: l, e, H, hk, hn, hH, hE, e', H', h => by
    simp only [runOps, Option.bind_eq_some_iff] at h
    obtain ⟨⟨v, H1⟩, h1, _, _, h⟩ := h
    obtain ⟨k1, k2⟩ := gstep_wf hΓ (hk g (by simp)) hn hH hE h1
    obtain ⟨k3, k4⟩ := runOps_wf hΓ (fun g hg => hk g (by simp [hg])) (Nat.le_trans hn k1.le) k1.wf (wfE_put hE k1.le k2) h
    exact ⟨k1.trans k3, k4⟩
end Go.Sx
namespace Go.Sx
open Go
def hpOf (H : Heap) : PH := fun b => H[b]?
def cut (ι : Nm) (n : Nat) : Nm := fun b => if b < n then ι b else none
def merge (ι1 : Nm) (n : Nat) (ι : Nm) : Nm := fun b => if b < n then ι1 b else ι b
def Implements (P : Program) (f : FuncId) (F : Fn) : Prop :=
  ∀ (ι : Nm) (H : Heap) (w : World) (args : List AV) (vals : Array Value) (v : AV) (H' : Heap), Rel ι (hpOf H) w → LRel ι w args vals.toList → F args H = some (v, H') →
    Calls P f vals w fun e w' => ∃ ι' v', Step ι (hpOf H) w ι' (hpOf H') w' ∧ VRel ι' w' v v' ∧ e = .returned v'
structure FnsOk (P : Program) (Γ : Fns) : Prop where
  impl : ∀ f F, Γ f = some F → Implements P f F
  call : ∀ f F, Γ f = some F → callable P f = true
  wf : FnsWf Γ
theorem VRel.restrict {ι : Nm} {w : World} {n : Nat} {v : AV} {v' : Value} (h : VRel ι w v v') : v.old n = true → VRel (cut ι n) w v v' := by
  induction h with
  | top v => intro _; exact .top v
  | int k n => intro _; exact .int k n
  | bool b => intro _; exact .bool b
  | str s => intro _; exact .str s
  | ptr h => intro ho; simp only [AV.old, decide_eq_true_eq] at ho; exact .ptr (by unfold cut; rw [if_pos ho]; exact h)
  | nil => intro _; exact .nil
  | sl h hl hc hm ho => intro hold; simp only [AV.old, decide_eq_true_eq] at hold; exact .sl (by unfold cut; rw [if_pos hold]; exact h) hl hc hm ho
  | nsl => intro _; exact .nsl
  | fn hf hc _ _ i1 i2 =>
    intro ho
    simp only [AV.old, Bool.and_eq_true] at ho
    exact .fn hf hc (fun i x y hx hy => i1 i x y hx hy (oldL_get ho.1 hx)) (fun i x y hx hy => i2 i x y hx hy (oldL_get ho.2 hx))
  | agg hs _ ih =>
    intro ho
    simp only [AV.old] at ho
    exact .agg hs fun i x y hx hy => ih i x y hx hy (oldL_get ho hx)
  | tup hs _ ih =>
    intro ho
    simp only [AV.old] at ho
    exact .tup hs fun i x y hx hy => ih i x y hx hy (oldL_get ho hx)
theorem LRel.restrict {ι : Nm} {w : World} {n : Nat} {l : List AV} {a : List Value} (h : LRel ι w l a) (ho : AV.old.oldL n l = true) : LRel (cut ι n) w l a :=
  ⟨h.1, fun i x y hx hy => (h.2 i x y hx hy).restrict (oldL_get ho hx)⟩
theorem cut_ext (ι : Nm) (n : Nat) : Ext (cut ι n) ι := by
  intro b p h
  unfold cut at h
  split at h
  · exact h
  · cases h
theorem Rel.restrict {ι : Nm} {hp : PH} {w : World} {H : Heap} (h : Rel ι hp w) (hs : ∀ b, b < H.length → hp b = H[b]?) (hw : wfH H) : Rel (cut ι H.length) (hpOf H) w := by
  have hcell : ∀ {b : Nat} {B : Blk} {c : List AV} {C : Array Value} {base : Nat}, H[b]? = some B → B.cells? = some c → CellsAt ι w c C base → CellsAt (cut ι H.length) w c C base := by
    intro b B c C base hb hB hc
    have ho := hw b c (by simp [cellsOf, hb, hB])
    exact ⟨hc.1, fun i v hv => let ⟨v', a1, a2⟩ := hc.2 i v hv; ⟨v', a1, a2.restrict (oldL_get ho hv)⟩⟩
  have hlt : ∀ {b : Nat} {B : Blk}, H[b]? = some B → b < H.length := fun hb => (List.getElem?_eq_some_iff.1 hb).1
  refine ⟨fun b => ?_, fun b c hb => ?_, fun b c hb => ?_, fun b b' c B k base base' hb hb' hd hne h1 h2 => ?_⟩
  · unfold cut hpOf
    split
    · rename_i hb; rw [h.dom, hs b hb]
    · rename_i hb; rw [List.getElem?_eq_none (by omega)]; rfl
  · have hl := hlt hb
    obtain ⟨k, C, T, fz, e1, e2, e3, e4⟩ := h.rw b c (by rw [hs b hl]; exact hb)
    exact ⟨k, C, T, fz, by unfold cut; rw [if_pos hl]; exact e1, e2, e3, hcell hb rfl e4⟩
  · have hl := hlt hb
    obtain ⟨k, base, C, T, fz, e1, e2, e4⟩ := h.ro b c (by rw [hs b hl]; exact hb)
    exact ⟨k, base, C, T, fz, by unfold cut; rw [if_pos hl]; exact e1, e2, hcell hb rfl e4⟩
  · have l1 := hlt hb
    have l2 := hlt hb'
    exact h.excl b b' c B k base base' (by rw [hs b l1]; exact hb) (by rw [hs b' l2]; exact hb') hd hne (cut_ext _ _ _ _ h1) (cut_ext _ _ _ _ h2)
theorem Step.lift {ι ι1 : Nm} {hp : PH} {w w' : World} {H H' : Heap} (h : Rel ι hp w) (hs : ∀ b, b < H.length → hp b = H[b]?) (hf : ∀ b, H.length ≤ b → b < H'.length → hp b = none) (hle : H.length ≤ H'.length)
    (k : Step (cut ι H.length) (hpOf H) w ι1 (hpOf H') w') : Step ι hp w (merge ι1 H'.length ι) (over hp H') w' ∧ Ext ι1 (merge ι1 H'.length ι) := by
  have hdom1 : ∀ b, (ι1 b).isSome = (H'[b]?).isSome := k.rel.dom
  have hext1 : Ext ι1 (merge ι1 H'.length ι) := by
    intro b p hb
    have : b < H'.length := by
      have h1 := hdom1 b
      rw [hb] at h1
      rcases Nat.lt_or_ge b H'.length with h2 | h2
      · exact h2
      · rw [List.getElem?_eq_none h2] at h1; simp at h1
    unfold merge
    rw [if_pos this]; exact hb
  have hext : Ext ι (merge ι1 H'.length ι) := by
    intro b p hb
    unfold merge
    split
    · rename_i hlt
      rcases Nat.lt_or_ge b H.length with h1 | h1
      · exact k.ext b p (by unfold cut; rw [if_pos h1]; exact hb)
      · have := h.none_of (hf b h1 hlt)
        rw [this] at hb; cases hb
    · exact hb
  have hcell : ∀ {c : List AV} {C : Array Value} {base : Nat}, CellsAt ι w c C base → CellsAt (merge ι1 H'.length ι) w' c C base :=
    fun ⟨h1, h2⟩ => ⟨h1, fun i v hv => let ⟨v', a1, a2⟩ := h2 i v hv; ⟨v', a1, a2.mono hext k.shapes⟩⟩
  have hcell1 : ∀ {c : List AV} {C : Array Value} {base : Nat}, CellsAt ι1 w' c C base → CellsAt (merge ι1 H'.length ι) w' c C base :=
    fun ⟨h1, h2⟩ => ⟨h1, fun i v hv => let ⟨v', a1, a2⟩ := h2 i v hv; ⟨v', a1, a2.mono hext1 (.refl _)⟩⟩
  have hwait : ∀ b B k' base, H'.length ≤ b → hp b = some B → B ≠ .dead → ι b = some (k', base) → ∀ b' c', H[b']? = some (.rw c') → cut ι H.length b' ≠ some (k', 0) := by
    intro b B k' base hb hB hd hi b' c' hb' hi'
    have hl := (List.getElem?_eq_some_iff.1 hb').1
    exact h.excl b' b c' B k' 0 base (by rw [hs b' hl]; exact hb') hB hd (by omega) (cut_ext _ _ _ _ hi') hi
  have hsame : ∀ b B k' base, H'.length ≤ b → hp b = some B → B ≠ .dead → ι b = some (k', base) → w'.heap[k']? = w.heap[k']? :=
    fun b B k' base hb hB hd hi => k.frame k' (h.lt hB hd hi) (hwait b B k' base hb hB hd hi)
  have hm1 : ∀ {b}, b < H'.length → merge ι1 H'.length ι b = ι1 b := fun hb => by unfold merge; rw [if_pos hb]
  have hm2 : ∀ {b}, ¬ b < H'.length → merge ι1 H'.length ι b = ι b := fun hb => by unfold merge; rw [if_neg hb]
  have ho1 : ∀ {b}, b < H'.length → over hp H' b = H'[b]? := fun hb => by unfold over; rw [if_pos hb]
  have ho2 : ∀ {b}, ¬ b < H'.length → over hp H' b = hp b := fun hb => by unfold over; rw [if_neg hb]
  refine ⟨⟨hext, ⟨fun b => ?_, fun b c hb => ?_, fun b c hb => ?_, fun b b' c B k' base base' hb hb' hd hne h1 h2 => ?_⟩, k.size, fun j hj hno => k.frame j hj fun b c hb hi => ?_, fun b c k' hb hi hk => ?_, fun b c hb => ?_, k.shapes, k.tape, k.os, k.output⟩, hext1⟩
  · by_cases hlt : b < H'.length
    · rw [hm1 hlt, ho1 hlt]; exact hdom1 b
    · rw [hm2 hlt, ho2 hlt]; exact h.dom b
  · by_cases hlt : b < H'.length
    · rw [ho1 hlt] at hb
      obtain ⟨k', C, T, fz, e1, e2, e3, e4⟩ := k.rel.rw b c hb
      exact ⟨k', C, T, fz, by rw [hm1 hlt]; exact e1, e2, e3, hcell1 e4⟩
    · rw [ho2 hlt] at hb
      obtain ⟨k', C, T, fz, e1, e2, e3, e4⟩ := h.rw b c hb
      exact ⟨k', C, T, fz, by rw [hm2 hlt]; exact e1, by rw [hsame b _ k' 0 (by omega) hb (by simp) e1]; exact e2, e3, hcell e4⟩
  · by_cases hlt : b < H'.length
    · rw [ho1 hlt] at hb
      obtain ⟨k', base, C, T, fz, e1, e2, e4⟩ := k.rel.ro b c hb
      exact ⟨k', base, C, T, fz, by rw [hm1 hlt]; exact e1, e2, hcell1 e4⟩
    · rw [ho2 hlt] at hb
      obtain ⟨k', base, C, T, fz, e1, e2, e4⟩ := h.ro b c hb
      exact ⟨k', base, C, T, fz, by rw [hm2 hlt]; exact e1, by rw [hsame b _ k' base (by omega) hb (by simp) e1]; exact e2, hcell e4⟩
  · by_cases l1 : b < H'.length <;> by_cases l2 : b' < H'.length
    · rw [ho1 l1] at hb; rw [ho1 l2] at hb'; rw [hm1 l1] at h1; rw [hm1 l2] at h2
      exact k.rel.excl b b' c B k' base base' hb hb' hd hne h1 h2
    · rw [ho1 l1] at hb; rw [ho2 l2] at hb'; rw [hm1 l1] at h1; rw [hm2 l2] at h2
      have hk := h.lt hb' hd h2
      obtain ⟨k2, C, T, fz, e1, _⟩ := k.rel.rw b c hb
      rw [h1] at e1; cases e1
      obtain ⟨b0, c0, e3, e4⟩ := k.own b c k' hb h1 hk
      exact hwait b' B k' base' (by omega) hb' hd h2 b0 c0 e3 e4
    · rw [ho2 l1] at hb; rw [ho1 l2] at hb'; rw [hm2 l1] at h1; rw [hm1 l2] at h2
      have hk := h.lt hb (by simp) h1
      cases B with
      | dead => exact hd rfl
      | rw c2 =>
        obtain ⟨k2, C, T, fz, e1, _⟩ := k.rel.rw b' c2 hb'
        rw [h2] at e1; cases e1
        obtain ⟨b0, c0, e3, e4⟩ := k.own b' c2 k' hb' h2 hk
        exact hwait b (.rw c) k' base (by omega) hb (by simp) h1 b0 c0 e3 e4
      | ro c2 =>
        have hro := k.roOld b' c2 hb'
        have hl := (List.getElem?_eq_some_iff.1 hro).1
        obtain ⟨p, hp2⟩ := h.some_of (show hp b' = some (.ro c2) by rw [hs b' hl]; exact hro)
        have := k.ext b' p (by unfold cut; rw [if_pos hl]; exact hp2)
        rw [h2] at this; cases this
        exact h.excl b b' c (.ro c2) k' base base' hb (by rw [hs b' hl]; exact hro) (by simp) (by omega) h1 hp2
    · rw [ho2 l1] at hb; rw [ho2 l2] at hb'; rw [hm2 l1] at h1; rw [hm2 l2] at h2
      exact h.excl b b' c B k' base base' hb hb' hd hne h1 h2
  · have hl := (List.getElem?_eq_some_iff.1 hb).1
    exact hno b c (by rw [hs b hl]; exact hb) (cut_ext _ _ _ _ hi)
  · by_cases hlt : b < H'.length
    · rw [ho1 hlt] at hb; rw [hm1 hlt] at hi
      obtain ⟨b0, c0, e3, e4⟩ := k.own b c k' hb hi hk
      have hl := (List.getElem?_eq_some_iff.1 e3).1
      exact ⟨b0, c0, by rw [hs b0 hl]; exact e3, cut_ext _ _ _ _ e4⟩
    · rw [ho2 hlt] at hb; rw [hm2 hlt] at hi
      exact ⟨b, c, hb, hi⟩
  · by_cases hlt : b < H'.length
    · rw [ho1 hlt] at hb
      have hro := k.roOld b c hb
      have hl := (List.getElem?_eq_some_iff.1 hro).1
      rw [hs b hl]; exact hro
    · rw [ho2 hlt] at hb; exact hb
end Go.Sx
