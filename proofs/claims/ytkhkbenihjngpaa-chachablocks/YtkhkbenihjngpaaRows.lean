/-
  No cell of these rows narrows 'for every input' (looked for: loops, veiled, ifaces, maps, wideKeys, modest, calm, conditions, laid).
  DERIVED. THE GIVEN ROWS OF THIS SEAT. 10 by the template 'for every input the law returns true; each argument reads behind the call as it read before'; 0 by the template 'total and deterministic' (their statements: YtkhkbenihjngpaaTotals.lean).
  GIVEN WITH THE SEED: the statements are not yours to turn. If you find one false, say at which input.
  Laid BY PROGRAM, IN A SANDBOX (cutbox-rows.mjs): the forced cells as the released guide's own fill.sh prints them over the translation 6c228cfbc6272a3c… (all of the seat's roots in one cut). By AI agents, Wed Nov 11 2026. No macro, syntax, notation, axiom, sorry.
-/
import Derived.Test.YtkhkbenihjngpaaChecked
import GoSem.Claim
import GoSem.ClaimJoined
import GoSem.ClaimMapViews
import Derived.JoinedTies
import Derived.KernelRfl
namespace Go.Proofs.Ytkhkbenihjngpaa
/- THE CELL 'sum', in the pinned program and in every row, IS THE sha256 OF THE DUMP (.gsa) THAT YtkhkbenihjngpaaProg.lean LOADS. Nothing in Lean hashes anything: it is a label: what it is worth is what the hold of that sum in a sandbox is worth. -/
noncomputable def Try.pinned : Pinned := { name := "ytkhkbenihjngpaa", sum := "6c228cfbc6272a3cdfbdde64048c127159e926a855cdcd965e34229806b7a339", checked := Try.checked }
namespace Rows
def none {H : Type} : Left H := { results := [], args := [] }

/-- 'aditlaw15.WindowLives': WHATEVER THE INPUT: true; the input reads as it did. -/
def windowLivesSpec : ChangeSpec := { name := "windowLives", fn := fun _ => fun
  | [d1, d2] => { results := [.lit (.bool true)], args := [d1, d2] }
  | _ => none }
def windowLivesRow : OpenClaim := { program := "ytkhkbenihjngpaa", sum := "6c228cfbc6272a3cdfbdde64048c127159e926a855cdcd965e34229806b7a339", func := "adit/aditlaw15.WindowLives", spec := "windowLives", apart := false }
def WindowLivesSaid : Prop := windowLivesRow.holds Try.pinned (OpenSpec.ofChange windowLivesSpec)

/-- ITS FALSE NEIGHBOUR: 'it returns false'. Refute it at one input. -/
def windowLivesWrong : ChangeSpec := { name := "windowLives", fn := fun _ => fun
  | [d1, d2] => { results := [.lit (.bool false)], args := [d1, d2] }
  | _ => none }
def WindowLivesWrongFalsely : Prop := windowLivesRow.holds Try.pinned (OpenSpec.ofChange windowLivesWrong)

/-- 'aditlaw15.WindowOnce': WHATEVER THE INPUT: true; the input reads as it did. -/
def windowOnceSpec : ChangeSpec := { name := "windowOnce", fn := fun _ => fun
  | [d] => { results := [.lit (.bool true)], args := [d] }
  | _ => none }
def windowOnceRow : OpenClaim := { program := "ytkhkbenihjngpaa", sum := "6c228cfbc6272a3cdfbdde64048c127159e926a855cdcd965e34229806b7a339", func := "adit/aditlaw15.WindowOnce", spec := "windowOnce", apart := false }
def WindowOnceSaid : Prop := windowOnceRow.holds Try.pinned (OpenSpec.ofChange windowOnceSpec)

/-- ITS FALSE NEIGHBOUR: 'it returns false'. Refute it at one input. -/
def windowOnceWrong : ChangeSpec := { name := "windowOnce", fn := fun _ => fun
  | [d] => { results := [.lit (.bool false)], args := [d] }
  | _ => none }
def WindowOnceWrongFalsely : Prop := windowOnceRow.holds Try.pinned (OpenSpec.ofChange windowOnceWrong)

/-- 'aditlaw15.WindowTakes': WHATEVER THE INPUT: true; the input reads as it did. -/
def windowTakesSpec : ChangeSpec := { name := "windowTakes", fn := fun _ => fun
  | [d1, d2] => { results := [.lit (.bool true)], args := [d1, d2] }
  | _ => none }
def windowTakesRow : OpenClaim := { program := "ytkhkbenihjngpaa", sum := "6c228cfbc6272a3cdfbdde64048c127159e926a855cdcd965e34229806b7a339", func := "adit/aditlaw15.WindowTakes", spec := "windowTakes", apart := false }
def WindowTakesSaid : Prop := windowTakesRow.holds Try.pinned (OpenSpec.ofChange windowTakesSpec)

/-- ITS FALSE NEIGHBOUR: 'it returns false'. Refute it at one input. -/
def windowTakesWrong : ChangeSpec := { name := "windowTakes", fn := fun _ => fun
  | [d1, d2] => { results := [.lit (.bool false)], args := [d1, d2] }
  | _ => none }
def WindowTakesWrongFalsely : Prop := windowTakesRow.holds Try.pinned (OpenSpec.ofChange windowTakesWrong)

/-- 'aditlaw15.WindowRefuses': WHATEVER THE INPUT: true; the input reads as it did. -/
def windowRefusesSpec : ChangeSpec := { name := "windowRefuses", fn := fun _ => fun
  | [d] => { results := [.lit (.bool true)], args := [d] }
  | _ => none }
def windowRefusesRow : OpenClaim := { program := "ytkhkbenihjngpaa", sum := "6c228cfbc6272a3cdfbdde64048c127159e926a855cdcd965e34229806b7a339", func := "adit/aditlaw15.WindowRefuses", spec := "windowRefuses", apart := false }
def WindowRefusesSaid : Prop := windowRefusesRow.holds Try.pinned (OpenSpec.ofChange windowRefusesSpec)

/-- ITS FALSE NEIGHBOUR: 'it returns false'. Refute it at one input. -/
def windowRefusesWrong : ChangeSpec := { name := "windowRefuses", fn := fun _ => fun
  | [d] => { results := [.lit (.bool false)], args := [d] }
  | _ => none }
def WindowRefusesWrongFalsely : Prop := windowRefusesRow.holds Try.pinned (OpenSpec.ofChange windowRefusesWrong)

/-- 'aditlaw15.WindowOrder': WHATEVER THE INPUT: true; the input reads as it did. -/
def windowOrderSpec : ChangeSpec := { name := "windowOrder", fn := fun _ => fun
  | [d1, d2, d3] => { results := [.lit (.bool true)], args := [d1, d2, d3] }
  | _ => none }
def windowOrderRow : OpenClaim := { program := "ytkhkbenihjngpaa", sum := "6c228cfbc6272a3cdfbdde64048c127159e926a855cdcd965e34229806b7a339", func := "adit/aditlaw15.WindowOrder", spec := "windowOrder", apart := false }
def WindowOrderSaid : Prop := windowOrderRow.holds Try.pinned (OpenSpec.ofChange windowOrderSpec)

/-- ITS FALSE NEIGHBOUR: 'it returns false'. Refute it at one input. -/
def windowOrderWrong : ChangeSpec := { name := "windowOrder", fn := fun _ => fun
  | [d1, d2, d3] => { results := [.lit (.bool false)], args := [d1, d2, d3] }
  | _ => none }
def WindowOrderWrongFalsely : Prop := windowOrderRow.holds Try.pinned (OpenSpec.ofChange windowOrderWrong)

/-- 'aditlaw02.ChachaXors': WHATEVER THE INPUT: true; the input reads as it did. -/
def chachaXorsSpec : ChangeSpec := { name := "chachaXors", fn := fun _ => fun
  | [d1, d2, d3, d4] => { results := [.lit (.bool true)], args := [d1, d2, d3, d4] }
  | _ => none }
def chachaXorsRow : OpenClaim := { program := "ytkhkbenihjngpaa", sum := "6c228cfbc6272a3cdfbdde64048c127159e926a855cdcd965e34229806b7a339", func := "adit/aditlaw02.ChachaXors", spec := "chachaXors", apart := false }
def ChachaXorsSaid : Prop := chachaXorsRow.holds Try.pinned (OpenSpec.ofChange chachaXorsSpec)

/-- ITS FALSE NEIGHBOUR: 'it returns false'. Refute it at one input. -/
def chachaXorsWrong : ChangeSpec := { name := "chachaXors", fn := fun _ => fun
  | [d1, d2, d3, d4] => { results := [.lit (.bool false)], args := [d1, d2, d3, d4] }
  | _ => none }
def ChachaXorsWrongFalsely : Prop := chachaXorsRow.holds Try.pinned (OpenSpec.ofChange chachaXorsWrong)

/-- 'aditlaw02.ChachaTwice': WHATEVER THE INPUT: true; the input reads as it did. -/
def chachaTwiceSpec : ChangeSpec := { name := "chachaTwice", fn := fun _ => fun
  | [d1, d2, d3, d4] => { results := [.lit (.bool true)], args := [d1, d2, d3, d4] }
  | _ => none }
def chachaTwiceRow : OpenClaim := { program := "ytkhkbenihjngpaa", sum := "6c228cfbc6272a3cdfbdde64048c127159e926a855cdcd965e34229806b7a339", func := "adit/aditlaw02.ChachaTwice", spec := "chachaTwice", apart := false }
def ChachaTwiceSaid : Prop := chachaTwiceRow.holds Try.pinned (OpenSpec.ofChange chachaTwiceSpec)

/-- ITS FALSE NEIGHBOUR: 'it returns false'. Refute it at one input. -/
def chachaTwiceWrong : ChangeSpec := { name := "chachaTwice", fn := fun _ => fun
  | [d1, d2, d3, d4] => { results := [.lit (.bool false)], args := [d1, d2, d3, d4] }
  | _ => none }
def ChachaTwiceWrongFalsely : Prop := chachaTwiceRow.holds Try.pinned (OpenSpec.ofChange chachaTwiceWrong)

/-- 'aditlaw02.ChachaPieces': WHATEVER THE INPUT: true; the input reads as it did. -/
def chachaPiecesSpec : ChangeSpec := { name := "chachaPieces", fn := fun _ => fun
  | [d1, d2, d3, d4, d5] => { results := [.lit (.bool true)], args := [d1, d2, d3, d4, d5] }
  | _ => none }
def chachaPiecesRow : OpenClaim := { program := "ytkhkbenihjngpaa", sum := "6c228cfbc6272a3cdfbdde64048c127159e926a855cdcd965e34229806b7a339", func := "adit/aditlaw02.ChachaPieces", spec := "chachaPieces", apart := false }
def ChachaPiecesSaid : Prop := chachaPiecesRow.holds Try.pinned (OpenSpec.ofChange chachaPiecesSpec)

/-- ITS FALSE NEIGHBOUR: 'it returns false'. Refute it at one input. -/
def chachaPiecesWrong : ChangeSpec := { name := "chachaPieces", fn := fun _ => fun
  | [d1, d2, d3, d4, d5] => { results := [.lit (.bool false)], args := [d1, d2, d3, d4, d5] }
  | _ => none }
def ChachaPiecesWrongFalsely : Prop := chachaPiecesRow.holds Try.pinned (OpenSpec.ofChange chachaPiecesWrong)

/-- 'aditlaw02.ChachaPlaces': WHATEVER THE INPUT: true; the input reads as it did. -/
def chachaPlacesSpec : ChangeSpec := { name := "chachaPlaces", fn := fun _ => fun
  | [d1, d2, d3, d4, d5] => { results := [.lit (.bool true)], args := [d1, d2, d3, d4, d5] }
  | _ => none }
def chachaPlacesRow : OpenClaim := { program := "ytkhkbenihjngpaa", sum := "6c228cfbc6272a3cdfbdde64048c127159e926a855cdcd965e34229806b7a339", func := "adit/aditlaw02.ChachaPlaces", spec := "chachaPlaces", apart := false }
def ChachaPlacesSaid : Prop := chachaPlacesRow.holds Try.pinned (OpenSpec.ofChange chachaPlacesSpec)

/-- ITS FALSE NEIGHBOUR: 'it returns false'. Refute it at one input. -/
def chachaPlacesWrong : ChangeSpec := { name := "chachaPlaces", fn := fun _ => fun
  | [d1, d2, d3, d4, d5] => { results := [.lit (.bool false)], args := [d1, d2, d3, d4, d5] }
  | _ => none }
def ChachaPlacesWrongFalsely : Prop := chachaPlacesRow.holds Try.pinned (OpenSpec.ofChange chachaPlacesWrong)

/-- 'aditlaw02.ChachaBlocks': WHATEVER THE INPUT: true; the input reads as it did. -/
def chachaBlocksSpec : ChangeSpec := { name := "chachaBlocks", fn := fun _ => fun
  | [d1, d2, d3, d4] => { results := [.lit (.bool true)], args := [d1, d2, d3, d4] }
  | _ => none }
def chachaBlocksRow : OpenClaim := { program := "ytkhkbenihjngpaa", sum := "6c228cfbc6272a3cdfbdde64048c127159e926a855cdcd965e34229806b7a339", func := "adit/aditlaw02.ChachaBlocks", spec := "chachaBlocks", apart := false }
def ChachaBlocksSaid : Prop := chachaBlocksRow.holds Try.pinned (OpenSpec.ofChange chachaBlocksSpec)

/-- ITS FALSE NEIGHBOUR: 'it returns false'. Refute it at one input. -/
def chachaBlocksWrong : ChangeSpec := { name := "chachaBlocks", fn := fun _ => fun
  | [d1, d2, d3, d4] => { results := [.lit (.bool false)], args := [d1, d2, d3, d4] }
  | _ => none }
def ChachaBlocksWrongFalsely : Prop := chachaBlocksRow.holds Try.pinned (OpenSpec.ofChange chachaBlocksWrong)

/- THE SECOND FORM. 'bulk': how many values and letters a reading holds, each counted each time it is reached (what is shared counts as often as it is met; a slice's spare places count too). A statement '..UptoSaid' is the law's where the arguments, and the package variables that the reading takes, are together of bulk at most 1048576: NARROWER than '..Said'. Prove '..Said' where nothing that the law and all that it calls make is longer than what came in: it says more and counts as full. Else prove '..UptoSaid'. A law counts once. -/
mutual
def uptoBulk {H : Type} : DataW H → Nat
  | .lit (.string bytes) => bytes.length + 1
  | .lit _ => 1
  | .nil => 1
  | .ptr d => uptoBulk d + 1
  | .slice elems spare => uptoBulkAll elems + uptoBulkAll spare + 1
  | .agg parts => uptoBulkAll parts + 1
  | .iface _ d => uptoBulk d + 1
  | .map entries => uptoBulkEntries entries + 1
  | .held _ => 1
def uptoBulkAll {H : Type} : List (DataW H) → Nat
  | [] => 0
  | d :: r => uptoBulk d + uptoBulkAll r
def uptoBulkEntries {H : Type} : List (Lit × DataW H) → Nat
  | [] => 0
  | x :: r => uptoBulkEntry x + uptoBulkEntries r
def uptoBulkEntry {H : Type} : Lit × DataW H → Nat
  | (.string bytes, d) => bytes.length + uptoBulk d + 1
  | (_, d) => uptoBulk d + 1
 end
def uptoSmall : (H : Type) → List (DataW H) → Bool := fun _ ds => decide (uptoBulkAll ds ≤ 1048576)
def OpenSpec.upto (s : _root_.Go.ChangeSpec) : _root_.Go.OpenSpec := { _root_.Go.OpenSpec.ofChange s with cond := some uptoSmall }

/-- 'aditlaw15.WindowLives', WHERE WHAT IT READS IS OF BULK AT MOST 1048576: true; the input reads as it did. -/
def windowLivesUptoRow : OpenClaim := { program := "ytkhkbenihjngpaa", sum := "6c228cfbc6272a3cdfbdde64048c127159e926a855cdcd965e34229806b7a339", func := "adit/aditlaw15.WindowLives", spec := "windowLives", apart := false, narrowed := true }
def WindowLivesUptoSaid : Prop := windowLivesUptoRow.holds Try.pinned (OpenSpec.upto windowLivesSpec)

/-- 'aditlaw15.WindowOnce', WHERE WHAT IT READS IS OF BULK AT MOST 1048576: true; the input reads as it did. -/
def windowOnceUptoRow : OpenClaim := { program := "ytkhkbenihjngpaa", sum := "6c228cfbc6272a3cdfbdde64048c127159e926a855cdcd965e34229806b7a339", func := "adit/aditlaw15.WindowOnce", spec := "windowOnce", apart := false, narrowed := true }
def WindowOnceUptoSaid : Prop := windowOnceUptoRow.holds Try.pinned (OpenSpec.upto windowOnceSpec)

/-- 'aditlaw15.WindowTakes', WHERE WHAT IT READS IS OF BULK AT MOST 1048576: true; the input reads as it did. -/
def windowTakesUptoRow : OpenClaim := { program := "ytkhkbenihjngpaa", sum := "6c228cfbc6272a3cdfbdde64048c127159e926a855cdcd965e34229806b7a339", func := "adit/aditlaw15.WindowTakes", spec := "windowTakes", apart := false, narrowed := true }
def WindowTakesUptoSaid : Prop := windowTakesUptoRow.holds Try.pinned (OpenSpec.upto windowTakesSpec)

/-- 'aditlaw15.WindowRefuses', WHERE WHAT IT READS IS OF BULK AT MOST 1048576: true; the input reads as it did. -/
def windowRefusesUptoRow : OpenClaim := { program := "ytkhkbenihjngpaa", sum := "6c228cfbc6272a3cdfbdde64048c127159e926a855cdcd965e34229806b7a339", func := "adit/aditlaw15.WindowRefuses", spec := "windowRefuses", apart := false, narrowed := true }
def WindowRefusesUptoSaid : Prop := windowRefusesUptoRow.holds Try.pinned (OpenSpec.upto windowRefusesSpec)

/-- 'aditlaw15.WindowOrder', WHERE WHAT IT READS IS OF BULK AT MOST 1048576: true; the input reads as it did. -/
def windowOrderUptoRow : OpenClaim := { program := "ytkhkbenihjngpaa", sum := "6c228cfbc6272a3cdfbdde64048c127159e926a855cdcd965e34229806b7a339", func := "adit/aditlaw15.WindowOrder", spec := "windowOrder", apart := false, narrowed := true }
def WindowOrderUptoSaid : Prop := windowOrderUptoRow.holds Try.pinned (OpenSpec.upto windowOrderSpec)

/-- 'aditlaw02.ChachaXors', WHERE WHAT IT READS IS OF BULK AT MOST 1048576: true; the input reads as it did. -/
def chachaXorsUptoRow : OpenClaim := { program := "ytkhkbenihjngpaa", sum := "6c228cfbc6272a3cdfbdde64048c127159e926a855cdcd965e34229806b7a339", func := "adit/aditlaw02.ChachaXors", spec := "chachaXors", apart := false, narrowed := true }
def ChachaXorsUptoSaid : Prop := chachaXorsUptoRow.holds Try.pinned (OpenSpec.upto chachaXorsSpec)

/-- 'aditlaw02.ChachaTwice', WHERE WHAT IT READS IS OF BULK AT MOST 1048576: true; the input reads as it did. -/
def chachaTwiceUptoRow : OpenClaim := { program := "ytkhkbenihjngpaa", sum := "6c228cfbc6272a3cdfbdde64048c127159e926a855cdcd965e34229806b7a339", func := "adit/aditlaw02.ChachaTwice", spec := "chachaTwice", apart := false, narrowed := true }
def ChachaTwiceUptoSaid : Prop := chachaTwiceUptoRow.holds Try.pinned (OpenSpec.upto chachaTwiceSpec)

/-- 'aditlaw02.ChachaPieces', WHERE WHAT IT READS IS OF BULK AT MOST 1048576: true; the input reads as it did. -/
def chachaPiecesUptoRow : OpenClaim := { program := "ytkhkbenihjngpaa", sum := "6c228cfbc6272a3cdfbdde64048c127159e926a855cdcd965e34229806b7a339", func := "adit/aditlaw02.ChachaPieces", spec := "chachaPieces", apart := false, narrowed := true }
def ChachaPiecesUptoSaid : Prop := chachaPiecesUptoRow.holds Try.pinned (OpenSpec.upto chachaPiecesSpec)

/-- 'aditlaw02.ChachaPlaces', WHERE WHAT IT READS IS OF BULK AT MOST 1048576: true; the input reads as it did. -/
def chachaPlacesUptoRow : OpenClaim := { program := "ytkhkbenihjngpaa", sum := "6c228cfbc6272a3cdfbdde64048c127159e926a855cdcd965e34229806b7a339", func := "adit/aditlaw02.ChachaPlaces", spec := "chachaPlaces", apart := false, narrowed := true }
def ChachaPlacesUptoSaid : Prop := chachaPlacesUptoRow.holds Try.pinned (OpenSpec.upto chachaPlacesSpec)

/-- 'aditlaw02.ChachaBlocks', WHERE WHAT IT READS IS OF BULK AT MOST 1048576: true; the input reads as it did. -/
def chachaBlocksUptoRow : OpenClaim := { program := "ytkhkbenihjngpaa", sum := "6c228cfbc6272a3cdfbdde64048c127159e926a855cdcd965e34229806b7a339", func := "adit/aditlaw02.ChachaBlocks", spec := "chachaBlocks", apart := false, narrowed := true }
def ChachaBlocksUptoSaid : Prop := chachaBlocksUptoRow.holds Try.pinned (OpenSpec.upto chachaBlocksSpec)

end Rows
end Go.Proofs.Ytkhkbenihjngpaa
