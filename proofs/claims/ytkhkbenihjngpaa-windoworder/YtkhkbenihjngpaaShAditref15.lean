import Derived.Test.YtkhkbenihjngpaaBaseC
set_option linter.all false
namespace Go.Sx
open Go
set_option linter.unusedVariables false
set_option maxRecDepth 100000
noncomputable def aditref15_has_l1 (args : List AV) (H0 : Heap) (vs1 : List AV) (H2 : Heap) : Option Res :=
(AV.len (args.getD 0 .top)).bd fun x3 =>
(AV.bin .lss (vs1.getD 1 .top) x3).bd fun x4 =>
((x4).asB.bd fun b5 => bif b5 then (some (.norm, [], H2))
else (some (.exit 0, [], H2))).bd (andThen (fun vs6 => [(vs1.getD 0 .top), (vs1.getD 1 .top)]) fun vs6 H7 =>
(((AV.idxS 1 (args.getD 0 .top) (vs1.getD 1 .top)).bd fun x8 =>
(ld H7 none x8).bd fun x9 =>
(AV.bin .eql x9 (args.getD 1 .top)).bd fun x10 =>
(x10).asB.bd fun b11 => bif b11 then (some (.ret, [(AV.bool true)], H7))
else (some (.norm, [(vs1.getD 0 .top)], H7))).bd (inBlock 1)).bd (andThen (fun vs12 => [(vs12.getD 0 .top), (vs1.getD 1 .top)]) fun vs12 H13 =>
(AV.bin .add (vs1.getD 1 .top) (i64 1)).bd fun x14 =>
some (.norm, [(vs12.getD 0 .top), x14], H13)))
noncomputable def aditref15_has : Fn := fun args H0 =>
((((loopD (fun vs H' => (aditref15_has_l1 args H0 vs H').bd (roundEnd (H0).length)) [(AV.bool false), (i64 0)] H0).bd fun r15 => some (r15.1, [(r15.2.1.getD 0 .top)], r15.2.2)).bd (inBlock 0)).bd (andThen (fun vs16 => [(vs16.getD 0 .top)]) fun vs16 H17 =>
some (.ret, [(AV.bool false)], H17))).bd (fnEnd H0.length [.tmp 0])
noncomputable def aditref15_Greatest_l1 (args : List AV) (H0 : Heap) (vs1 : List AV) (H2 : Heap) : Option Res :=
(AV.len (args.getD 0 .top)).bd fun x3 =>
(AV.bin .lss (vs1.getD 1 .top) x3).bd fun x4 =>
((x4).asB.bd fun b5 => bif b5 then (some (.norm, [], H2))
else (some (.exit 0, [], H2))).bd (andThen (fun vs6 => [(vs1.getD 0 .top), (vs1.getD 1 .top)]) fun vs6 H7 =>
(((AV.idxS 1 (args.getD 0 .top) (vs1.getD 1 .top)).bd fun x8 =>
(ld H7 none x8).bd fun x9 =>
(AV.bin .add x9 (u64 1)).bd fun x10 =>
(AV.bin .gtr x10 (vs1.getD 0 .top)).bd fun x11 =>
(x11).asB.bd fun b12 => bif b12 then ((AV.idxS 1 (args.getD 0 .top) (vs1.getD 1 .top)).bd fun x13 =>
(ld H7 none x13).bd fun x14 =>
(AV.bin .add x14 (u64 1)).bd fun x15 =>
some (.norm, [x15], H7))
else (some (.norm, [(vs1.getD 0 .top)], H7))).bd (inBlock 1)).bd (andThen (fun vs16 => [(vs16.getD 0 .top), (vs1.getD 1 .top)]) fun vs16 H17 =>
(AV.bin .add (vs1.getD 1 .top) (i64 1)).bd fun x18 =>
some (.norm, [(vs16.getD 0 .top), x18], H17)))
noncomputable def aditref15_Greatest : Fn := fun args H0 =>
((((loopD (fun vs H' => (aditref15_Greatest_l1 args H0 vs H').bd (roundEnd (H0).length)) [(u64 0), (i64 0)] H0).bd fun r19 => some (r19.1, [(r19.2.1.getD 0 .top)], r19.2.2)).bd (inBlock 0)).bd (andThen (fun vs20 => [(u64 0)]) fun vs20 H21 =>
some (.ret, [(vs20.getD 0 .top)], H21))).bd (fnEnd H0.length [.tmp 0])
noncomputable def aditref15_late : Fn := fun args H0 =>
((aditref15_Greatest [(args.getD 0 .top)] H0).bd fun p1 =>
(AV.bin .gtr p1.1 (u64 0)).bd fun x2 =>
(x2).asG.bd fun g3 =>
(x2).asG.bd fun g4 =>
(x2).asG.bd fun g5 =>
(gsel true g5 (AV.bin .lss (gsel true g3 (args.getD 1 .top) (AV.tup [])) (gsel true g4 p1.1 (AV.tup []))) (some (AV.tup []))).bd fun x6 =>
(AV.pick x2 x6 (AV.bool false)).bd fun x7 =>
(x7).asG.bd fun g8 =>
(x7).asG.bd fun g9 =>
(gsel true g9 (AV.bin .sub (gsel true g8 p1.1 (AV.tup [])) (u64 1)) (some (AV.tup []))).bd fun x10 =>
(x7).asG.bd fun g11 =>
(x7).asG.bd fun g12 =>
(gsel true g12 (AV.bin .sub x10 (gsel true g11 (args.getD 1 .top) (AV.tup []))) (some (AV.tup []))).bd fun x13 =>
(x7).asG.bd fun g14 =>
(gsel true g14 (AV.bin .geq x13 (u64 128)) (some (AV.tup []))).bd fun x15 =>
(AV.pick x7 x15 (AV.bool false)).bd fun x16 =>
some (.ret, [x16], p1.2)).bd (fnEnd H0.length [.tmp 0])
noncomputable def aditref15_Check : Fn := fun args H0 =>
((AV.bin .gtr (args.getD 1 .top) (u64 18446744073709543422)).bd fun x1 =>
((x1).asB.bd fun b2 => bif b2 then (some (.ret, [(i64 81)], H0))
else (some (.norm, [(i64 0)], H0))).bd (andThen (fun vs3 => [(vs3.getD 0 .top)]) fun vs3 H4 =>
(aditref15_has [(args.getD 0 .top), (args.getD 1 .top)] H4).bd fun p5 =>
(p5.1).asG.bd fun g6 =>
(p5.1).asG.bd fun g7 =>
(p5.1).asG.bd fun g8 =>
(gsel false g8 (aditref15_late [(gsel false g6 (args.getD 0 .top) (AV.tup [])), (gsel false g7 (args.getD 1 .top) (AV.tup []))] p5.2) (some ((AV.tup []), p5.2))).bd fun p9 =>
(AV.pick p5.1 (AV.bool true) p9.1).bd fun x10 =>
((x10).asB.bd fun b11 => bif b11 then (some (.ret, [(i64 80)], p9.2))
else (some (.norm, [(vs3.getD 0 .top)], p9.2))).bd (andThen (fun vs12 => [(vs12.getD 0 .top)]) fun vs12 H13 =>
some (.ret, [(i64 0)], H13)))).bd (fnEnd H0.length [.tmp 0])
noncomputable def aditref15_Has : Fn := fun args H0 =>
((aditref15_has [(args.getD 0 .top), (args.getD 1 .top)] H0).bd fun p1 =>
(p1.1).asG.bd fun g2 =>
(p1.1).asG.bd fun g3 =>
(p1.1).asG.bd fun g4 =>
(gsel true g4 (aditref15_late [(gsel true g2 (args.getD 0 .top) (AV.tup [])), (gsel true g3 (args.getD 1 .top) (AV.tup []))] p1.2) (some ((AV.tup []), p1.2))).bd fun p5 =>
(p1.1).asG.bd fun g6 =>
(gsel true g6 (AV.un .not p5.1) (some (AV.tup []))).bd fun x7 =>
(AV.pick p1.1 x7 (AV.bool false)).bd fun x8 =>
some (.ret, [x8], p5.2)).bd (fnEnd H0.length [.tmp 0])
end Go.Sx
