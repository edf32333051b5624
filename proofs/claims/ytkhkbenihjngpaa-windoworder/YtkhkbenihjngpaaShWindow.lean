import Derived.Test.YtkhkbenihjngpaaBaseC
set_option linter.all false
namespace Go.Sx
open Go
set_option linter.unusedVariables false
set_option maxRecDepth 100000
noncomputable def window_Window_Has : Fn := fun args H0 =>
(((AV.vcells (args.getD 0 .top)).bd fun vs => some (AV.ptr H0.length 0, H0 ++ [Blk.rw vs])).bd fun p1 =>
(AV.fldP 0 p1.1).bd fun x2 =>
(ld p1.2 none x2).bd fun x3 =>
(AV.bin .geq (args.getD 1 .top) x3).bd fun x4 =>
(x4).asG.bd fun g5 =>
(gsel false g5 (AV.fldP 0 p1.1) (some (AV.tup []))).bd fun x6 =>
(x4).asG.bd fun g7 =>
(gsel false g7 (ld p1.2 none x6) (some (AV.tup []))).bd fun x8 =>
(x4).asG.bd fun g9 =>
(gsel false g9 (AV.bin .sub x8 (u64 1)) (some (AV.tup []))).bd fun x10 =>
(x4).asG.bd fun g11 =>
(x4).asG.bd fun g12 =>
(gsel false g12 (AV.bin .sub x10 (gsel false g11 (args.getD 1 .top) (AV.tup []))) (some (AV.tup []))).bd fun x13 =>
(x4).asG.bd fun g14 =>
(gsel false g14 (AV.bin .geq x13 (u64 128)) (some (AV.tup []))).bd fun x15 =>
(AV.pick x4 (AV.bool true) x15).bd fun x16 =>
((x16).asB.bd fun b17 => bif b17 then (some (.ret, [(AV.bool false)], p1.2))
else (some (.norm, [(AV.bool false)], p1.2))).bd (andThen (fun vs18 => [(vs18.getD 0 .top)]) fun vs18 H19 =>
(AV.fldP 0 p1.1).bd fun x20 =>
(ld H19 none x20).bd fun x21 =>
(AV.bin .sub x21 (u64 1)).bd fun x22 =>
(AV.bin .sub x22 (args.getD 1 .top)).bd fun x23 =>
(AV.bin .quo x23 (u64 64)).bd fun x24 =>
(AV.fldP 1 p1.1).bd fun x25 =>
(AV.idxP 2 1 x25 x24).bd fun x26 =>
(ld H19 none x26).bd fun x27 =>
(AV.bin .rem x23 (u64 64)).bd fun x28 =>
(AV.bin .shr x27 x28).bd fun x29 =>
(AV.bin .and x29 (u64 1)).bd fun x30 =>
(AV.bin .eql x30 (u64 1)).bd fun x31 =>
some (.ret, [x31], H19))).bd (fnEnd H0.length [.tmp 0])
noncomputable def window_Window_Check : Fn := fun args H0 =>
(((AV.vcells (args.getD 0 .top)).bd fun vs => some (AV.ptr H0.length 0, H0 ++ [Blk.rw vs])).bd fun p1 =>
(((AV.bin .geq (args.getD 1 .top) (u64 18446744073709543423)).bd fun x2 =>
(x2).asB.bd fun b3 => bif b3 then (some (.ret, [(i64 81)], p1.2))
else ((ld p1.2 (some 3) p1.1).bd fun x4 =>
(window_Window_Has [x4, (args.getD 1 .top)] p1.2).bd fun p5 =>
(p5.1).asG.bd fun g6 =>
(p5.1).asG.bd fun g7 =>
(gsel false g7 (AV.fldP 0 p1.1) (some (AV.tup []))).bd fun x8 =>
(p5.1).asG.bd fun g9 =>
(gsel false g9 (ld p5.2 none x8) (some (AV.tup []))).bd fun x10 =>
(p5.1).asG.bd fun g11 =>
(gsel false g11 (AV.bin .lss (gsel false g6 (args.getD 1 .top) (AV.tup [])) x10) (some (AV.tup []))).bd fun x12 =>
(p5.1).asG.bd fun g13 =>
((gsel false g13 x12 (AV.tup []))).asG.bd fun g14 =>
(gsel true g14 (AV.fldP 0 p1.1) (some (AV.tup []))).bd fun x15 =>
((gsel false g13 x12 (AV.tup []))).asG.bd fun g16 =>
(gsel true g16 (ld p5.2 none x15) (some (AV.tup []))).bd fun x17 =>
((gsel false g13 x12 (AV.tup []))).asG.bd fun g18 =>
(gsel true g18 (AV.bin .sub x17 (u64 1)) (some (AV.tup []))).bd fun x19 =>
((gsel false g13 x12 (AV.tup []))).asG.bd fun g20 =>
((gsel false g13 x12 (AV.tup []))).asG.bd fun g21 =>
(gsel true g21 (AV.bin .sub x19 (gsel true g20 (args.getD 1 .top) (AV.tup []))) (some (AV.tup []))).bd fun x22 =>
((gsel false g13 x12 (AV.tup []))).asG.bd fun g23 =>
(gsel true g23 (AV.bin .geq x22 (u64 128)) (some (AV.tup []))).bd fun x24 =>
(p5.1).asG.bd fun g25 =>
(gsel false g25 (AV.pick (gsel false g13 x12 (AV.tup [])) x24 (AV.bool false)) (some (AV.tup []))).bd fun x26 =>
(AV.pick p5.1 (AV.bool true) x26).bd fun x27 =>
(x27).asB.bd fun b28 => bif b28 then (some (.ret, [(i64 80)], p5.2))
else (some (.norm, [(i64 0)], p5.2)))).bd (inBlock 0)).bd (andThen (fun vs29 => [(vs29.getD 0 .top)]) fun vs29 H30 =>
some (.ret, [(i64 0)], H30))).bd (fnEnd H0.length [.tmp 0])
noncomputable def window_Window_move_l1 (x3 : AV) (p1 : AV × Heap) (x4 : AV) (H7 : Heap) (vs5 : List AV) (H6 : Heap) : Option Res :=
(AV.bin .lss (vs5.getD 0 .top) (i64 2)).bd fun x8 =>
((x8).asB.bd fun b9 => bif b9 then (some (.norm, [], H6))
else (some (.exit 0, [], H6))).bd (andThen (fun vs10 => [(vs5.getD 0 .top)]) fun vs10 H11 =>
(((AV.bin .sub (vs5.getD 0 .top) x3).bd fun x12 =>
(AV.bin .geq x12 (i64 0)).bd fun x13 =>
((x13).asB.bd fun b14 => bif b14 then ((AV.fldP 1 p1.1).bd fun x15 =>
(AV.idxP 2 1 x15 x12).bd fun x16 =>
(ld H11 none x16).bd fun x17 =>
(AV.bin .shl x17 x4).bd fun x18 =>
(AV.idxP 2 1 (AV.ptr (p1.2 ++ [Blk.rw [u64 0, u64 0, u64 0]]).length 0) (vs5.getD 0 .top)).bd fun x19 =>
(st H7.length H11 1 x19 x18).bd fun H20 =>
some (.norm, [], H20))
else (some (.norm, [], H11))).bd (andThen (fun vs21 => []) fun vs21 H22 =>
(AV.bin .gtr x12 (i64 0)).bd fun x23 =>
(x23).asG.bd fun g24 =>
(x23).asG.bd fun g25 =>
(gsel true g25 (AV.bin .gtr (gsel true g24 x4 (AV.tup [])) (u64 0)) (some (AV.tup []))).bd fun x26 =>
(AV.pick x23 x26 (AV.bool false)).bd fun x27 =>
(x27).asB.bd fun b28 => bif b28 then ((AV.idxP 2 1 (AV.ptr (p1.2 ++ [Blk.rw [u64 0, u64 0, u64 0]]).length 0) (vs5.getD 0 .top)).bd fun x29 =>
(ld H22 none x29).bd fun x30 =>
(AV.bin .sub x12 (i64 1)).bd fun x31 =>
(AV.fldP 1 p1.1).bd fun x32 =>
(AV.idxP 2 1 x32 x31).bd fun x33 =>
(ld H22 none x33).bd fun x34 =>
(AV.bin .sub (u64 64) x4).bd fun x35 =>
(AV.bin .shr x34 x35).bd fun x36 =>
(AV.bin .or x30 x36).bd fun x37 =>
(AV.idxP 2 1 (AV.ptr (p1.2 ++ [Blk.rw [u64 0, u64 0, u64 0]]).length 0) (vs5.getD 0 .top)).bd fun x38 =>
(st H7.length H22 1 x38 x37).bd fun H39 =>
some (.norm, [], H39))
else (some (.norm, [], H22)))).bd (inBlock 1)).bd (andThen (fun vs40 => [(vs5.getD 0 .top)]) fun vs40 H41 =>
(AV.bin .add (vs5.getD 0 .top) (i64 1)).bd fun x42 =>
some (.norm, [x42], H41)))
noncomputable def window_Window_move : Fn := fun args H0 =>
(((AV.vcells (args.getD 0 .top)).bd fun vs => some (AV.ptr H0.length 0, H0 ++ [Blk.rw vs])).bd fun p1 =>
(AV.bin .quo (args.getD 1 .top) (u64 64)).bd fun x2 =>
(AV.conv .i64 x2).bd fun x3 =>
(AV.bin .rem (args.getD 1 .top) (u64 64)).bd fun x4 =>
(((loopD (fun vs H' => (window_Window_move_l1 x3 p1 x4 ((p1.2 ++ [Blk.rw [u64 0, u64 0, u64 0]]) ++ [Blk.rw [u64 0, u64 0]]) vs H').bd (roundEnd (((p1.2 ++ [Blk.rw [u64 0, u64 0, u64 0]]) ++ [Blk.rw [u64 0, u64 0]])).length)) [(i64 0)] ((p1.2 ++ [Blk.rw [u64 0, u64 0, u64 0]]) ++ [Blk.rw [u64 0, u64 0]])).bd fun r43 => some (r43.1, [], r43.2.2)).bd (inBlock 0)).bd (andThen (fun vs44 => [(AV.ptr p1.2.length 0)]) fun vs44 H45 =>
(ld H45 (some 2) (AV.ptr (p1.2 ++ [Blk.rw [u64 0, u64 0, u64 0]]).length 0)).bd fun x46 =>
(AV.fldP 1 p1.1).bd fun x47 =>
(st H0.length H45 2 x47 x46).bd fun H48 =>
(ld H48 (some 3) p1.1).bd fun x49 =>
(st H0.length H48 3 (AV.ptr p1.2.length 0) x49).bd fun H50 =>
some (.ret, [(AV.ptr p1.2.length 0)], H50))).bd (fnEnd H0.length [.cell 0 (some 3)])
noncomputable def window_Window_Take : Fn := fun args H0 =>
(((AV.vcells (args.getD 0 .top)).bd fun vs => some (AV.ptr H0.length 0, H0 ++ [Blk.rw vs])).bd fun p1 =>
(ld (p1.2 ++ [Blk.rw [u64 0, u64 0, u64 0]]) (some 3) p1.1).bd fun x2 =>
(window_Window_Check [x2, (args.getD 1 .top)] (p1.2 ++ [Blk.rw [u64 0, u64 0, u64 0]])).bd fun p3 =>
(AV.bin .neq p3.1 (i64 0)).bd fun x4 =>
((x4).asB.bd fun b5 => bif b5 then ((ld p3.2 (some 3) p1.1).bd fun x6 =>
(st H0.length p3.2 3 (AV.ptr p1.2.length 0) x6).bd fun H7 =>
some (.ret, [p3.1], H7))
else (some (.norm, [(i64 0)], p3.2))).bd (andThen (fun vs8 => [(AV.ptr p1.2.length 0), (vs8.getD 0 .top)]) fun vs8 H9 =>
(AV.fldP 0 p1.1).bd fun x10 =>
(ld H9 none x10).bd fun x11 =>
(AV.bin .geq (args.getD 1 .top) x11).bd fun x12 =>
((x12).asB.bd fun b13 => bif b13 then ((AV.bin .add (args.getD 1 .top) (u64 1)).bd fun x14 =>
(AV.fldP 0 p1.1).bd fun x15 =>
(ld H9 none x15).bd fun x16 =>
(AV.bin .sub x14 x16).bd fun x17 =>
(AV.bin .lss x17 (u64 128)).bd fun x18 =>
((x18).asB.bd fun b19 => bif b19 then ((ld H9 (some 3) p1.1).bd fun x20 =>
(window_Window_move [x20, x17] H9).bd fun p21 =>
(st H0.length p21.2 3 p1.1 p21.1).bd fun H22 =>
some (.norm, [], H22))
else (((fillA [u64 0, u64 0] []).bd fun c => some (AV.agg c)).bd fun x23 =>
(AV.fldP 1 p1.1).bd fun x24 =>
(st H0.length H9 2 x24 x23).bd fun H25 =>
some (.norm, [], H25))).bd (andThen (fun vs26 => []) fun vs26 H27 =>
(AV.bin .add (args.getD 1 .top) (u64 1)).bd fun x28 =>
(AV.fldP 0 p1.1).bd fun x29 =>
(st H0.length H27 1 x29 x28).bd fun H30 =>
some (.norm, [], H30)))
else (some (.norm, [], H9))).bd (andThen (fun vs31 => [(AV.ptr p1.2.length 0), (vs8.getD 0 .top)]) fun vs31 H32 =>
(AV.fldP 0 p1.1).bd fun x33 =>
(ld H32 none x33).bd fun x34 =>
(AV.bin .sub x34 (u64 1)).bd fun x35 =>
(AV.bin .sub x35 (args.getD 1 .top)).bd fun x36 =>
(AV.bin .quo x36 (u64 64)).bd fun x37 =>
(AV.fldP 1 p1.1).bd fun x38 =>
(AV.idxP 2 1 x38 x37).bd fun x39 =>
(ld H32 none x39).bd fun x40 =>
(AV.bin .rem x36 (u64 64)).bd fun x41 =>
(AV.bin .shl (u64 1) x41).bd fun x42 =>
(AV.bin .or x40 x42).bd fun x43 =>
(AV.fldP 1 p1.1).bd fun x44 =>
(AV.idxP 2 1 x44 x37).bd fun x45 =>
(st H0.length H32 1 x45 x43).bd fun H46 =>
(ld H46 (some 3) p1.1).bd fun x47 =>
(st H0.length H46 3 (AV.ptr p1.2.length 0) x47).bd fun H48 =>
some (.ret, [(AV.ptr p1.2.length 0), (i64 0)], H48)))).bd (fnEnd H0.length [.cell 0 (some 3), .tmp 1])
noncomputable def window_Window_Next : Fn := fun args H0 =>
(((AV.vcells (args.getD 0 .top)).bd fun vs => some (AV.ptr H0.length 0, H0 ++ [Blk.rw vs])).bd fun p1 =>
(AV.fldP 0 p1.1).bd fun x2 =>
(ld p1.2 none x2).bd fun x3 =>
some (.ret, [x3], p1.2)).bd (fnEnd H0.length [.tmp 0])
end Go.Sx
