import Derived.Test.YtkhkbenihjngpaaShAditref15
import Derived.Test.YtkhkbenihjngpaaShWindow
set_option linter.all false
namespace Go.Sx
open Go
set_option linter.unusedVariables false
set_option maxRecDepth 100000
noncomputable def aditlaw15_alive : Fn := fun args H0 =>
(((fillA [u64 0, u64 0, u64 0] []).bd fun c => some (AV.agg c)).bd fun x1 =>
(window_Window_Take [x1, (u64 5)] H0).bd fun p2 =>
(AV.ext 0 p2.1).bd fun x3 =>
(AV.ext 1 p2.1).bd fun x4 =>
(st H0.length (p2.2 ++ [Blk.rw [u64 0, u64 0, u64 0]]) 3 (AV.ptr p2.2.length 0) x3).bd fun H5 =>
(ld H5 (some 3) (AV.ptr p2.2.length 0)).bd fun x6 =>
(window_Window_Take [x6, (u64 5)] H5).bd fun p7 =>
(AV.ext 0 p7.1).bd fun x8 =>
(AV.ext 1 p7.1).bd fun x9 =>
(st H0.length (p7.2 ++ [Blk.rw [u64 0, u64 0, u64 0]]) 3 (AV.ptr p7.2.length 0) x8).bd fun H10 =>
(ld H10 (some 3) (AV.ptr p2.2.length 0)).bd fun x11 =>
(window_Window_Take [x11, (u64 200)] H10).bd fun p12 =>
(AV.ext 0 p12.1).bd fun x13 =>
(AV.ext 1 p12.1).bd fun x14 =>
(st H0.length (p12.2 ++ [Blk.rw [u64 0, u64 0, u64 0]]) 3 (AV.ptr p12.2.length 0) x13).bd fun H15 =>
(AV.bin .eql x4 (i64 0)).bd fun x16 =>
(x16).asG.bd fun g17 =>
(x16).asG.bd fun g18 =>
(gsel true g18 (AV.bin .eql (gsel true g17 x9 (AV.tup [])) (i64 80)) (some (AV.tup []))).bd fun x19 =>
(AV.pick x16 x19 (AV.bool false)).bd fun x20 =>
(x20).asG.bd fun g21 =>
(x20).asG.bd fun g22 =>
(gsel true g22 (AV.bin .eql (gsel true g21 x14 (AV.tup [])) (i64 0)) (some (AV.tup []))).bd fun x23 =>
(AV.pick x20 x23 (AV.bool false)).bd fun x24 =>
(x24).asG.bd fun g25 =>
(gsel true g25 (ld H15 (some 3) (AV.ptr p12.2.length 0)) (some (AV.tup []))).bd fun x26 =>
(x24).asG.bd fun g27 =>
(gsel true g27 (window_Window_Check [x26, (u64 72)] H15) (some ((AV.tup []), H15))).bd fun p28 =>
(x24).asG.bd fun g29 =>
(gsel true g29 (AV.bin .eql p28.1 (i64 80)) (some (AV.tup []))).bd fun x30 =>
(AV.pick x24 x30 (AV.bool false)).bd fun x31 =>
(x31).asG.bd fun g32 =>
(gsel true g32 (ld p28.2 (some 3) (AV.ptr p12.2.length 0)) (some (AV.tup []))).bd fun x33 =>
(x31).asG.bd fun g34 =>
(gsel true g34 (window_Window_Check [x33, (u64 73)] p28.2) (some ((AV.tup []), p28.2))).bd fun p35 =>
(x31).asG.bd fun g36 =>
(gsel true g36 (AV.bin .eql p35.1 (i64 0)) (some (AV.tup []))).bd fun x37 =>
(AV.pick x31 x37 (AV.bool false)).bd fun x38 =>
(x38).asG.bd fun g39 =>
(gsel true g39 (ld p35.2 (some 3) (AV.ptr p12.2.length 0)) (some (AV.tup []))).bd fun x40 =>
(x38).asG.bd fun g41 =>
(gsel true g41 (window_Window_Next [x40] p35.2) (some ((AV.tup []), p35.2))).bd fun p42 =>
(x38).asG.bd fun g43 =>
(gsel true g43 (AV.bin .eql p42.1 (u64 201)) (some (AV.tup []))).bd fun x44 =>
(AV.pick x38 x44 (AV.bool false)).bd fun x45 =>
(x45).asG.bd fun g46 =>
(gsel true g46 (ld p42.2 (some 3) (AV.ptr p2.2.length 0)) (some (AV.tup []))).bd fun x47 =>
(x45).asG.bd fun g48 =>
(gsel true g48 (window_Window_Has [x47, (u64 5)] p42.2) (some ((AV.tup []), p42.2))).bd fun p49 =>
(AV.pick x45 p49.1 (AV.bool false)).bd fun x50 =>
some (.ret, [x50], p49.2)).bd (fnEnd H0.length [.tmp 0])
noncomputable def aditlaw15_WindowLives_l1 (args : List AV) (H0 : Heap) (H3 : Heap) (vs1 : List AV) (H2 : Heap) : Option Res :=
(AV.len (args.getD 0 .top)).bd fun x4 =>
(AV.bin .lss (vs1.getD 2 .top) x4).bd fun x5 =>
(x5).asG.bd fun g6 =>
(x5).asG.bd fun g7 =>
(gsel true g7 (AV.bin .lss (gsel true g6 (vs1.getD 2 .top) (AV.tup [])) (i64 300)) (some (AV.tup []))).bd fun x8 =>
(AV.pick x5 x8 (AV.bool false)).bd fun x9 =>
((x9).asB.bd fun b10 => bif b10 then (some (.norm, [], H2))
else (some (.exit 0, [], H2))).bd (andThen (fun vs11 => [(vs1.getD 0 .top), (vs1.getD 1 .top), (vs1.getD 2 .top)]) fun vs11 H12 =>
(((ld H12 (some 3) (AV.ptr H0.length 0)).bd fun x13 =>
(AV.idxS 1 (args.getD 0 .top) (vs1.getD 2 .top)).bd fun x14 =>
(ld H12 none x14).bd fun x15 =>
(AV.idxS 1 (args.getD 0 .top) (vs1.getD 2 .top)).bd fun x16 =>
(ld H12 none x16).bd fun x17 =>
(window_Window_Check [x13, x15] H12).bd fun p18 =>
(chk (ld p18.2 none x16) x17).bd fun _ =>
(aditref15_Check [(vs1.getD 1 .top), x17] p18.2).bd fun p19 =>
(AV.bin .neq p18.1 p19.1).bd fun x20 =>
(x20).asG.bd fun g21 =>
(gsel false g21 (ld p19.2 (some 3) (AV.ptr H0.length 0)) (some (AV.tup []))).bd fun x22 =>
(x20).asG.bd fun g23 =>
(x20).asG.bd fun g24 =>
(x20).asG.bd fun g25 =>
(x20).asG.bd fun g26 =>
(gsel false g26 (window_Window_Check [x22, (gsel false g23 (args.getD 1 .top) (AV.tup []))] p19.2) (some ((AV.tup []), p19.2))).bd fun p27 =>
(x20).asG.bd fun g28 =>
(gsel false g28 (aditref15_Check [(gsel false g24 (vs1.getD 1 .top) (AV.tup [])), (gsel false g25 (args.getD 1 .top) (AV.tup []))] p27.2) (some ((AV.tup []), p27.2))).bd fun p29 =>
(x20).asG.bd fun g30 =>
(gsel false g30 (AV.bin .neq p27.1 p29.1) (some (AV.tup []))).bd fun x31 =>
(AV.pick x20 (AV.bool true) x31).bd fun x32 =>
(x32).asG.bd fun g33 =>
(gsel false g33 (ld p29.2 (some 3) (AV.ptr H0.length 0)) (some (AV.tup []))).bd fun x34 =>
(x32).asG.bd fun g35 =>
(x32).asG.bd fun g36 =>
(x32).asG.bd fun g37 =>
(x32).asG.bd fun g38 =>
(gsel false g38 (window_Window_Has [x34, (gsel false g35 (args.getD 1 .top) (AV.tup []))] p29.2) (some ((AV.tup []), p29.2))).bd fun p39 =>
(x32).asG.bd fun g40 =>
(gsel false g40 (aditref15_Has [(gsel false g36 (vs1.getD 1 .top) (AV.tup [])), (gsel false g37 (args.getD 1 .top) (AV.tup []))] p39.2) (some ((AV.tup []), p39.2))).bd fun p41 =>
(x32).asG.bd fun g42 =>
(gsel false g42 (AV.eqb true p39.1 p41.1) (some (AV.tup []))).bd fun x43 =>
(AV.pick x32 (AV.bool true) x43).bd fun x44 =>
((x44).asB.bd fun b45 => bif b45 then (some (.ret, [(AV.bool false)], p41.2))
else (some (.norm, [(vs1.getD 0 .top)], p41.2))).bd (andThen (fun vs46 => [(vs46.getD 0 .top), (vs1.getD 1 .top)]) fun vs46 H47 =>
(ld H47 (some 3) (AV.ptr H0.length 0)).bd fun x48 =>
(AV.idxS 1 (args.getD 0 .top) (vs1.getD 2 .top)).bd fun x49 =>
(ld H47 none x49).bd fun x50 =>
(window_Window_Take [x48, x50] H47).bd fun p51 =>
(AV.ext 0 p51.1).bd fun x52 =>
(AV.ext 1 p51.1).bd fun x53 =>
(st H3.length (p51.2 ++ [Blk.rw [u64 0, u64 0, u64 0]]) 3 (AV.ptr p51.2.length 0) x52).bd fun H54 =>
(AV.idxS 1 (args.getD 0 .top) (vs1.getD 2 .top)).bd fun x55 =>
(ld H54 none x55).bd fun x56 =>
(aditref15_Check [(vs1.getD 1 .top), x56] H54).bd fun p57 =>
(AV.bin .neq x53 p57.1).bd fun x58 =>
(x58).asG.bd fun g59 =>
(x58).asG.bd fun g60 =>
(gsel false g60 (AV.bin .neq (gsel false g59 x53 (AV.tup [])) (i64 0)) (some (AV.tup []))).bd fun x61 =>
(x58).asG.bd fun g62 =>
((gsel false g62 x61 (AV.tup []))).asG.bd fun g63 =>
(gsel true g63 (ld p57.2 (some 3) (AV.ptr p51.2.length 0)) (some (AV.tup []))).bd fun x64 =>
((gsel false g62 x61 (AV.tup []))).asG.bd fun g65 =>
(gsel true g65 (ld p57.2 (some 3) (AV.ptr H0.length 0)) (some (AV.tup []))).bd fun x66 =>
((gsel false g62 x61 (AV.tup []))).asG.bd fun g67 =>
(gsel true g67 (AV.eqg true [CK.i, CK.i, CK.i] x64 x66) (some (AV.tup []))).bd fun x68 =>
(x58).asG.bd fun g69 =>
(gsel false g69 (AV.pick (gsel false g62 x61 (AV.tup [])) x68 (AV.bool false)) (some (AV.tup []))).bd fun x70 =>
(AV.pick x58 (AV.bool true) x70).bd fun x71 =>
((x71).asB.bd fun b72 => bif b72 then (some (.ret, [(AV.bool false)], p57.2))
else (some (.norm, [(vs46.getD 0 .top)], p57.2))).bd (andThen (fun vs73 => [(vs73.getD 0 .top), (vs1.getD 1 .top)]) fun vs73 H74 =>
(AV.bin .eql x53 (i64 0)).bd fun x75 =>
((x75).asB.bd fun b76 => bif b76 then ((AV.idxS 1 (args.getD 0 .top) (vs1.getD 2 .top)).bd fun x77 =>
(ld H74 none x77).bd fun x78 =>
((fillA (zeros 1 [u64 0]) [(0, 1, x78)]).bd fun c => some (AV.sl H74.length 0 1 1 1, H74 ++ [Blk.rw c])).bd fun p79 =>
(appendA p79.2 1 (vs1.getD 1 .top) p79.1).bd fun p80 =>
some (.norm, [p80.1], p80.2))
else (some (.norm, [(vs1.getD 1 .top)], H74))).bd (andThen (fun vs81 => [(vs73.getD 0 .top), (vs81.getD 0 .top)]) fun vs81 H82 =>
(ld H82 (some 3) (AV.ptr p51.2.length 0)).bd fun x83 =>
(st H3.length H82 3 (AV.ptr H0.length 0) x83).bd fun H84 =>
(ld H84 (some 3) (AV.ptr H0.length 0)).bd fun x85 =>
(window_Window_Next [x85] H84).bd fun p86 =>
(aditref15_Greatest [(vs81.getD 0 .top)] p86.2).bd fun p87 =>
(AV.bin .neq p86.1 p87.1).bd fun x88 =>
(x88).asB.bd fun b89 => bif b89 then (some (.ret, [(AV.bool false), (vs81.getD 0 .top)], p87.2))
else (some (.norm, [(vs73.getD 0 .top), (vs81.getD 0 .top)], p87.2)))))).bd (inBlock 1)).bd (andThen (fun vs90 => [(vs90.getD 0 .top), (vs90.getD 1 .top), (vs1.getD 2 .top)]) fun vs90 H91 =>
(AV.bin .add (vs1.getD 2 .top) (i64 1)).bd fun x92 =>
some (.norm, [(vs90.getD 0 .top), (vs90.getD 1 .top), x92], H91)))
noncomputable def aditlaw15_WindowLives : Fn := fun args H0 =>
((((loopD (fun vs H' => (aditlaw15_WindowLives_l1 args H0 (H0 ++ [Blk.rw [u64 0, u64 0, u64 0]]) vs H').bd (roundEnd ((H0 ++ [Blk.rw [u64 0, u64 0, u64 0]])).length)) [(AV.bool false), (AV.nsl), (i64 0)] (H0 ++ [Blk.rw [u64 0, u64 0, u64 0]])).bd fun r93 => some (r93.1, [(r93.2.1.getD 0 .top)], r93.2.2)).bd (inBlock 0)).bd (andThen (fun vs94 => [(vs94.getD 0 .top)]) fun vs94 H95 =>
(aditlaw15_alive [] H95).bd fun p96 =>
some (.ret, [p96.1], p96.2))).bd (fnEnd H0.length [.tmp 0])
noncomputable def aditlaw15_played_l1 (args : List AV) (H0 : Heap) (H3 : Heap) (vs1 : List AV) (H2 : Heap) : Option Res :=
(AV.len (args.getD 0 .top)).bd fun x4 =>
(AV.bin .lss (vs1.getD 1 .top) x4).bd fun x5 =>
(x5).asG.bd fun g6 =>
(x5).asG.bd fun g7 =>
(gsel true g7 (AV.bin .lss (gsel true g6 (vs1.getD 1 .top) (AV.tup [])) (i64 300)) (some (AV.tup []))).bd fun x8 =>
(AV.pick x5 x8 (AV.bool false)).bd fun x9 =>
((x9).asB.bd fun b10 => bif b10 then (some (.norm, [], H2))
else (some (.exit 0, [], H2))).bd (andThen (fun vs11 => [(vs1.getD 0 .top), (vs1.getD 1 .top)]) fun vs11 H12 =>
(((ld H12 (some 3) (AV.ptr (H0 ++ [Blk.rw [u64 0, u64 0, u64 0]]).length 0)).bd fun x13 =>
(AV.idxS 1 (args.getD 0 .top) (vs1.getD 1 .top)).bd fun x14 =>
(ld H12 none x14).bd fun x15 =>
(window_Window_Take [x13, x15] H12).bd fun p16 =>
(AV.ext 0 p16.1).bd fun x17 =>
(AV.ext 1 p16.1).bd fun x18 =>
(st H3.length (p16.2 ++ [Blk.rw [u64 0, u64 0, u64 0]]) 3 (AV.ptr p16.2.length 0) x17).bd fun H19 =>
(AV.bin .eql x18 (i64 0)).bd fun x20 =>
(x20).asB.bd fun b21 => bif b21 then ((ld H19 (some 3) (AV.ptr p16.2.length 0)).bd fun x22 =>
(st H3.length H19 3 (AV.ptr (H0 ++ [Blk.rw [u64 0, u64 0, u64 0]]).length 0) x22).bd fun H23 =>
(AV.idxS 1 (args.getD 0 .top) (vs1.getD 1 .top)).bd fun x24 =>
(ld H23 none x24).bd fun x25 =>
((fillA (zeros 1 [u64 0]) [(0, 1, x25)]).bd fun c => some (AV.sl H23.length 0 1 1 1, H23 ++ [Blk.rw c])).bd fun p26 =>
(appendA p26.2 1 (vs1.getD 0 .top) p26.1).bd fun p27 =>
some (.norm, [p27.1], p27.2))
else (some (.norm, [(vs1.getD 0 .top)], H19))).bd (inBlock 1)).bd (andThen (fun vs28 => [(vs28.getD 0 .top), (vs1.getD 1 .top)]) fun vs28 H29 =>
(AV.bin .add (vs1.getD 1 .top) (i64 1)).bd fun x30 =>
some (.norm, [(vs28.getD 0 .top), x30], H29)))
noncomputable def aditlaw15_played : Fn := fun args H0 =>
((((loopD (fun vs H' => (aditlaw15_played_l1 args H0 ((H0 ++ [Blk.rw [u64 0, u64 0, u64 0]]) ++ [Blk.rw [u64 0, u64 0, u64 0]]) vs H').bd (roundEnd (((H0 ++ [Blk.rw [u64 0, u64 0, u64 0]]) ++ [Blk.rw [u64 0, u64 0, u64 0]])).length)) [(AV.nsl), (i64 0)] ((H0 ++ [Blk.rw [u64 0, u64 0, u64 0]]) ++ [Blk.rw [u64 0, u64 0, u64 0]])).bd fun r31 => some (r31.1, [(r31.2.1.getD 0 .top)], r31.2.2)).bd (inBlock 0)).bd (andThen (fun vs32 => [(AV.ptr H0.length 0), (AV.nsl)]) fun vs32 H33 =>
(ld H33 (some 3) (AV.ptr (H0 ++ [Blk.rw [u64 0, u64 0, u64 0]]).length 0)).bd fun x34 =>
(st H0.length H33 3 (AV.ptr H0.length 0) x34).bd fun H35 =>
some (.ret, [(AV.ptr H0.length 0), (vs32.getD 0 .top)], H35))).bd (fnEnd H0.length [.cell 0 (some 3), .tmp 1])
noncomputable def aditlaw15_WindowOnce_l2 (vs5 : List AV) (x3 : AV) (H11 : Heap) (vs12 : List AV) (H13 : Heap) : Option Res :=
(AV.bin .lss (vs12.getD 1 .top) (vs5.getD 1 .top)).bd fun x14 =>
((x14).asB.bd fun b15 => bif b15 then (some (.norm, [], H13))
else (some (.exit 2, [], H13))).bd (andThen (fun vs16 => [(vs12.getD 0 .top), (vs12.getD 1 .top)]) fun vs16 H17 =>
(((AV.idxS 1 x3 (vs12.getD 1 .top)).bd fun x18 =>
(ld H17 none x18).bd fun x19 =>
(AV.idxS 1 x3 (vs5.getD 1 .top)).bd fun x20 =>
(ld H17 none x20).bd fun x21 =>
(AV.bin .eql x19 x21).bd fun x22 =>
(x22).asB.bd fun b23 => bif b23 then (some (.ret, [(AV.bool false)], H17))
else (some (.norm, [(vs12.getD 0 .top)], H17))).bd (inBlock 3)).bd (andThen (fun vs24 => [(vs24.getD 0 .top), (vs12.getD 1 .top)]) fun vs24 H25 =>
(AV.bin .add (vs12.getD 1 .top) (i64 1)).bd fun x26 =>
some (.norm, [(vs24.getD 0 .top), x26], H25)))
noncomputable def aditlaw15_WindowOnce_l1 (x3 : AV) (H4 : Heap) (vs5 : List AV) (H6 : Heap) : Option Res :=
(AV.len x3).bd fun x7 =>
(AV.bin .lss (vs5.getD 1 .top) x7).bd fun x8 =>
((x8).asB.bd fun b9 => bif b9 then (some (.norm, [], H6))
else (some (.exit 0, [], H6))).bd (andThen (fun vs10 => [(vs5.getD 0 .top), (vs5.getD 1 .top)]) fun vs10 H11 =>
((((loopD (fun vs H' => (aditlaw15_WindowOnce_l2 vs5 x3 H11 vs H').bd (roundEnd (H11).length)) [(vs5.getD 0 .top), (i64 0)] H11).bd fun r27 => some (r27.1, [(r27.2.1.getD 0 .top)], r27.2.2)).bd (inBlock 2)).bd (inBlock 1)).bd (andThen (fun vs28 => [(vs28.getD 0 .top), (vs5.getD 1 .top)]) fun vs28 H29 =>
(AV.bin .add (vs5.getD 1 .top) (i64 1)).bd fun x30 =>
some (.norm, [(vs28.getD 0 .top), x30], H29)))
noncomputable def aditlaw15_WindowOnce : Fn := fun args H0 =>
((aditlaw15_played [(args.getD 0 .top)] H0).bd fun p1 =>
(AV.ext 0 p1.1).bd fun x2 =>
(AV.ext 1 p1.1).bd fun x3 =>
(st H0.length (p1.2 ++ [Blk.rw [u64 0, u64 0, u64 0]]) 3 (AV.ptr p1.2.length 0) x2).bd fun H4 =>
(((loopD (fun vs H' => (aditlaw15_WindowOnce_l1 x3 H4 vs H').bd (roundEnd (H4).length)) [(AV.bool false), (i64 0)] H4).bd fun r31 => some (r31.1, [(r31.2.1.getD 0 .top)], r31.2.2)).bd (inBlock 0)).bd (andThen (fun vs32 => [(vs32.getD 0 .top)]) fun vs32 H33 =>
(aditlaw15_alive [] H33).bd fun p34 =>
(p34.1).asG.bd fun g35 =>
(p34.1).asG.bd fun g36 =>
(gsel true g36 (AV.len (gsel true g35 (args.getD 0 .top) (AV.tup []))) (some (AV.tup []))).bd fun x37 =>
(p34.1).asG.bd fun g38 =>
(gsel true g38 (AV.bin .eql x37 (i64 0)) (some (AV.tup []))).bd fun x39 =>
(p34.1).asG.bd fun g40 =>
((gsel true g40 x39 (AV.tup []))).asG.bd fun g41 =>
((gsel true g40 x39 (AV.tup []))).asG.bd fun g42 =>
(gsel false g42 (AV.len (gsel false g41 x3 (AV.tup []))) (some (AV.tup []))).bd fun x43 =>
((gsel true g40 x39 (AV.tup []))).asG.bd fun g44 =>
(gsel false g44 (AV.bin .gtr x43 (i64 0)) (some (AV.tup []))).bd fun x45 =>
(p34.1).asG.bd fun g46 =>
(gsel true g46 (AV.pick (gsel true g40 x39 (AV.tup [])) (AV.bool true) x45) (some (AV.tup []))).bd fun x47 =>
(p34.1).asG.bd fun g48 =>
((gsel true g48 x47 (AV.tup []))).asG.bd fun g49 =>
((gsel true g48 x47 (AV.tup []))).asG.bd fun g50 =>
(gsel false g50 (AV.idxS 1 (gsel false g49 (args.getD 0 .top) (AV.tup [])) (i64 0)) (some (AV.tup []))).bd fun x51 =>
((gsel true g48 x47 (AV.tup []))).asG.bd fun g52 =>
(gsel false g52 (ld p34.2 none x51) (some (AV.tup []))).bd fun x53 =>
((gsel true g48 x47 (AV.tup []))).asG.bd fun g54 =>
(gsel false g54 (AV.bin .geq x53 (u64 18446744073709543423)) (some (AV.tup []))).bd fun x55 =>
(p34.1).asG.bd fun g56 =>
(gsel true g56 (AV.pick (gsel true g48 x47 (AV.tup [])) (AV.bool true) x55) (some (AV.tup []))).bd fun x57 =>
(AV.pick p34.1 x57 (AV.bool false)).bd fun x58 =>
some (.ret, [x58], p34.2))).bd (fnEnd H0.length [.tmp 0])
noncomputable def aditlaw15_WindowTakes_l1 (x3 : AV) (args : List AV) (H4 : Heap) (vs5 : List AV) (H6 : Heap) : Option Res :=
(AV.len x3).bd fun x7 =>
(AV.bin .lss (vs5.getD 1 .top) x7).bd fun x8 =>
((x8).asB.bd fun b9 => bif b9 then (some (.norm, [], H6))
else (some (.exit 0, [], H6))).bd (andThen (fun vs10 => [(vs5.getD 0 .top), (vs5.getD 1 .top)]) fun vs10 H11 =>
((((vs5.getD 0 .top)).asG.bd fun g12 =>
((vs5.getD 0 .top)).asG.bd fun g13 =>
((vs5.getD 0 .top)).asG.bd fun g14 =>
(gsel false g14 (AV.idxS 1 (gsel false g12 x3 (AV.tup [])) (gsel false g13 (vs5.getD 1 .top) (AV.tup []))) (some (AV.tup []))).bd fun x15 =>
((vs5.getD 0 .top)).asG.bd fun g16 =>
(gsel false g16 (ld H11 none x15) (some (AV.tup []))).bd fun x17 =>
((vs5.getD 0 .top)).asG.bd fun g18 =>
((vs5.getD 0 .top)).asG.bd fun g19 =>
(gsel false g19 (AV.bin .eql x17 (gsel false g18 (args.getD 1 .top) (AV.tup []))) (some (AV.tup []))).bd fun x20 =>
(AV.pick (vs5.getD 0 .top) (AV.bool true) x20).bd fun x21 =>
some (.norm, [x21], H11)).bd (inBlock 1)).bd (andThen (fun vs22 => [(vs22.getD 0 .top), (vs5.getD 1 .top)]) fun vs22 H23 =>
(AV.bin .add (vs5.getD 1 .top) (i64 1)).bd fun x24 =>
some (.norm, [(vs22.getD 0 .top), x24], H23)))
noncomputable def aditlaw15_WindowTakes : Fn := fun args H0 =>
((aditlaw15_played [(args.getD 0 .top)] H0).bd fun p1 =>
(AV.ext 0 p1.1).bd fun x2 =>
(AV.ext 1 p1.1).bd fun x3 =>
(st H0.length (p1.2 ++ [Blk.rw [u64 0, u64 0, u64 0]]) 3 (AV.ptr p1.2.length 0) x2).bd fun H4 =>
(((loopD (fun vs H' => (aditlaw15_WindowTakes_l1 x3 args H4 vs H').bd (roundEnd (H4).length)) [(AV.bool false), (i64 0)] H4).bd fun r25 => some (r25.1, [(r25.2.1.getD 0 .top)], r25.2.2)).bd (inBlock 0)).bd (andThen (fun vs26 => [(AV.bool false)]) fun vs26 H27 =>
(ld H27 (some 3) (AV.ptr p1.2.length 0)).bd fun x28 =>
(window_Window_Take [x28, (args.getD 1 .top)] H27).bd fun p29 =>
(AV.ext 0 p29.1).bd fun x30 =>
(AV.ext 1 p29.1).bd fun x31 =>
(st H0.length (p29.2 ++ [Blk.rw [u64 0, u64 0, u64 0]]) 3 (AV.ptr p29.2.length 0) x30).bd fun H32 =>
(ld H32 (some 3) (AV.ptr p1.2.length 0)).bd fun x33 =>
(window_Window_Next [x33] H32).bd fun p34 =>
(AV.bin .geq (args.getD 1 .top) p34.1).bd fun x35 =>
(x35).asG.bd fun g36 =>
(gsel false g36 (ld p34.2 (some 3) (AV.ptr p1.2.length 0)) (some (AV.tup []))).bd fun x37 =>
(x35).asG.bd fun g38 =>
(gsel false g38 (window_Window_Next [x37] p34.2) (some ((AV.tup []), p34.2))).bd fun p39 =>
(x35).asG.bd fun g40 =>
(x35).asG.bd fun g41 =>
(gsel false g41 (AV.bin .sub p39.1 (gsel false g40 (args.getD 1 .top) (AV.tup []))) (some (AV.tup []))).bd fun x42 =>
(x35).asG.bd fun g43 =>
(gsel false g43 (AV.bin .leq x42 (u64 128)) (some (AV.tup []))).bd fun x44 =>
(AV.pick x35 (AV.bool true) x44).bd fun x45 =>
(AV.bin .geq (args.getD 1 .top) (u64 18446744073709543423)).bd fun x46 =>
((x46).asB.bd fun b47 => bif b47 then ((aditlaw15_alive [] p39.2).bd fun p48 =>
(p48.1).asG.bd fun g49 =>
(p48.1).asG.bd fun g50 =>
(gsel true g50 (AV.bin .eql (gsel true g49 x31 (AV.tup [])) (i64 81)) (some (AV.tup []))).bd fun x51 =>
(AV.pick p48.1 x51 (AV.bool false)).bd fun x52 =>
some (.ret, [x52], p48.2))
else (some (.norm, [(AV.bool false)], p39.2))).bd (andThen (fun vs53 => [(vs53.getD 0 .top)]) fun vs53 H54 =>
(AV.bin .eql x31 (i64 0)).bd fun x55 =>
(x45).asG.bd fun g56 =>
(x45).asG.bd fun g57 =>
(gsel true g57 (AV.un .not (gsel true g56 (vs26.getD 0 .top) (AV.tup []))) (some (AV.tup []))).bd fun x58 =>
(AV.pick x45 x58 (AV.bool false)).bd fun x59 =>
(AV.eqb true x55 x59).bd fun x60 =>
((x60).asB.bd fun b61 => bif b61 then (some (.ret, [(AV.bool false)], H54))
else (some (.norm, [(vs53.getD 0 .top)], H54))).bd (andThen (fun vs62 => [(vs62.getD 0 .top)]) fun vs62 H63 =>
(aditlaw15_alive [] H63).bd fun p64 =>
(p64.1).asG.bd fun g65 =>
(p64.1).asG.bd fun g66 =>
(gsel true g66 (AV.bin .neq (gsel true g65 x31 (AV.tup [])) (i64 0)) (some (AV.tup []))).bd fun x67 =>
(p64.1).asG.bd fun g68 =>
((gsel true g68 x67 (AV.tup []))).asG.bd fun g69 =>
(gsel false g69 (ld p64.2 (some 3) (AV.ptr p29.2.length 0)) (some (AV.tup []))).bd fun x70 =>
((gsel true g68 x67 (AV.tup []))).asG.bd fun g71 =>
((gsel true g68 x67 (AV.tup []))).asG.bd fun g72 =>
(gsel false g72 (window_Window_Has [x70, (gsel false g71 (args.getD 1 .top) (AV.tup []))] p64.2) (some ((AV.tup []), p64.2))).bd fun p73 =>
((gsel true g68 x67 (AV.tup []))).asG.bd fun g74 =>
((gsel false g74 p73.1 (AV.tup []))).asG.bd fun g75 =>
(gsel true g75 (ld p73.2 (some 3) (AV.ptr p29.2.length 0)) (some (AV.tup []))).bd fun x76 =>
((gsel false g74 p73.1 (AV.tup []))).asG.bd fun g77 =>
((gsel false g74 p73.1 (AV.tup []))).asG.bd fun g78 =>
(gsel true g78 (window_Window_Check [x76, (gsel true g77 (args.getD 1 .top) (AV.tup []))] p73.2) (some ((AV.tup []), p73.2))).bd fun p79 =>
((gsel false g74 p73.1 (AV.tup []))).asG.bd fun g80 =>
(gsel true g80 (AV.bin .eql p79.1 (i64 80)) (some (AV.tup []))).bd fun x81 =>
((gsel true g68 x67 (AV.tup []))).asG.bd fun g82 =>
(gsel false g82 (AV.pick (gsel false g74 p73.1 (AV.tup [])) x81 (AV.bool false)) (some (AV.tup []))).bd fun x83 =>
((gsel true g68 x67 (AV.tup []))).asG.bd fun g84 =>
((gsel false g84 x83 (AV.tup []))).asG.bd fun g85 =>
(gsel true g85 (ld p79.2 (some 3) (AV.ptr p29.2.length 0)) (some (AV.tup []))).bd fun x86 =>
((gsel false g84 x83 (AV.tup []))).asG.bd fun g87 =>
(gsel true g87 (window_Window_Next [x86] p79.2) (some ((AV.tup []), p79.2))).bd fun p88 =>
((gsel false g84 x83 (AV.tup []))).asG.bd fun g89 =>
((gsel false g84 x83 (AV.tup []))).asG.bd fun g90 =>
(gsel true g90 (AV.bin .gtr p88.1 (gsel true g89 (args.getD 1 .top) (AV.tup []))) (some (AV.tup []))).bd fun x91 =>
((gsel true g68 x67 (AV.tup []))).asG.bd fun g92 =>
(gsel false g92 (AV.pick (gsel false g84 x83 (AV.tup [])) x91 (AV.bool false)) (some (AV.tup []))).bd fun x93 =>
(p64.1).asG.bd fun g94 =>
(gsel true g94 (AV.pick (gsel true g68 x67 (AV.tup [])) (AV.bool true) x93) (some (AV.tup []))).bd fun x95 =>
(AV.pick p64.1 x95 (AV.bool false)).bd fun x96 =>
some (.ret, [x96], p88.2))))).bd (fnEnd H0.length [.tmp 0])
noncomputable def aditlaw15_WindowRefuses : Fn := fun args H0 =>
((aditlaw15_played [(args.getD 0 .top)] H0).bd fun p1 =>
(AV.ext 0 p1.1).bd fun x2 =>
(AV.ext 1 p1.1).bd fun x3 =>
(st H0.length (p1.2 ++ [Blk.rw [u64 0, u64 0, u64 0]]) 3 (AV.ptr p1.2.length 0) x2).bd fun H4 =>
(aditlaw15_played [x3] H4).bd fun p5 =>
(AV.ext 0 p5.1).bd fun x6 =>
(AV.ext 1 p5.1).bd fun x7 =>
(st H0.length (p5.2 ++ [Blk.rw [u64 0, u64 0, u64 0]]) 3 (AV.ptr p5.2.length 0) x6).bd fun H8 =>
(aditlaw15_alive [] H8).bd fun p9 =>
(p9.1).asG.bd fun g10 =>
(gsel true g10 (ld p9.2 (some 3) (AV.ptr p5.2.length 0)) (some (AV.tup []))).bd fun x11 =>
(p9.1).asG.bd fun g12 =>
(gsel true g12 (ld p9.2 (some 3) (AV.ptr p1.2.length 0)) (some (AV.tup []))).bd fun x13 =>
(p9.1).asG.bd fun g14 =>
(gsel true g14 (AV.eqg false [CK.i, CK.i, CK.i] x11 x13) (some (AV.tup []))).bd fun x15 =>
(AV.pick p9.1 x15 (AV.bool false)).bd fun x16 =>
(x16).asG.bd fun g17 =>
(x16).asG.bd fun g18 =>
(gsel true g18 (AV.len (gsel true g17 x7 (AV.tup []))) (some (AV.tup []))).bd fun x19 =>
(x16).asG.bd fun g20 =>
(x16).asG.bd fun g21 =>
(gsel true g21 (AV.len (gsel true g20 x3 (AV.tup []))) (some (AV.tup []))).bd fun x22 =>
(x16).asG.bd fun g23 =>
(gsel true g23 (AV.bin .eql x19 x22) (some (AV.tup []))).bd fun x24 =>
(AV.pick x16 x24 (AV.bool false)).bd fun x25 =>
some (.ret, [x25], p9.2)).bd (fnEnd H0.length [.tmp 0])
noncomputable def aditlaw15_WindowOrder_l1 (args : List AV) (H17 : Heap) (H20 : Heap) (vs18 : List AV) (H19 : Heap) : Option Res :=
(AV.len (args.getD 1 .top)).bd fun x21 =>
(AV.bin .lss (vs18.getD 0 .top) x21).bd fun x22 =>
((x22).asB.bd fun b23 => bif b23 then (some (.norm, [], H19))
else (some (.exit 0, [], H19))).bd (andThen (fun vs24 => [(vs18.getD 0 .top)]) fun vs24 H25 =>
(((ld H25 (some 3) (AV.ptr H17.length 0)).bd fun x26 =>
(AV.idxS 1 (args.getD 1 .top) (vs18.getD 0 .top)).bd fun x27 =>
(ld H25 none x27).bd fun x28 =>
(AV.bin .and x28 (u8 127)).bd fun x29 =>
(AV.conv .u64 x29).bd fun x30 =>
(AV.bin .add (args.getD 0 .top) x30).bd fun x31 =>
(window_Window_Take [x26, x31] H25).bd fun p32 =>
(AV.ext 0 p32.1).bd fun x33 =>
(AV.ext 1 p32.1).bd fun x34 =>
(st H20.length (p32.2 ++ [Blk.rw [u64 0, u64 0, u64 0]]) 3 (AV.ptr p32.2.length 0) x33).bd fun H35 =>
(ld H35 (some 3) (AV.ptr (H17 ++ [Blk.rw [u64 0, u64 0, u64 0]]).length 0)).bd fun x36 =>
(AV.bin .and (args.getD 2 .top) (i64 1023)).bd fun x37 =>
(AV.bin .add (vs18.getD 0 .top) x37).bd fun x38 =>
(AV.len (args.getD 1 .top)).bd fun x39 =>
(AV.bin .rem x38 x39).bd fun x40 =>
(AV.idxS 1 (args.getD 1 .top) x40).bd fun x41 =>
(ld H35 none x41).bd fun x42 =>
(AV.bin .and x42 (u8 127)).bd fun x43 =>
(AV.conv .u64 x43).bd fun x44 =>
(AV.bin .add (args.getD 0 .top) x44).bd fun x45 =>
(window_Window_Take [x36, x45] H35).bd fun p46 =>
(AV.ext 0 p46.1).bd fun x47 =>
(AV.ext 1 p46.1).bd fun x48 =>
(st H20.length (p46.2 ++ [Blk.rw [u64 0, u64 0, u64 0]]) 3 (AV.ptr p46.2.length 0) x47).bd fun H49 =>
(ld H49 (some 3) (AV.ptr p32.2.length 0)).bd fun x50 =>
(ld H49 (some 3) (AV.ptr p46.2.length 0)).bd fun x51 =>
(st H20.length H49 3 (AV.ptr H17.length 0) x50).bd fun H52 =>
(chk (ld H52 (some 3) (AV.ptr p46.2.length 0)) x51).bd fun _ =>
(st H20.length H52 3 (AV.ptr (H17 ++ [Blk.rw [u64 0, u64 0, u64 0]]).length 0) x51).bd fun H53 =>
some (.norm, [], H53)).bd (inBlock 1)).bd (andThen (fun vs54 => [(vs18.getD 0 .top)]) fun vs54 H55 =>
(AV.bin .add (vs18.getD 0 .top) (i64 1)).bd fun x56 =>
some (.norm, [x56], H55)))
noncomputable def aditlaw15_WindowOrder : Fn := fun args H0 =>
((AV.bin .gtr (args.getD 0 .top) (u64 4611686018427387904)).bd fun x1 =>
(x1).asG.bd fun g2 =>
(x1).asG.bd fun g3 =>
(gsel false g3 (AV.len (gsel false g2 (args.getD 1 .top) (AV.tup []))) (some (AV.tup []))).bd fun x4 =>
(x1).asG.bd fun g5 =>
(gsel false g5 (AV.bin .gtr x4 (i64 60)) (some (AV.tup []))).bd fun x6 =>
(AV.pick x1 (AV.bool true) x6).bd fun x7 =>
(x7).asG.bd fun g8 =>
(x7).asG.bd fun g9 =>
(gsel false g9 (AV.len (gsel false g8 (args.getD 1 .top) (AV.tup []))) (some (AV.tup []))).bd fun x10 =>
(x7).asG.bd fun g11 =>
(gsel false g11 (AV.bin .eql x10 (i64 0)) (some (AV.tup []))).bd fun x12 =>
(AV.pick x7 (AV.bool true) x12).bd fun x13 =>
((x13).asB.bd fun b14 => bif b14 then ((aditlaw15_alive [] H0).bd fun p15 =>
some (.ret, [p15.1], p15.2))
else (some (.norm, [(AV.bool false)], H0))).bd (andThen (fun vs16 => [(vs16.getD 0 .top)]) fun vs16 H17 =>
(((loopD (fun vs H' => (aditlaw15_WindowOrder_l1 args H17 ((H17 ++ [Blk.rw [u64 0, u64 0, u64 0]]) ++ [Blk.rw [u64 0, u64 0, u64 0]]) vs H').bd (roundEnd (((H17 ++ [Blk.rw [u64 0, u64 0, u64 0]]) ++ [Blk.rw [u64 0, u64 0, u64 0]])).length)) [(i64 0)] ((H17 ++ [Blk.rw [u64 0, u64 0, u64 0]]) ++ [Blk.rw [u64 0, u64 0, u64 0]])).bd fun r57 => some (r57.1, [], r57.2.2)).bd (inBlock 0)).bd (andThen (fun vs58 => [(vs16.getD 0 .top)]) fun vs58 H59 =>
(aditlaw15_alive [] H59).bd fun p60 =>
(p60.1).asG.bd fun g61 =>
(gsel true g61 (ld p60.2 (some 3) (AV.ptr H17.length 0)) (some (AV.tup []))).bd fun x62 =>
(p60.1).asG.bd fun g63 =>
(gsel true g63 (ld p60.2 (some 3) (AV.ptr (H17 ++ [Blk.rw [u64 0, u64 0, u64 0]]).length 0)) (some (AV.tup []))).bd fun x64 =>
(p60.1).asG.bd fun g65 =>
(gsel true g65 (AV.eqg false [CK.i, CK.i, CK.i] x62 x64) (some (AV.tup []))).bd fun x66 =>
(AV.pick p60.1 x66 (AV.bool false)).bd fun x67 =>
(x67).asG.bd fun g68 =>
(gsel true g68 (ld p60.2 (some 3) (AV.ptr H17.length 0)) (some (AV.tup []))).bd fun x69 =>
(x67).asG.bd fun g70 =>
(gsel true g70 (window_Window_Next [x69] p60.2) (some ((AV.tup []), p60.2))).bd fun p71 =>
(x67).asG.bd fun g72 =>
(x67).asG.bd fun g73 =>
(gsel true g73 (AV.bin .gtr p71.1 (gsel true g72 (args.getD 0 .top) (AV.tup []))) (some (AV.tup []))).bd fun x74 =>
(AV.pick x67 x74 (AV.bool false)).bd fun x75 =>
some (.ret, [x75], p71.2)))).bd (fnEnd H0.length [.tmp 0])
end Go.Sx
