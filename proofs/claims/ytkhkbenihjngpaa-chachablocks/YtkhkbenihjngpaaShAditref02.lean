import Derived.Test.YtkhkbenihjngpaaShAditref01
set_option linter.all false
namespace Go.Sx
open Go
set_option linter.unusedVariables false
set_option maxRecDepth 100000
noncomputable def aditref02_numbers_l1 (args : List AV) (H0 : Heap) (vs1 : List AV) (H2 : Heap) : Option Res :=
(AV.bin .add (vs1.getD 1 .top) (i64 4)).bd fun x3 =>
(AV.len (args.getD 0 .top)).bd fun x4 =>
(AV.bin .leq x3 x4).bd fun x5 =>
((x5).asB.bd fun b6 => bif b6 then (some (.norm, [], H2))
else (some (.exit 0, [], H2))).bd (andThen (fun vs7 => [(vs1.getD 0 .top), (vs1.getD 1 .top)]) fun vs7 H8 =>
(((AV.bin .add (vs1.getD 1 .top) (i64 4)).bd fun x9 =>
(AV.slcS 1 (args.getD 0 .top) (some (vs1.getD 1 .top)) (some x9) none).bd fun x10 =>
(aditref01_Least [x10] H8).bd fun p11 =>
(AV.conv .u32 p11.1).bd fun x12 =>
((fillA (zeros 1 [u32 0]) [(0, 1, x12)]).bd fun c => some (AV.sl p11.2.length 0 1 1 1, p11.2 ++ [Blk.rw c])).bd fun p13 =>
(appendA p13.2 1 (vs1.getD 0 .top) p13.1).bd fun p14 =>
some (.norm, [p14.1], p14.2)).bd (inBlock 1)).bd (andThen (fun vs15 => [(vs15.getD 0 .top), (vs1.getD 1 .top)]) fun vs15 H16 =>
(AV.bin .add (vs1.getD 1 .top) (i64 4)).bd fun x17 =>
some (.norm, [(vs15.getD 0 .top), x17], H16)))
noncomputable def aditref02_numbers : Fn := fun args H0 =>
((((loopD (fun vs H' => (aditref02_numbers_l1 args H0 vs H').bd (roundEnd (H0).length)) [(AV.nsl), (i64 0)] H0).bd fun r18 => some (r18.1, [(r18.2.1.getD 0 .top)], r18.2.2)).bd (inBlock 0)).bd (andThen (fun vs19 => [(AV.nsl)]) fun vs19 H20 =>
some (.ret, [(vs19.getD 0 .top)], H20))).bd (fnEnd H0.length [.tmp 0])
noncomputable def aditref02_First : Fn := fun args H0 =>
(((fillA (zeros 4 [u32 0]) [(0, 1, (u32 1634760805)), (1, 1, (u32 857760878)), (2, 1, (u32 2036477234)), (3, 1, (u32 1797285236))]).bd fun c => some (AV.sl H0.length 0 4 4 1, H0 ++ [Blk.rw c])).bd fun p1 =>
(aditref02_numbers [(args.getD 0 .top)] p1.2).bd fun p2 =>
(appendA p2.2 1 p1.1 p2.1).bd fun p3 =>
(aditref02_numbers [(args.getD 1 .top)] p3.2).bd fun p4 =>
(appendA p4.2 1 p3.1 p4.1).bd fun p5 =>
some (.ret, [p5.1], p5.2)).bd (fnEnd H0.length [.tmp 0])
noncomputable def aditref02_quarter : Fn := fun args H0 =>
((AV.idxS 1 (args.getD 0 .top) (args.getD 1 .top)).bd fun x1 =>
(ld H0 none x1).bd fun x2 =>
(AV.idxS 1 (args.getD 0 .top) (args.getD 2 .top)).bd fun x3 =>
(ld H0 none x3).bd fun x4 =>
(AV.bin .add x2 x4).bd fun x5 =>
(AV.idxS 1 (args.getD 0 .top) (args.getD 1 .top)).bd fun x6 =>
(st H0.length H0 1 x6 x5).bd fun H7 =>
(AV.idxS 1 (args.getD 0 .top) (args.getD 4 .top)).bd fun x8 =>
(ld H7 none x8).bd fun x9 =>
(AV.idxS 1 (args.getD 0 .top) (args.getD 1 .top)).bd fun x10 =>
(ld H7 none x10).bd fun x11 =>
(AV.bin .xor x9 x11).bd fun x12 =>
(aditref01_Rotate [x12, (i64 16)] H7).bd fun p13 =>
(AV.idxS 1 (args.getD 0 .top) (args.getD 4 .top)).bd fun x14 =>
(st H0.length p13.2 1 x14 p13.1).bd fun H15 =>
(AV.idxS 1 (args.getD 0 .top) (args.getD 3 .top)).bd fun x16 =>
(ld H15 none x16).bd fun x17 =>
(AV.idxS 1 (args.getD 0 .top) (args.getD 4 .top)).bd fun x18 =>
(ld H15 none x18).bd fun x19 =>
(AV.bin .add x17 x19).bd fun x20 =>
(AV.idxS 1 (args.getD 0 .top) (args.getD 3 .top)).bd fun x21 =>
(st H0.length H15 1 x21 x20).bd fun H22 =>
(AV.idxS 1 (args.getD 0 .top) (args.getD 2 .top)).bd fun x23 =>
(ld H22 none x23).bd fun x24 =>
(AV.idxS 1 (args.getD 0 .top) (args.getD 3 .top)).bd fun x25 =>
(ld H22 none x25).bd fun x26 =>
(AV.bin .xor x24 x26).bd fun x27 =>
(aditref01_Rotate [x27, (i64 12)] H22).bd fun p28 =>
(AV.idxS 1 (args.getD 0 .top) (args.getD 2 .top)).bd fun x29 =>
(st H0.length p28.2 1 x29 p28.1).bd fun H30 =>
(AV.idxS 1 (args.getD 0 .top) (args.getD 1 .top)).bd fun x31 =>
(ld H30 none x31).bd fun x32 =>
(AV.idxS 1 (args.getD 0 .top) (args.getD 2 .top)).bd fun x33 =>
(ld H30 none x33).bd fun x34 =>
(AV.bin .add x32 x34).bd fun x35 =>
(AV.idxS 1 (args.getD 0 .top) (args.getD 1 .top)).bd fun x36 =>
(st H0.length H30 1 x36 x35).bd fun H37 =>
(AV.idxS 1 (args.getD 0 .top) (args.getD 4 .top)).bd fun x38 =>
(ld H37 none x38).bd fun x39 =>
(AV.idxS 1 (args.getD 0 .top) (args.getD 1 .top)).bd fun x40 =>
(ld H37 none x40).bd fun x41 =>
(AV.bin .xor x39 x41).bd fun x42 =>
(aditref01_Rotate [x42, (i64 8)] H37).bd fun p43 =>
(AV.idxS 1 (args.getD 0 .top) (args.getD 4 .top)).bd fun x44 =>
(st H0.length p43.2 1 x44 p43.1).bd fun H45 =>
(AV.idxS 1 (args.getD 0 .top) (args.getD 3 .top)).bd fun x46 =>
(ld H45 none x46).bd fun x47 =>
(AV.idxS 1 (args.getD 0 .top) (args.getD 4 .top)).bd fun x48 =>
(ld H45 none x48).bd fun x49 =>
(AV.bin .add x47 x49).bd fun x50 =>
(AV.idxS 1 (args.getD 0 .top) (args.getD 3 .top)).bd fun x51 =>
(st H0.length H45 1 x51 x50).bd fun H52 =>
(AV.idxS 1 (args.getD 0 .top) (args.getD 2 .top)).bd fun x53 =>
(ld H52 none x53).bd fun x54 =>
(AV.idxS 1 (args.getD 0 .top) (args.getD 3 .top)).bd fun x55 =>
(ld H52 none x55).bd fun x56 =>
(AV.bin .xor x54 x56).bd fun x57 =>
(aditref01_Rotate [x57, (i64 7)] H52).bd fun p58 =>
(AV.idxS 1 (args.getD 0 .top) (args.getD 2 .top)).bd fun x59 =>
(st H0.length p58.2 1 x59 p58.1).bd fun H60 =>
some (.norm, [], H60)).bd (fnEnd H0.length [])
noncomputable def aditref02_two : Fn := fun args H0 =>
((aditref02_quarter [(args.getD 0 .top), (i64 0), (i64 4), (i64 8), (i64 12)] H0).bd fun p1 =>
(aditref02_quarter [(args.getD 0 .top), (i64 1), (i64 5), (i64 9), (i64 13)] p1.2).bd fun p2 =>
(aditref02_quarter [(args.getD 0 .top), (i64 2), (i64 6), (i64 10), (i64 14)] p2.2).bd fun p3 =>
(aditref02_quarter [(args.getD 0 .top), (i64 3), (i64 7), (i64 11), (i64 15)] p3.2).bd fun p4 =>
(aditref02_quarter [(args.getD 0 .top), (i64 0), (i64 5), (i64 10), (i64 15)] p4.2).bd fun p5 =>
(aditref02_quarter [(args.getD 0 .top), (i64 1), (i64 6), (i64 11), (i64 12)] p5.2).bd fun p6 =>
(aditref02_quarter [(args.getD 0 .top), (i64 2), (i64 7), (i64 8), (i64 13)] p6.2).bd fun p7 =>
(aditref02_quarter [(args.getD 0 .top), (i64 3), (i64 4), (i64 9), (i64 14)] p7.2).bd fun p8 =>
some (.norm, [], p8.2)).bd (fnEnd H0.length [])
noncomputable def aditref02_bytes_l1 (args : List AV) (H0 : Heap) (vs1 : List AV) (H2 : Heap) : Option Res :=
(AV.len (args.getD 0 .top)).bd fun x3 =>
(AV.bin .lss (vs1.getD 1 .top) x3).bd fun x4 =>
((x4).asB.bd fun b5 => bif b5 then (some (.norm, [], H2))
else (some (.exit 0, [], H2))).bd (andThen (fun vs6 => [(vs1.getD 0 .top), (vs1.getD 1 .top)]) fun vs6 H7 =>
(((AV.idxS 1 (args.getD 0 .top) (vs1.getD 1 .top)).bd fun x8 =>
(ld H7 none x8).bd fun x9 =>
(AV.conv .u64 x9).bd fun x10 =>
(aditref01_Bytes [x10, (i64 4)] H7).bd fun p11 =>
(appendA p11.2 1 (vs1.getD 0 .top) p11.1).bd fun p12 =>
some (.norm, [p12.1], p12.2)).bd (inBlock 1)).bd (andThen (fun vs13 => [(vs13.getD 0 .top), (vs1.getD 1 .top)]) fun vs13 H14 =>
(AV.bin .add (vs1.getD 1 .top) (i64 1)).bd fun x15 =>
some (.norm, [(vs13.getD 0 .top), x15], H14)))
noncomputable def aditref02_bytes : Fn := fun args H0 =>
((((loopD (fun vs H' => (aditref02_bytes_l1 args H0 vs H').bd (roundEnd (H0).length)) [(AV.nsl), (i64 0)] H0).bd fun r16 => some (r16.1, [(r16.2.1.getD 0 .top)], r16.2.2)).bd (inBlock 0)).bd (andThen (fun vs17 => [(AV.nsl)]) fun vs17 H18 =>
some (.ret, [(vs17.getD 0 .top)], H18))).bd (fnEnd H0.length [.tmp 0])
noncomputable def aditref02_Block_l1 (p3 : AV × Heap) (p4 : AV × Heap) (vs5 : List AV) (H6 : Heap) : Option Res :=
(AV.bin .lss (vs5.getD 0 .top) (i64 10)).bd fun x7 =>
((x7).asB.bd fun b8 => bif b8 then (some (.norm, [], H6))
else (some (.exit 0, [], H6))).bd (andThen (fun vs9 => [(vs5.getD 0 .top)]) fun vs9 H10 =>
(((aditref02_two [p3.1] H10).bd fun p11 =>
some (.norm, [], p11.2)).bd (inBlock 1)).bd (andThen (fun vs12 => [(vs5.getD 0 .top)]) fun vs12 H13 =>
(AV.bin .add (vs5.getD 0 .top) (i64 1)).bd fun x14 =>
some (.norm, [x14], H13)))
noncomputable def aditref02_Block_l2 (p3 : AV × Heap) (p4 : AV × Heap) (H17 : Heap) (vs18 : List AV) (H19 : Heap) : Option Res :=
(AV.bin .lss (vs18.getD 0 .top) (i64 16)).bd fun x20 =>
((x20).asB.bd fun b21 => bif b21 then (some (.norm, [], H19))
else (some (.exit 2, [], H19))).bd (andThen (fun vs22 => [(vs18.getD 0 .top)]) fun vs22 H23 =>
(((AV.idxS 1 p3.1 (vs18.getD 0 .top)).bd fun x24 =>
(ld H23 none x24).bd fun x25 =>
(AV.idxS 1 p4.1 (vs18.getD 0 .top)).bd fun x26 =>
(ld H23 none x26).bd fun x27 =>
(AV.bin .add x25 x27).bd fun x28 =>
(AV.idxS 1 p3.1 (vs18.getD 0 .top)).bd fun x29 =>
(st H17.length H23 1 x29 x28).bd fun H30 =>
some (.norm, [], H30)).bd (inBlock 3)).bd (andThen (fun vs31 => [(vs18.getD 0 .top)]) fun vs31 H32 =>
(AV.bin .add (vs18.getD 0 .top) (i64 1)).bd fun x33 =>
some (.norm, [x33], H32)))
noncomputable def aditref02_Block : Fn := fun args H0 =>
((aditref01_Bytes [(args.getD 2 .top), (i64 4)] H0).bd fun p1 =>
(appendA p1.2 1 p1.1 (args.getD 1 .top)).bd fun p2 =>
(aditref02_First [(args.getD 0 .top), p2.1] p2.2).bd fun p3 =>
(aditref02_First [(args.getD 0 .top), p2.1] p3.2).bd fun p4 =>
(((loopD (fun vs H' => (aditref02_Block_l1 p3 p4 vs H').bd (roundEnd (p4.2).length)) [(i64 0)] p4.2).bd fun r15 => some (r15.1, [], r15.2.2)).bd (inBlock 0)).bd (andThen (fun vs16 => [(AV.nsl)]) fun vs16 H17 =>
(((loopD (fun vs H' => (aditref02_Block_l2 p3 p4 H17 vs H').bd (roundEnd (H17).length)) [(i64 0)] H17).bd fun r34 => some (r34.1, [], r34.2.2)).bd (inBlock 2)).bd (andThen (fun vs35 => [(AV.nsl)]) fun vs35 H36 =>
(aditref02_bytes [p3.1] H36).bd fun p37 =>
some (.ret, [p37.1], p37.2)))).bd (fnEnd H0.length [.tmp 0])
noncomputable def aditref02_Xor_l1 (args : List AV) (H5 : Heap) (vs6 : List AV) (H7 : Heap) : Option Res :=
(AV.len (args.getD 3 .top)).bd fun x8 =>
(AV.bin .lss (vs6.getD 5 .top) x8).bd fun x9 =>
((x9).asB.bd fun b10 => bif b10 then (some (.norm, [], H7))
else (some (.exit 0, [], H7))).bd (andThen (fun vs11 => [(vs6.getD 0 .top), (vs6.getD 1 .top), (vs6.getD 2 .top), (vs6.getD 3 .top), (vs6.getD 4 .top), (vs6.getD 5 .top)]) fun vs11 H12 =>
(((AV.bin .rem (vs6.getD 5 .top) (i64 64)).bd fun x13 =>
(AV.bin .eql x13 (i64 0)).bd fun x14 =>
((x14).asB.bd fun b15 => bif b15 then ((AV.bin .gtr (vs6.getD 0 .top) (u64 4294967295)).bd fun x16 =>
((x16).asB.bd fun b17 => bif b17 then (some (.ret, [(AV.nsl), (i64 2)], H12))
else (some (.norm, [(vs6.getD 1 .top), (vs6.getD 2 .top)], H12))).bd (andThen (fun vs18 => [(vs6.getD 0 .top), (vs18.getD 0 .top), (vs18.getD 1 .top), (vs6.getD 4 .top)]) fun vs18 H19 =>
(aditref02_Block [(args.getD 0 .top), (args.getD 1 .top), (vs6.getD 0 .top)] H19).bd fun p20 =>
(AV.bin .add (vs6.getD 0 .top) (u64 1)).bd fun x21 =>
some (.norm, [x21, (vs18.getD 0 .top), (vs18.getD 1 .top), p20.1], p20.2)))
else (some (.norm, [(vs6.getD 0 .top), (vs6.getD 1 .top), (vs6.getD 2 .top), (vs6.getD 4 .top)], H12))).bd (andThen (fun vs22 => [(vs22.getD 0 .top), (vs22.getD 1 .top), (vs22.getD 2 .top), (vs6.getD 3 .top), (vs22.getD 3 .top)]) fun vs22 H23 =>
(AV.idxS 1 (args.getD 3 .top) (vs6.getD 5 .top)).bd fun x24 =>
(ld H23 none x24).bd fun x25 =>
(AV.bin .rem (vs6.getD 5 .top) (i64 64)).bd fun x26 =>
(AV.idxS 1 (vs22.getD 3 .top) x26).bd fun x27 =>
(ld H23 none x27).bd fun x28 =>
(AV.bin .xor x25 x28).bd fun x29 =>
((fillA (zeros 1 [u8 0]) [(0, 1, x29)]).bd fun c => some (AV.sl H23.length 0 1 1 1, H23 ++ [Blk.rw c])).bd fun p30 =>
(appendA p30.2 1 (vs6.getD 3 .top) p30.1).bd fun p31 =>
some (.norm, [(vs22.getD 0 .top), (vs22.getD 1 .top), (vs22.getD 2 .top), p31.1, (vs22.getD 3 .top)], p31.2))).bd (inBlock 1)).bd (andThen (fun vs32 => [(vs32.getD 0 .top), (vs32.getD 1 .top), (vs32.getD 2 .top), (vs32.getD 3 .top), (vs32.getD 4 .top), (vs6.getD 5 .top)]) fun vs32 H33 =>
(AV.bin .add (vs6.getD 5 .top) (i64 1)).bd fun x34 =>
some (.norm, [(vs32.getD 0 .top), (vs32.getD 1 .top), (vs32.getD 2 .top), (vs32.getD 3 .top), (vs32.getD 4 .top), x34], H33)))
noncomputable def aditref02_Xor : Fn := fun args H0 =>
((AV.len (args.getD 3 .top)).bd fun x1 =>
(AV.bin .gtr x1 (i64 65536)).bd fun x2 =>
((x2).asB.bd fun b3 => bif b3 then (some (.ret, [(AV.nsl), (i64 2)], H0))
else (some (.norm, [(AV.nsl), (i64 0)], H0))).bd (andThen (fun vs4 => [(vs4.getD 0 .top), (vs4.getD 1 .top)]) fun vs4 H5 =>
(((loopD (fun vs H' => (aditref02_Xor_l1 args H5 vs H').bd (roundEnd (H5).length)) [(args.getD 2 .top), (vs4.getD 0 .top), (vs4.getD 1 .top), (AV.nsl), (AV.nsl), (i64 0)] H5).bd fun r35 => some (r35.1, [(r35.2.1.getD 1 .top), (r35.2.1.getD 2 .top), (r35.2.1.getD 3 .top)], r35.2.2)).bd (inBlock 0)).bd (andThen (fun vs36 => [(vs36.getD 0 .top), (vs36.getD 1 .top)]) fun vs36 H37 =>
some (.ret, [(vs36.getD 2 .top), (i64 0)], H37)))).bd (fnEnd H0.length [.tmp 0, .tmp 1])
noncomputable def aditref02_Derive_l1 (p1 : AV × Heap) (vs2 : List AV) (H3 : Heap) : Option Res :=
(AV.bin .lss (vs2.getD 0 .top) (i64 10)).bd fun x4 =>
((x4).asB.bd fun b5 => bif b5 then (some (.norm, [], H3))
else (some (.exit 0, [], H3))).bd (andThen (fun vs6 => [(vs2.getD 0 .top)]) fun vs6 H7 =>
(((aditref02_two [p1.1] H7).bd fun p8 =>
some (.norm, [], p8.2)).bd (inBlock 1)).bd (andThen (fun vs9 => [(vs2.getD 0 .top)]) fun vs9 H10 =>
(AV.bin .add (vs2.getD 0 .top) (i64 1)).bd fun x11 =>
some (.norm, [x11], H10)))
noncomputable def aditref02_Derive : Fn := fun args H0 =>
((aditref02_First [(args.getD 0 .top), (args.getD 1 .top)] H0).bd fun p1 =>
(((loopD (fun vs H' => (aditref02_Derive_l1 p1 vs H').bd (roundEnd (p1.2).length)) [(i64 0)] p1.2).bd fun r12 => some (r12.1, [], r12.2.2)).bd (inBlock 0)).bd (andThen (fun vs13 => [(AV.nsl)]) fun vs13 H14 =>
(AV.slcS 1 p1.1 none (some (i64 4)) none).bd fun x15 =>
(aditref02_bytes [x15] H14).bd fun p16 =>
(AV.slcS 1 p1.1 (some (i64 12)) none none).bd fun x17 =>
(aditref02_bytes [x17] p16.2).bd fun p18 =>
(appendA p18.2 1 p16.1 p18.1).bd fun p19 =>
some (.ret, [p19.1], p19.2))).bd (fnEnd H0.length [.tmp 0])
end Go.Sx
