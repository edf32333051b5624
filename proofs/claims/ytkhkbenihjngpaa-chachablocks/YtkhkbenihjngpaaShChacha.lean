import Derived.Test.YtkhkbenihjngpaaShWords
set_option linter.all false
namespace Go.Sx
open Go
set_option linter.unusedVariables false
set_option maxRecDepth 100000
noncomputable def chacha_first_l1 (p1 : AV × Heap) (p2 : AV × Heap) (H4 : Heap) (vs5 : List AV) (H6 : Heap) : Option Res :=
(AV.bin .lss (vs5.getD 0 .top) (i64 8)).bd fun x7 =>
((x7).asB.bd fun b8 => bif b8 then (some (.norm, [], H6))
else (some (.exit 0, [], H6))).bd (andThen (fun vs9 => [(vs5.getD 0 .top)]) fun vs9 H10 =>
(((AV.bin .add (i64 4) (vs5.getD 0 .top)).bd fun x11 =>
(AV.slcP 32 1 p1.1 none none none).bd fun x12 =>
(AV.bin .mul (i64 4) (vs5.getD 0 .top)).bd fun x13 =>
(words_Load32 [x12, x13] H10).bd fun p14 =>
(AV.ext 0 p14.1).bd fun x15 =>
(AV.ext 1 p14.1).bd fun x16 =>
(AV.idxP 16 1 (AV.ptr (p2.2 ++ [Blk.rw (List.replicate 16 (u32 0))]).length 0) x11).bd fun x17 =>
(st H4.length p14.2 1 x17 x15).bd fun H18 =>
some (.norm, [], H18)).bd (inBlock 1)).bd (andThen (fun vs19 => [(vs5.getD 0 .top)]) fun vs19 H20 =>
(AV.bin .add (vs5.getD 0 .top) (i64 1)).bd fun x21 =>
some (.norm, [x21], H20)))
noncomputable def chacha_first_l2 (p2 : AV × Heap) (H24 : Heap) (vs25 : List AV) (H26 : Heap) : Option Res :=
(AV.bin .lss (vs25.getD 0 .top) (i64 4)).bd fun x27 =>
((x27).asB.bd fun b28 => bif b28 then (some (.norm, [], H26))
else (some (.exit 2, [], H26))).bd (andThen (fun vs29 => [(vs25.getD 0 .top)]) fun vs29 H30 =>
(((AV.bin .add (i64 12) (vs25.getD 0 .top)).bd fun x31 =>
(AV.slcP 16 1 p2.1 none none none).bd fun x32 =>
(AV.bin .mul (i64 4) (vs25.getD 0 .top)).bd fun x33 =>
(words_Load32 [x32, x33] H30).bd fun p34 =>
(AV.ext 0 p34.1).bd fun x35 =>
(AV.ext 1 p34.1).bd fun x36 =>
(AV.idxP 16 1 (AV.ptr (p2.2 ++ [Blk.rw (List.replicate 16 (u32 0))]).length 0) x31).bd fun x37 =>
(st H24.length p34.2 1 x37 x35).bd fun H38 =>
some (.norm, [], H38)).bd (inBlock 3)).bd (andThen (fun vs39 => [(vs25.getD 0 .top)]) fun vs39 H40 =>
(AV.bin .add (vs25.getD 0 .top) (i64 1)).bd fun x41 =>
some (.norm, [x41], H40)))
noncomputable def chacha_first : Fn := fun args H0 =>
(((AV.vcells (args.getD 0 .top)).bd fun vs => some (AV.ptr H0.length 0, H0 ++ [Blk.rw vs])).bd fun p1 =>
((AV.vcells (args.getD 1 .top)).bd fun vs => some (AV.ptr p1.2.length 0, p1.2 ++ [Blk.rw vs])).bd fun p2 =>
((fillA (List.replicate 16 (u32 0)) [(0, 1, (u32 1634760805)), (1, 1, (u32 857760878)), (2, 1, (u32 2036477234)), (3, 1, (u32 1797285236))]).bd fun c => some (AV.agg c)).bd fun x3 =>
(st H0.length ((p2.2 ++ [Blk.rw (List.replicate 16 (u32 0))]) ++ [Blk.rw (List.replicate 16 (u32 0))]) 16 (AV.ptr (p2.2 ++ [Blk.rw (List.replicate 16 (u32 0))]).length 0) x3).bd fun H4 =>
(((loopD (fun vs H' => (chacha_first_l1 p1 p2 H4 vs H').bd (roundEnd (H4).length)) [(i64 0)] H4).bd fun r22 => some (r22.1, [], r22.2.2)).bd (inBlock 0)).bd (andThen (fun vs23 => [(AV.ptr p2.2.length 0)]) fun vs23 H24 =>
(((loopD (fun vs H' => (chacha_first_l2 p2 H24 vs H').bd (roundEnd (H24).length)) [(i64 0)] H24).bd fun r42 => some (r42.1, [], r42.2.2)).bd (inBlock 2)).bd (andThen (fun vs43 => [(AV.ptr p2.2.length 0)]) fun vs43 H44 =>
(ld H44 (some 16) (AV.ptr (p2.2 ++ [Blk.rw (List.replicate 16 (u32 0))]).length 0)).bd fun x45 =>
(st H0.length H44 16 (AV.ptr p2.2.length 0) x45).bd fun H46 =>
some (.ret, [(AV.ptr p2.2.length 0)], H46)))).bd (fnEnd H0.length [.cell 0 (some 16)])
noncomputable def chacha_state_quarter : Fn := fun args H0 =>
((AV.nilck (args.getD 0 .top)).bd fun x1 =>
(AV.idxP 16 1 x1 (args.getD 1 .top)).bd fun x2 =>
(ld H0 none x2).bd fun x3 =>
(AV.nilck (args.getD 0 .top)).bd fun x4 =>
(AV.idxP 16 1 x4 (args.getD 2 .top)).bd fun x5 =>
(ld H0 none x5).bd fun x6 =>
(AV.nilck (args.getD 0 .top)).bd fun x7 =>
(AV.idxP 16 1 x7 (args.getD 3 .top)).bd fun x8 =>
(ld H0 none x8).bd fun x9 =>
(AV.nilck (args.getD 0 .top)).bd fun x10 =>
(AV.idxP 16 1 x10 (args.getD 4 .top)).bd fun x11 =>
(ld H0 none x11).bd fun x12 =>
(AV.bin .add x3 x6).bd fun x13 =>
(AV.bin .xor x12 x13).bd fun x14 =>
(words_Rotate [x14, (i64 16)] H0).bd fun p15 =>
(AV.bin .add x9 p15.1).bd fun x16 =>
(AV.bin .xor x6 x16).bd fun x17 =>
(words_Rotate [x17, (i64 12)] p15.2).bd fun p18 =>
(AV.bin .add x13 p18.1).bd fun x19 =>
(AV.bin .xor p15.1 x19).bd fun x20 =>
(words_Rotate [x20, (i64 8)] p18.2).bd fun p21 =>
(AV.bin .add x16 p21.1).bd fun x22 =>
(AV.bin .xor p18.1 x22).bd fun x23 =>
(words_Rotate [x23, (i64 7)] p21.2).bd fun p24 =>
(AV.nilck (args.getD 0 .top)).bd fun x25 =>
(AV.idxP 16 1 x25 (args.getD 1 .top)).bd fun x26 =>
(st H0.length p24.2 1 x26 x19).bd fun H27 =>
(AV.nilck (args.getD 0 .top)).bd fun x28 =>
(AV.idxP 16 1 x28 (args.getD 2 .top)).bd fun x29 =>
(st H0.length H27 1 x29 p24.1).bd fun H30 =>
(AV.nilck (args.getD 0 .top)).bd fun x31 =>
(AV.idxP 16 1 x31 (args.getD 3 .top)).bd fun x32 =>
(st H0.length H30 1 x32 x22).bd fun H33 =>
(AV.nilck (args.getD 0 .top)).bd fun x34 =>
(AV.idxP 16 1 x34 (args.getD 4 .top)).bd fun x35 =>
(st H0.length H33 1 x35 p21.1).bd fun H36 =>
some (.norm, [], H36)).bd (fnEnd H0.length [])
noncomputable def chacha_state_rounds_l2 (args : List AV) (H6 : Heap) (vs7 : List AV) (H8 : Heap) : Option Res :=
(AV.bin .lss (vs7.getD 0 .top) (i64 4)).bd fun x9 =>
((x9).asB.bd fun b10 => bif b10 then (some (.norm, [], H8))
else (some (.exit 2, [], H8))).bd (andThen (fun vs11 => [(vs7.getD 0 .top)]) fun vs11 H12 =>
(((AV.bin .add (vs7.getD 0 .top) (i64 4)).bd fun x13 =>
(AV.bin .add (vs7.getD 0 .top) (i64 8)).bd fun x14 =>
(AV.bin .add (vs7.getD 0 .top) (i64 12)).bd fun x15 =>
(chacha_state_quarter [(args.getD 0 .top), (vs7.getD 0 .top), x13, x14, x15] H12).bd fun p16 =>
some (.norm, [], p16.2)).bd (inBlock 3)).bd (andThen (fun vs17 => [(vs7.getD 0 .top)]) fun vs17 H18 =>
(AV.bin .add (vs7.getD 0 .top) (i64 1)).bd fun x19 =>
some (.norm, [x19], H18)))
noncomputable def chacha_state_rounds_l3 (args : List AV) (H22 : Heap) (vs23 : List AV) (H24 : Heap) : Option Res :=
(AV.bin .lss (vs23.getD 0 .top) (i64 4)).bd fun x25 =>
((x25).asB.bd fun b26 => bif b26 then (some (.norm, [], H24))
else (some (.exit 4, [], H24))).bd (andThen (fun vs27 => [(vs23.getD 0 .top)]) fun vs27 H28 =>
(((AV.bin .add (vs23.getD 0 .top) (i64 1)).bd fun x29 =>
(AV.bin .rem x29 (i64 4)).bd fun x30 =>
(AV.bin .add (i64 4) x30).bd fun x31 =>
(AV.bin .add (vs23.getD 0 .top) (i64 2)).bd fun x32 =>
(AV.bin .rem x32 (i64 4)).bd fun x33 =>
(AV.bin .add (i64 8) x33).bd fun x34 =>
(AV.bin .add (vs23.getD 0 .top) (i64 3)).bd fun x35 =>
(AV.bin .rem x35 (i64 4)).bd fun x36 =>
(AV.bin .add (i64 12) x36).bd fun x37 =>
(chacha_state_quarter [(args.getD 0 .top), (vs23.getD 0 .top), x31, x34, x37] H28).bd fun p38 =>
some (.norm, [], p38.2)).bd (inBlock 5)).bd (andThen (fun vs39 => [(vs23.getD 0 .top)]) fun vs39 H40 =>
(AV.bin .add (vs23.getD 0 .top) (i64 1)).bd fun x41 =>
some (.norm, [x41], H40)))
noncomputable def chacha_state_rounds_l1 (args : List AV) (H0 : Heap) (vs1 : List AV) (H2 : Heap) : Option Res :=
(AV.bin .lss (vs1.getD 0 .top) (i64 10)).bd fun x3 =>
((x3).asB.bd fun b4 => bif b4 then (some (.norm, [], H2))
else (some (.exit 0, [], H2))).bd (andThen (fun vs5 => [(vs1.getD 0 .top)]) fun vs5 H6 =>
(((((loopD (fun vs H' => (chacha_state_rounds_l2 args H6 vs H').bd (roundEnd (H6).length)) [(i64 0)] H6).bd fun r20 => some (r20.1, [], r20.2.2)).bd (inBlock 2)).bd (andThen (fun vs21 => []) fun vs21 H22 =>
((loopD (fun vs H' => (chacha_state_rounds_l3 args H22 vs H').bd (roundEnd (H22).length)) [(i64 0)] H22).bd fun r42 => some (r42.1, [], r42.2.2)).bd (inBlock 4))).bd (inBlock 1)).bd (andThen (fun vs43 => [(vs1.getD 0 .top)]) fun vs43 H44 =>
(AV.bin .add (vs1.getD 0 .top) (i64 1)).bd fun x45 =>
some (.norm, [x45], H44)))
noncomputable def chacha_state_rounds : Fn := fun args H0 =>
(((loopD (fun vs H' => (chacha_state_rounds_l1 args H0 vs H').bd (roundEnd (H0).length)) [(i64 0)] H0).bd fun r46 => some (r46.1, [], r46.2.2)).bd (inBlock 0)).bd (fnEnd H0.length [])
noncomputable def chacha_Block_l1 (p13 : AV × Heap) (H14 : Heap) (H20 : Heap) (p17 : AV × Heap) (vs18 : List AV) (H19 : Heap) : Option Res :=
(AV.bin .lss (vs18.getD 0 .top) (i64 16)).bd fun x21 =>
((x21).asB.bd fun b22 => bif b22 then (some (.norm, [], H19))
else (some (.exit 0, [], H19))).bd (andThen (fun vs23 => [(vs18.getD 0 .top)]) fun vs23 H24 =>
(((AV.idxP 16 1 (AV.ptr p13.2.length 0) (vs18.getD 0 .top)).bd fun x25 =>
(ld H24 none x25).bd fun x26 =>
(AV.idxP 16 1 (AV.ptr H14.length 0) (vs18.getD 0 .top)).bd fun x27 =>
(ld H24 none x27).bd fun x28 =>
(AV.bin .add x26 x28).bd fun x29 =>
(words_Put32 [x29] H24).bd fun p30 =>
(st H20.length (p30.2 ++ [Blk.rw [u8 0, u8 0, u8 0, u8 0]]) 4 (AV.ptr p30.2.length 0) p30.1).bd fun H31 =>
(AV.bin .mul (i64 4) (vs18.getD 0 .top)).bd fun x32 =>
(AV.slcP 64 1 (AV.ptr p17.2.length 0) (some x32) none none).bd fun x33 =>
(AV.slcP 4 1 (AV.ptr p30.2.length 0) none none none).bd fun x34 =>
(copyA H20.length H31 1 x33 x34).bd fun p35 =>
some (.norm, [], p35.2)).bd (inBlock 1)).bd (andThen (fun vs36 => [(vs18.getD 0 .top)]) fun vs36 H37 =>
(AV.bin .add (vs18.getD 0 .top) (i64 1)).bd fun x38 =>
some (.norm, [x38], H37)))
noncomputable def chacha_Block : Fn := fun args H0 =>
(((AV.vcells (args.getD 0 .top)).bd fun vs => some (AV.ptr H0.length 0, H0 ++ [Blk.rw vs])).bd fun p1 =>
((AV.vcells (args.getD 1 .top)).bd fun vs => some (AV.ptr p1.2.length 0, p1.2 ++ [Blk.rw vs])).bd fun p2 =>
(words_Put32 [(args.getD 2 .top)] ((p2.2 ++ [Blk.rw (List.replicate 64 (u8 0))]) ++ [Blk.rw (List.replicate 16 (u8 0))])).bd fun p3 =>
(st H0.length (p3.2 ++ [Blk.rw [u8 0, u8 0, u8 0, u8 0]]) 4 (AV.ptr p3.2.length 0) p3.1).bd fun H4 =>
(AV.slcP 16 1 (AV.ptr (p2.2 ++ [Blk.rw (List.replicate 64 (u8 0))]).length 0) none (some (i64 4)) none).bd fun x5 =>
(AV.slcP 4 1 (AV.ptr p3.2.length 0) none none none).bd fun x6 =>
(copyA H0.length H4 1 x5 x6).bd fun p7 =>
(AV.slcP 16 1 (AV.ptr (p2.2 ++ [Blk.rw (List.replicate 64 (u8 0))]).length 0) (some (i64 4)) none none).bd fun x8 =>
(AV.slcP 12 1 p2.1 none none none).bd fun x9 =>
(copyA H0.length p7.2 1 x8 x9).bd fun p10 =>
(ld p10.2 (some 32) p1.1).bd fun x11 =>
(ld p10.2 (some 16) (AV.ptr (p2.2 ++ [Blk.rw (List.replicate 64 (u8 0))]).length 0)).bd fun x12 =>
(chacha_first [x11, x12] p10.2).bd fun p13 =>
(st H0.length (p13.2 ++ [Blk.rw (List.replicate 16 (u32 0))]) 16 (AV.ptr p13.2.length 0) p13.1).bd fun H14 =>
(ld H14 (some 16) (AV.ptr p13.2.length 0)).bd fun x15 =>
(st H0.length (H14 ++ [Blk.rw (List.replicate 16 (u32 0))]) 16 (AV.ptr H14.length 0) x15).bd fun H16 =>
(chacha_state_rounds [(AV.ptr p13.2.length 0)] H16).bd fun p17 =>
(((loopD (fun vs H' => (chacha_Block_l1 p13 H14 (p17.2 ++ [Blk.rw (List.replicate 64 (u8 0))]) p17 vs H').bd (roundEnd ((p17.2 ++ [Blk.rw (List.replicate 64 (u8 0))])).length)) [(i64 0)] (p17.2 ++ [Blk.rw (List.replicate 64 (u8 0))])).bd fun r39 => some (r39.1, [], r39.2.2)).bd (inBlock 0)).bd (andThen (fun vs40 => [(AV.ptr p2.2.length 0)]) fun vs40 H41 =>
(ld H41 (some 64) (AV.ptr p17.2.length 0)).bd fun x42 =>
(st H0.length H41 64 (AV.ptr p2.2.length 0) x42).bd fun H43 =>
some (.ret, [(AV.ptr p2.2.length 0)], H43))).bd (fnEnd H0.length [.cell 0 (some 64)])
noncomputable def chacha_Xor_l2 (vs23 : List AV) (args : List AV) (p32 : AV × Heap) (p22 : AV × Heap) (H33 : Heap) (vs34 : List AV) (H35 : Heap) : Option Res :=
(AV.bin .add (vs23.getD 1 .top) (i64 64)).bd fun x36 =>
(AV.len (args.getD 3 .top)).bd fun x37 =>
(foldA AV.min2 x36 [x37]).bd fun x38 =>
(AV.bin .lss (vs34.getD 0 .top) x38).bd fun x39 =>
((x39).asB.bd fun b40 => bif b40 then (some (.norm, [], H35))
else (some (.exit 2, [], H35))).bd (andThen (fun vs41 => [(vs34.getD 0 .top)]) fun vs41 H42 =>
(((AV.idxS 1 (args.getD 3 .top) (vs34.getD 0 .top)).bd fun x43 =>
(ld H42 none x43).bd fun x44 =>
(AV.bin .sub (vs34.getD 0 .top) (vs23.getD 1 .top)).bd fun x45 =>
(AV.idxP 64 1 (AV.ptr p32.2.length 0) x45).bd fun x46 =>
(ld H42 none x46).bd fun x47 =>
(AV.bin .xor x44 x47).bd fun x48 =>
(AV.idxS 1 p22.1 (vs34.getD 0 .top)).bd fun x49 =>
(st H33.length H42 1 x49 x48).bd fun H50 =>
some (.norm, [], H50)).bd (inBlock 3)).bd (andThen (fun vs51 => [(vs34.getD 0 .top)]) fun vs51 H52 =>
(AV.bin .add (vs34.getD 0 .top) (i64 1)).bd fun x53 =>
some (.norm, [x53], H52)))
noncomputable def chacha_Xor_l1 (args : List AV) (p1 : AV × Heap) (p2 : AV × Heap) (p22 : AV × Heap) (vs23 : List AV) (H24 : Heap) : Option Res :=
(AV.len (args.getD 3 .top)).bd fun x25 =>
(AV.bin .lss (vs23.getD 1 .top) x25).bd fun x26 =>
((x26).asB.bd fun b27 => bif b27 then (some (.norm, [], H24))
else (some (.exit 0, [], H24))).bd (andThen (fun vs28 => [(vs23.getD 0 .top), (vs23.getD 1 .top)]) fun vs28 H29 =>
(((ld H29 (some 32) p1.1).bd fun x30 =>
(ld H29 (some 12) p2.1).bd fun x31 =>
(chacha_Block [x30, x31, (vs23.getD 0 .top)] H29).bd fun p32 =>
(st p22.2.length (p32.2 ++ [Blk.rw (List.replicate 64 (u8 0))]) 64 (AV.ptr p32.2.length 0) p32.1).bd fun H33 =>
(((loopD (fun vs H' => (chacha_Xor_l2 vs23 args p32 p22 H33 vs H').bd (roundEnd (H33).length)) [(vs23.getD 1 .top)] H33).bd fun r54 => some (r54.1, [], r54.2.2)).bd (inBlock 2)).bd (andThen (fun vs55 => [(vs23.getD 0 .top)]) fun vs55 H56 =>
(AV.bin .add (vs23.getD 0 .top) (u32 1)).bd fun x57 =>
some (.norm, [x57], H56))).bd (inBlock 1)).bd (andThen (fun vs58 => [(vs58.getD 0 .top), (vs23.getD 1 .top)]) fun vs58 H59 =>
(AV.bin .add (vs23.getD 1 .top) (i64 64)).bd fun x60 =>
some (.norm, [(vs58.getD 0 .top), x60], H59)))
noncomputable def chacha_Xor : Fn := fun args H0 =>
(((AV.vcells (args.getD 0 .top)).bd fun vs => some (AV.ptr H0.length 0, H0 ++ [Blk.rw vs])).bd fun p1 =>
((AV.vcells (args.getD 1 .top)).bd fun vs => some (AV.ptr p1.2.length 0, p1.2 ++ [Blk.rw vs])).bd fun p2 =>
(AV.len (args.getD 3 .top)).bd fun x3 =>
(AV.bin .add x3 (i64 63)).bd fun x4 =>
(AV.conv .u64 x4).bd fun x5 =>
(AV.bin .quo x5 (u64 64)).bd fun x6 =>
(AV.len (args.getD 3 .top)).bd fun x7 =>
(AV.bin .gtr x7 (i64 65536)).bd fun x8 =>
(x8).asG.bd fun g9 =>
(x8).asG.bd fun g10 =>
(gsel false g10 (AV.conv .u64 (gsel false g9 (args.getD 2 .top) (AV.tup []))) (some (AV.tup []))).bd fun x11 =>
(x8).asG.bd fun g12 =>
(x8).asG.bd fun g13 =>
(gsel false g13 (AV.bin .add x11 (gsel false g12 x6 (AV.tup []))) (some (AV.tup []))).bd fun x14 =>
(x8).asG.bd fun g15 =>
(gsel false g15 (AV.bin .gtr x14 (u64 4294967296)) (some (AV.tup []))).bd fun x16 =>
(AV.pick x8 (AV.bool true) x16).bd fun x17 =>
((x17).asB.bd fun b18 => bif b18 then (some (.ret, [(AV.nsl), (i64 2)], p2.2))
else (some (.norm, [(AV.nsl), (i64 0)], p2.2))).bd (andThen (fun vs19 => [(vs19.getD 0 .top), (vs19.getD 1 .top)]) fun vs19 H20 =>
(AV.len (args.getD 3 .top)).bd fun x21 =>
(mkSlA H20 [u8 0] 1 x21 x21).bd fun p22 =>
(((loopD (fun vs H' => (chacha_Xor_l1 args p1 p2 p22 vs H').bd (roundEnd (p22.2).length)) [(args.getD 2 .top), (i64 0)] p22.2).bd fun r61 => some (r61.1, [], r61.2.2)).bd (inBlock 0)).bd (andThen (fun vs62 => [(vs19.getD 0 .top), (vs19.getD 1 .top)]) fun vs62 H63 =>
some (.ret, [p22.1, (i64 0)], H63)))).bd (fnEnd H0.length [.tmp 0, .tmp 1])
noncomputable def chacha_Derive_l1 (p5 : AV × Heap) (H10 : Heap) (p7 : AV × Heap) (vs8 : List AV) (H9 : Heap) : Option Res :=
(AV.bin .lss (vs8.getD 0 .top) (i64 4)).bd fun x11 =>
((x11).asB.bd fun b12 => bif b12 then (some (.norm, [], H9))
else (some (.exit 0, [], H9))).bd (andThen (fun vs13 => [(vs8.getD 0 .top)]) fun vs13 H14 =>
(((AV.idxP 16 1 (AV.ptr p5.2.length 0) (vs8.getD 0 .top)).bd fun x15 =>
(ld H14 none x15).bd fun x16 =>
(AV.bin .add (i64 12) (vs8.getD 0 .top)).bd fun x17 =>
(AV.idxP 16 1 (AV.ptr p5.2.length 0) x17).bd fun x18 =>
(ld H14 none x18).bd fun x19 =>
(words_Put32 [x16] H14).bd fun p20 =>
(chk (ld p20.2 none x18) x19).bd fun _ =>
(words_Put32 [x19] p20.2).bd fun p21 =>
(st H10.length ((p21.2 ++ [Blk.rw [u8 0, u8 0, u8 0, u8 0]]) ++ [Blk.rw [u8 0, u8 0, u8 0, u8 0]]) 4 (AV.ptr p21.2.length 0) p20.1).bd fun H22 =>
(st H10.length H22 4 (AV.ptr (p21.2 ++ [Blk.rw [u8 0, u8 0, u8 0, u8 0]]).length 0) p21.1).bd fun H23 =>
(AV.bin .mul (i64 4) (vs8.getD 0 .top)).bd fun x24 =>
(AV.slcP 32 1 (AV.ptr p7.2.length 0) (some x24) none none).bd fun x25 =>
(AV.slcP 4 1 (AV.ptr p21.2.length 0) none none none).bd fun x26 =>
(copyA H10.length H23 1 x25 x26).bd fun p27 =>
(AV.bin .mul (i64 4) (vs8.getD 0 .top)).bd fun x28 =>
(AV.bin .add (i64 16) x28).bd fun x29 =>
(AV.slcP 32 1 (AV.ptr p7.2.length 0) (some x29) none none).bd fun x30 =>
(AV.slcP 4 1 (AV.ptr (p21.2 ++ [Blk.rw [u8 0, u8 0, u8 0, u8 0]]).length 0) none none none).bd fun x31 =>
(copyA H10.length p27.2 1 x30 x31).bd fun p32 =>
some (.norm, [], p32.2)).bd (inBlock 1)).bd (andThen (fun vs33 => [(vs8.getD 0 .top)]) fun vs33 H34 =>
(AV.bin .add (vs8.getD 0 .top) (i64 1)).bd fun x35 =>
some (.norm, [x35], H34)))
noncomputable def chacha_Derive : Fn := fun args H0 =>
(((AV.vcells (args.getD 0 .top)).bd fun vs => some (AV.ptr H0.length 0, H0 ++ [Blk.rw vs])).bd fun p1 =>
((AV.vcells (args.getD 1 .top)).bd fun vs => some (AV.ptr p1.2.length 0, p1.2 ++ [Blk.rw vs])).bd fun p2 =>
(ld (p2.2 ++ [Blk.rw (List.replicate 32 (u8 0))]) (some 32) p1.1).bd fun x3 =>
(ld (p2.2 ++ [Blk.rw (List.replicate 32 (u8 0))]) (some 16) p2.1).bd fun x4 =>
(chacha_first [x3, x4] (p2.2 ++ [Blk.rw (List.replicate 32 (u8 0))])).bd fun p5 =>
(st H0.length (p5.2 ++ [Blk.rw (List.replicate 16 (u32 0))]) 16 (AV.ptr p5.2.length 0) p5.1).bd fun H6 =>
(chacha_state_rounds [(AV.ptr p5.2.length 0)] H6).bd fun p7 =>
(((loopD (fun vs H' => (chacha_Derive_l1 p5 (p7.2 ++ [Blk.rw (List.replicate 32 (u8 0))]) p7 vs H').bd (roundEnd ((p7.2 ++ [Blk.rw (List.replicate 32 (u8 0))])).length)) [(i64 0)] (p7.2 ++ [Blk.rw (List.replicate 32 (u8 0))])).bd fun r36 => some (r36.1, [], r36.2.2)).bd (inBlock 0)).bd (andThen (fun vs37 => [(AV.ptr p2.2.length 0)]) fun vs37 H38 =>
(ld H38 (some 32) (AV.ptr p7.2.length 0)).bd fun x39 =>
(st H0.length H38 32 (AV.ptr p2.2.length 0) x39).bd fun H40 =>
some (.ret, [(AV.ptr p2.2.length 0)], H40))).bd (fnEnd H0.length [.cell 0 (some 32)])
end Go.Sx
