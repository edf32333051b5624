import Derived.Test.YtkhkbenihjngpaaShAditref02
import Derived.Test.YtkhkbenihjngpaaShChacha
set_option linter.all false
namespace Go.Sx
open Go
set_option linter.unusedVariables false
set_option maxRecDepth 100000
noncomputable def aditlaw02_alive : Fn := fun args H0 =>
(((fillA (List.replicate 32 (u8 0)) []).bd fun c => some (AV.agg c)).bd fun x1 =>
((fillA (List.replicate 12 (u8 0)) []).bd fun c => some (AV.agg c)).bd fun x2 =>
(chacha_Block [x1, x2, (u32 0)] H0).bd fun p3 =>
(st H0.length (p3.2 ++ [Blk.rw (List.replicate 64 (u8 0))]) 64 (AV.ptr p3.2.length 0) p3.1).bd fun H4 =>
((fillA (List.replicate 32 (u8 0)) []).bd fun c => some (AV.agg c)).bd fun x5 =>
((fillA (List.replicate 12 (u8 0)) []).bd fun c => some (AV.agg c)).bd fun x6 =>
(mkSlA H4 [u8 0] 1 (i64 65) (i64 65)).bd fun p7 =>
(chacha_Xor [x5, x6, (u32 4294967295), p7.1] p7.2).bd fun p8 =>
(AV.ext 0 p8.1).bd fun x9 =>
(AV.ext 1 p8.1).bd fun x10 =>
(AV.idxP 64 1 (AV.ptr p3.2.length 0) (i64 0)).bd fun x11 =>
(ld p8.2 none x11).bd fun x12 =>
(AV.bin .eql x12 (u8 118)).bd fun x13 =>
(x13).asG.bd fun g14 =>
(gsel true g14 (AV.idxP 64 1 (AV.ptr p3.2.length 0) (i64 1)) (some (AV.tup []))).bd fun x15 =>
(x13).asG.bd fun g16 =>
(gsel true g16 (ld p8.2 none x15) (some (AV.tup []))).bd fun x17 =>
(x13).asG.bd fun g18 =>
(gsel true g18 (AV.bin .eql x17 (u8 184)) (some (AV.tup []))).bd fun x19 =>
(AV.pick x13 x19 (AV.bool false)).bd fun x20 =>
(x20).asG.bd fun g21 =>
(gsel true g21 (AV.idxP 64 1 (AV.ptr p3.2.length 0) (i64 2)) (some (AV.tup []))).bd fun x22 =>
(x20).asG.bd fun g23 =>
(gsel true g23 (ld p8.2 none x22) (some (AV.tup []))).bd fun x24 =>
(x20).asG.bd fun g25 =>
(gsel true g25 (AV.bin .eql x24 (u8 224)) (some (AV.tup []))).bd fun x26 =>
(AV.pick x20 x26 (AV.bool false)).bd fun x27 =>
(x27).asG.bd fun g28 =>
(gsel true g28 (AV.idxP 64 1 (AV.ptr p3.2.length 0) (i64 3)) (some (AV.tup []))).bd fun x29 =>
(x27).asG.bd fun g30 =>
(gsel true g30 (ld p8.2 none x29) (some (AV.tup []))).bd fun x31 =>
(x27).asG.bd fun g32 =>
(gsel true g32 (AV.bin .eql x31 (u8 173)) (some (AV.tup []))).bd fun x33 =>
(AV.pick x27 x33 (AV.bool false)).bd fun x34 =>
(x34).asG.bd fun g35 =>
(x34).asG.bd fun g36 =>
(gsel true g36 (AV.bin .eql (gsel true g35 x10 (AV.tup [])) (i64 2)) (some (AV.tup []))).bd fun x37 =>
(AV.pick x34 x37 (AV.bool false)).bd fun x38 =>
some (.ret, [x38], p8.2)).bd (fnEnd H0.length [.tmp 0])
noncomputable def aditlaw02_ChachaXors : Fn := fun args H0 =>
(((AV.vcells (args.getD 0 .top)).bd fun vs => some (AV.ptr H0.length 0, H0 ++ [Blk.rw vs])).bd fun p1 =>
((AV.vcells (args.getD 1 .top)).bd fun vs => some (AV.ptr p1.2.length 0, p1.2 ++ [Blk.rw vs])).bd fun p2 =>
(AV.len (args.getD 3 .top)).bd fun x3 =>
(AV.bin .gtr x3 (i64 700)).bd fun x4 =>
(x4).asG.bd fun g5 =>
(x4).asG.bd fun g6 =>
(gsel true g6 (AV.len (gsel true g5 (args.getD 3 .top) (AV.tup []))) (some (AV.tup []))).bd fun x7 =>
(x4).asG.bd fun g8 =>
(gsel true g8 (AV.bin .leq x7 (i64 65536)) (some (AV.tup []))).bd fun x9 =>
(AV.pick x4 x9 (AV.bool false)).bd fun x10 =>
(x10).asG.bd fun g11 =>
(x10).asG.bd fun g12 =>
(gsel false g12 (AV.len (gsel false g11 (args.getD 3 .top) (AV.tup []))) (some (AV.tup []))).bd fun x13 =>
(x10).asG.bd fun g14 =>
(gsel false g14 (AV.bin .gtr x13 (i64 65546)) (some (AV.tup []))).bd fun x15 =>
(AV.pick x10 (AV.bool true) x15).bd fun x16 =>
((x16).asB.bd fun b17 => bif b17 then ((aditlaw02_alive [] p2.2).bd fun p18 =>
some (.ret, [p18.1], p18.2))
else (some (.norm, [(AV.bool false)], p2.2))).bd (andThen (fun vs19 => [(vs19.getD 0 .top)]) fun vs19 H20 =>
(ld H20 (some 32) p1.1).bd fun x21 =>
(ld H20 (some 12) p2.1).bd fun x22 =>
(chacha_Xor [x21, x22, (args.getD 2 .top), (args.getD 3 .top)] H20).bd fun p23 =>
(AV.ext 0 p23.1).bd fun x24 =>
(AV.ext 1 p23.1).bd fun x25 =>
(AV.slcP 32 1 p1.1 none none none).bd fun x26 =>
(AV.slcP 12 1 p2.1 none none none).bd fun x27 =>
(AV.conv .u64 (args.getD 2 .top)).bd fun x28 =>
(aditref02_Xor [x26, x27, x28, (args.getD 3 .top)] p23.2).bd fun p29 =>
(AV.ext 0 p29.1).bd fun x30 =>
(AV.ext 1 p29.1).bd fun x31 =>
(aditlaw02_alive [] p29.2).bd fun p32 =>
(p32.1).asG.bd fun g33 =>
(p32.1).asG.bd fun g34 =>
(gsel true g34 ((srcCells p32.2 1 (gsel true g33 x24 (AV.tup []))).bd fun p => (bytesOf p.2).bd fun s => some (AV.str s)) (some (AV.tup []))).bd fun x35 =>
(p32.1).asG.bd fun g36 =>
(p32.1).asG.bd fun g37 =>
(gsel true g37 ((srcCells p32.2 1 (gsel true g36 x30 (AV.tup []))).bd fun p => (bytesOf p.2).bd fun s => some (AV.str s)) (some (AV.tup []))).bd fun x38 =>
(p32.1).asG.bd fun g39 =>
(gsel true g39 (AV.bin .eql x35 x38) (some (AV.tup []))).bd fun x40 =>
(AV.pick p32.1 x40 (AV.bool false)).bd fun x41 =>
(x41).asG.bd fun g42 =>
(x41).asG.bd fun g43 =>
(x41).asG.bd fun g44 =>
(gsel true g44 (AV.bin .eql (gsel true g42 x25 (AV.tup [])) (gsel true g43 x31 (AV.tup []))) (some (AV.tup []))).bd fun x45 =>
(AV.pick x41 x45 (AV.bool false)).bd fun x46 =>
some (.ret, [x46], p32.2))).bd (fnEnd H0.length [.tmp 0])
noncomputable def aditlaw02_ChachaTwice : Fn := fun args H0 =>
(((AV.vcells (args.getD 0 .top)).bd fun vs => some (AV.ptr H0.length 0, H0 ++ [Blk.rw vs])).bd fun p1 =>
((AV.vcells (args.getD 1 .top)).bd fun vs => some (AV.ptr p1.2.length 0, p1.2 ++ [Blk.rw vs])).bd fun p2 =>
(AV.len (args.getD 3 .top)).bd fun x3 =>
(AV.bin .gtr x3 (i64 2000)).bd fun x4 =>
((x4).asB.bd fun b5 => bif b5 then ((aditlaw02_alive [] p2.2).bd fun p6 =>
some (.ret, [p6.1], p6.2))
else (some (.norm, [(AV.bool false)], p2.2))).bd (andThen (fun vs7 => [(vs7.getD 0 .top)]) fun vs7 H8 =>
(ld H8 (some 32) p1.1).bd fun x9 =>
(ld H8 (some 12) p2.1).bd fun x10 =>
(chacha_Xor [x9, x10, (args.getD 2 .top), (args.getD 3 .top)] H8).bd fun p11 =>
(AV.ext 0 p11.1).bd fun x12 =>
(AV.ext 1 p11.1).bd fun x13 =>
(AV.bin .neq x13 (i64 0)).bd fun x14 =>
((x14).asB.bd fun b15 => bif b15 then ((aditlaw02_alive [] p11.2).bd fun p16 =>
(p16.1).asG.bd fun g17 =>
(p16.1).asG.bd fun g18 =>
(gsel true g18 (AV.len (gsel true g17 x12 (AV.tup []))) (some (AV.tup []))).bd fun x19 =>
(p16.1).asG.bd fun g20 =>
(gsel true g20 (AV.bin .eql x19 (i64 0)) (some (AV.tup []))).bd fun x21 =>
(AV.pick p16.1 x21 (AV.bool false)).bd fun x22 =>
some (.ret, [x22], p16.2))
else (some (.norm, [(vs7.getD 0 .top)], p11.2))).bd (andThen (fun vs23 => [(vs23.getD 0 .top)]) fun vs23 H24 =>
(ld H24 (some 32) p1.1).bd fun x25 =>
(ld H24 (some 12) p2.1).bd fun x26 =>
(chacha_Xor [x25, x26, (args.getD 2 .top), x12] H24).bd fun p27 =>
(AV.ext 0 p27.1).bd fun x28 =>
(AV.ext 1 p27.1).bd fun x29 =>
(aditlaw02_alive [] p27.2).bd fun p30 =>
(p30.1).asG.bd fun g31 =>
(p30.1).asG.bd fun g32 =>
(gsel true g32 (AV.bin .eql (gsel true g31 x29 (AV.tup [])) (i64 0)) (some (AV.tup []))).bd fun x33 =>
(AV.pick p30.1 x33 (AV.bool false)).bd fun x34 =>
(x34).asG.bd fun g35 =>
(x34).asG.bd fun g36 =>
(gsel true g36 ((srcCells p30.2 1 (gsel true g35 x28 (AV.tup []))).bd fun p => (bytesOf p.2).bd fun s => some (AV.str s)) (some (AV.tup []))).bd fun x37 =>
(x34).asG.bd fun g38 =>
(x34).asG.bd fun g39 =>
(gsel true g39 ((srcCells p30.2 1 (gsel true g38 (args.getD 3 .top) (AV.tup []))).bd fun p => (bytesOf p.2).bd fun s => some (AV.str s)) (some (AV.tup []))).bd fun x40 =>
(x34).asG.bd fun g41 =>
(gsel true g41 (AV.bin .eql x37 x40) (some (AV.tup []))).bd fun x42 =>
(AV.pick x34 x42 (AV.bool false)).bd fun x43 =>
some (.ret, [x43], p30.2)))).bd (fnEnd H0.length [.tmp 0])
noncomputable def aditlaw02_ChachaPieces : Fn := fun args H0 =>
(((AV.vcells (args.getD 0 .top)).bd fun vs => some (AV.ptr H0.length 0, H0 ++ [Blk.rw vs])).bd fun p1 =>
((AV.vcells (args.getD 1 .top)).bd fun vs => some (AV.ptr p1.2.length 0, p1.2 ++ [Blk.rw vs])).bd fun p2 =>
(AV.len (args.getD 3 .top)).bd fun x3 =>
(AV.bin .gtr x3 (i64 2000)).bd fun x4 =>
(x4).asG.bd fun g5 =>
(x4).asG.bd fun g6 =>
(gsel false g6 (AV.bin .lss (gsel false g5 (args.getD 4 .top) (AV.tup [])) (i64 0)) (some (AV.tup []))).bd fun x7 =>
(AV.pick x4 (AV.bool true) x7).bd fun x8 =>
(x8).asG.bd fun g9 =>
(x8).asG.bd fun g10 =>
(x8).asG.bd fun g11 =>
(gsel false g11 (AV.len (gsel false g10 (args.getD 3 .top) (AV.tup []))) (some (AV.tup []))).bd fun x12 =>
(x8).asG.bd fun g13 =>
(gsel false g13 (AV.bin .gtr (gsel false g9 (args.getD 4 .top) (AV.tup [])) x12) (some (AV.tup []))).bd fun x14 =>
(AV.pick x8 (AV.bool true) x14).bd fun x15 =>
((x15).asB.bd fun b16 => bif b16 then ((aditlaw02_alive [] p2.2).bd fun p17 =>
some (.ret, [p17.1], p17.2))
else (some (.norm, [(AV.bool false)], p2.2))).bd (andThen (fun vs18 => [(vs18.getD 0 .top)]) fun vs18 H19 =>
(ld H19 (some 32) p1.1).bd fun x20 =>
(ld H19 (some 12) p2.1).bd fun x21 =>
(chacha_Xor [x20, x21, (args.getD 2 .top), (args.getD 3 .top)] H19).bd fun p22 =>
(AV.ext 0 p22.1).bd fun x23 =>
(AV.ext 1 p22.1).bd fun x24 =>
(AV.bin .neq x24 (i64 0)).bd fun x25 =>
((x25).asB.bd fun b26 => bif b26 then ((aditlaw02_alive [] p22.2).bd fun p27 =>
some (.ret, [p27.1], p27.2))
else (some (.norm, [(vs18.getD 0 .top)], p22.2))).bd (andThen (fun vs28 => [(vs28.getD 0 .top)]) fun vs28 H29 =>
(AV.len x23).bd fun x30 =>
(AV.len (args.getD 3 .top)).bd fun x31 =>
(AV.bin .neq x30 x31).bd fun x32 =>
((x32).asB.bd fun b33 => bif b33 then (some (.ret, [(AV.bool false)], H29))
else (some (.norm, [(vs28.getD 0 .top)], H29))).bd (andThen (fun vs34 => [(vs34.getD 0 .top)]) fun vs34 H35 =>
(AV.bin .rem (args.getD 4 .top) (i64 64)).bd fun x36 =>
(AV.bin .sub (args.getD 4 .top) x36).bd fun x37 =>
(ld H35 (some 32) p1.1).bd fun x38 =>
(ld H35 (some 12) p2.1).bd fun x39 =>
(AV.slcS 1 (args.getD 3 .top) none (some x37) none).bd fun x40 =>
(chacha_Xor [x38, x39, (args.getD 2 .top), x40] H35).bd fun p41 =>
(AV.ext 0 p41.1).bd fun x42 =>
(AV.ext 1 p41.1).bd fun x43 =>
(ld p41.2 (some 32) p1.1).bd fun x44 =>
(ld p41.2 (some 12) p2.1).bd fun x45 =>
(AV.bin .quo x37 (i64 64)).bd fun x46 =>
(AV.conv .u32 x46).bd fun x47 =>
(AV.bin .add (args.getD 2 .top) x47).bd fun x48 =>
(AV.slcS 1 (args.getD 3 .top) (some x37) none none).bd fun x49 =>
(chacha_Xor [x44, x45, x48, x49] p41.2).bd fun p50 =>
(AV.ext 0 p50.1).bd fun x51 =>
(AV.ext 1 p50.1).bd fun x52 =>
(ld p50.2 (some 32) p1.1).bd fun x53 =>
(ld p50.2 (some 12) p2.1).bd fun x54 =>
(AV.slcS 1 (args.getD 3 .top) none (some (args.getD 4 .top)) none).bd fun x55 =>
(chacha_Xor [x53, x54, (args.getD 2 .top), x55] p50.2).bd fun p56 =>
(AV.ext 0 p56.1).bd fun x57 =>
(AV.ext 1 p56.1).bd fun x58 =>
(AV.len (args.getD 3 .top)).bd fun x59 =>
(AV.bin .eql x37 x59).bd fun x60 =>
((x60).asB.bd fun b61 => bif b61 then (some (.norm, [(AV.nsl), (i64 0)], p56.2))
else (some (.norm, [x51, x52], p56.2))).bd (andThen (fun vs62 => [(vs34.getD 0 .top)]) fun vs62 H63 =>
(aditlaw02_alive [] H63).bd fun p64 =>
(p64.1).asG.bd fun g65 =>
(p64.1).asG.bd fun g66 =>
(gsel true g66 (AV.bin .eql (gsel true g65 x43 (AV.tup [])) (i64 0)) (some (AV.tup []))).bd fun x67 =>
(AV.pick p64.1 x67 (AV.bool false)).bd fun x68 =>
(x68).asG.bd fun g69 =>
(x68).asG.bd fun g70 =>
(gsel true g70 (AV.bin .eql (gsel true g69 (vs62.getD 1 .top) (AV.tup [])) (i64 0)) (some (AV.tup []))).bd fun x71 =>
(AV.pick x68 x71 (AV.bool false)).bd fun x72 =>
(x72).asG.bd fun g73 =>
(x72).asG.bd fun g74 =>
(gsel true g74 (AV.bin .eql (gsel true g73 x58 (AV.tup [])) (i64 0)) (some (AV.tup []))).bd fun x75 =>
(AV.pick x72 x75 (AV.bool false)).bd fun x76 =>
(x76).asG.bd fun g77 =>
(x76).asG.bd fun g78 =>
(gsel true g78 ((srcCells p64.2 1 (gsel true g77 x42 (AV.tup []))).bd fun p => (bytesOf p.2).bd fun s => some (AV.str s)) (some (AV.tup []))).bd fun x79 =>
(x76).asG.bd fun g80 =>
(x76).asG.bd fun g81 =>
(gsel true g81 ((srcCells p64.2 1 (gsel true g80 (vs62.getD 0 .top) (AV.tup []))).bd fun p => (bytesOf p.2).bd fun s => some (AV.str s)) (some (AV.tup []))).bd fun x82 =>
(x76).asG.bd fun g83 =>
(gsel true g83 (AV.bin .add x79 x82) (some (AV.tup []))).bd fun x84 =>
(x76).asG.bd fun g85 =>
(x76).asG.bd fun g86 =>
(gsel true g86 ((srcCells p64.2 1 (gsel true g85 x23 (AV.tup []))).bd fun p => (bytesOf p.2).bd fun s => some (AV.str s)) (some (AV.tup []))).bd fun x87 =>
(x76).asG.bd fun g88 =>
(gsel true g88 (AV.bin .eql x84 x87) (some (AV.tup []))).bd fun x89 =>
(AV.pick x76 x89 (AV.bool false)).bd fun x90 =>
(x90).asG.bd fun g91 =>
(x90).asG.bd fun g92 =>
(gsel true g92 ((srcCells p64.2 1 (gsel true g91 x57 (AV.tup []))).bd fun p => (bytesOf p.2).bd fun s => some (AV.str s)) (some (AV.tup []))).bd fun x93 =>
(x90).asG.bd fun g94 =>
(x90).asG.bd fun g95 =>
(x90).asG.bd fun g96 =>
(gsel true g96 (AV.slcS 1 (gsel true g94 x23 (AV.tup [])) none (some (gsel true g95 (args.getD 4 .top) (AV.tup []))) none) (some (AV.tup []))).bd fun x97 =>
(x90).asG.bd fun g98 =>
(gsel true g98 ((srcCells p64.2 1 x97).bd fun p => (bytesOf p.2).bd fun s => some (AV.str s)) (some (AV.tup []))).bd fun x99 =>
(x90).asG.bd fun g100 =>
(gsel true g100 (AV.bin .eql x93 x99) (some (AV.tup []))).bd fun x101 =>
(AV.pick x90 x101 (AV.bool false)).bd fun x102 =>
some (.ret, [x102], p64.2)))))).bd (fnEnd H0.length [.tmp 0])
noncomputable def aditlaw02_ChachaPlaces_l1 (x21 : AV) (x26 : AV) (args : List AV) (H55 : Heap) (vs56 : List AV) (H57 : Heap) : Option Res :=
(AV.len x21).bd fun x58 =>
(AV.bin .lss (vs56.getD 1 .top) x58).bd fun x59 =>
((x59).asB.bd fun b60 => bif b60 then (some (.norm, [], H57))
else (some (.exit 0, [], H57))).bd (andThen (fun vs61 => [(vs56.getD 0 .top), (vs56.getD 1 .top)]) fun vs61 H62 =>
(((AV.idxS 1 x21 (vs56.getD 1 .top)).bd fun x63 =>
(ld H62 none x63).bd fun x64 =>
(AV.idxS 1 x26 (vs56.getD 1 .top)).bd fun x65 =>
(ld H62 none x65).bd fun x66 =>
(AV.bin .xor x64 x66).bd fun x67 =>
(AV.idxS 1 (args.getD 3 .top) (vs56.getD 1 .top)).bd fun x68 =>
(ld H62 none x68).bd fun x69 =>
(AV.idxS 1 (args.getD 4 .top) (vs56.getD 1 .top)).bd fun x70 =>
(ld H62 none x70).bd fun x71 =>
(AV.bin .xor x69 x71).bd fun x72 =>
(AV.bin .neq x67 x72).bd fun x73 =>
(x73).asB.bd fun b74 => bif b74 then (some (.ret, [(AV.bool false)], H62))
else (some (.norm, [(vs56.getD 0 .top)], H62))).bd (inBlock 1)).bd (andThen (fun vs75 => [(vs75.getD 0 .top), (vs56.getD 1 .top)]) fun vs75 H76 =>
(AV.bin .add (vs56.getD 1 .top) (i64 1)).bd fun x77 =>
some (.norm, [(vs75.getD 0 .top), x77], H76)))
noncomputable def aditlaw02_ChachaPlaces : Fn := fun args H0 =>
(((AV.vcells (args.getD 0 .top)).bd fun vs => some (AV.ptr H0.length 0, H0 ++ [Blk.rw vs])).bd fun p1 =>
((AV.vcells (args.getD 1 .top)).bd fun vs => some (AV.ptr p1.2.length 0, p1.2 ++ [Blk.rw vs])).bd fun p2 =>
(AV.len (args.getD 3 .top)).bd fun x3 =>
(AV.bin .gtr x3 (i64 1000)).bd fun x4 =>
(x4).asG.bd fun g5 =>
(x4).asG.bd fun g6 =>
(gsel false g6 (AV.len (gsel false g5 (args.getD 3 .top) (AV.tup []))) (some (AV.tup []))).bd fun x7 =>
(x4).asG.bd fun g8 =>
(x4).asG.bd fun g9 =>
(gsel false g9 (AV.len (gsel false g8 (args.getD 4 .top) (AV.tup []))) (some (AV.tup []))).bd fun x10 =>
(x4).asG.bd fun g11 =>
(gsel false g11 (AV.bin .neq x7 x10) (some (AV.tup []))).bd fun x12 =>
(AV.pick x4 (AV.bool true) x12).bd fun x13 =>
((x13).asB.bd fun b14 => bif b14 then ((aditlaw02_alive [] p2.2).bd fun p15 =>
some (.ret, [p15.1], p15.2))
else (some (.norm, [(AV.bool false)], p2.2))).bd (andThen (fun vs16 => [(vs16.getD 0 .top)]) fun vs16 H17 =>
(ld H17 (some 32) p1.1).bd fun x18 =>
(ld H17 (some 12) p2.1).bd fun x19 =>
(chacha_Xor [x18, x19, (args.getD 2 .top), (args.getD 3 .top)] H17).bd fun p20 =>
(AV.ext 0 p20.1).bd fun x21 =>
(AV.ext 1 p20.1).bd fun x22 =>
(ld p20.2 (some 32) p1.1).bd fun x23 =>
(ld p20.2 (some 12) p2.1).bd fun x24 =>
(chacha_Xor [x23, x24, (args.getD 2 .top), (args.getD 4 .top)] p20.2).bd fun p25 =>
(AV.ext 0 p25.1).bd fun x26 =>
(AV.ext 1 p25.1).bd fun x27 =>
(AV.bin .neq x22 x27).bd fun x28 =>
(x28).asG.bd fun g29 =>
(x28).asG.bd fun g30 =>
(gsel false g30 (AV.len (gsel false g29 x21 (AV.tup []))) (some (AV.tup []))).bd fun x31 =>
(x28).asG.bd fun g32 =>
(x28).asG.bd fun g33 =>
(gsel false g33 (AV.len (gsel false g32 x26 (AV.tup []))) (some (AV.tup []))).bd fun x34 =>
(x28).asG.bd fun g35 =>
(gsel false g35 (AV.bin .neq x31 x34) (some (AV.tup []))).bd fun x36 =>
(AV.pick x28 (AV.bool true) x36).bd fun x37 =>
(x37).asG.bd fun g38 =>
(x37).asG.bd fun g39 =>
(gsel false g39 (AV.bin .eql (gsel false g38 x22 (AV.tup [])) (i64 0)) (some (AV.tup []))).bd fun x40 =>
(x37).asG.bd fun g41 =>
((gsel false g41 x40 (AV.tup []))).asG.bd fun g42 =>
((gsel false g41 x40 (AV.tup []))).asG.bd fun g43 =>
(gsel true g43 (AV.len (gsel true g42 x21 (AV.tup []))) (some (AV.tup []))).bd fun x44 =>
((gsel false g41 x40 (AV.tup []))).asG.bd fun g45 =>
((gsel false g41 x40 (AV.tup []))).asG.bd fun g46 =>
(gsel true g46 (AV.len (gsel true g45 (args.getD 3 .top) (AV.tup []))) (some (AV.tup []))).bd fun x47 =>
((gsel false g41 x40 (AV.tup []))).asG.bd fun g48 =>
(gsel true g48 (AV.bin .neq x44 x47) (some (AV.tup []))).bd fun x49 =>
(x37).asG.bd fun g50 =>
(gsel false g50 (AV.pick (gsel false g41 x40 (AV.tup [])) x49 (AV.bool false)) (some (AV.tup []))).bd fun x51 =>
(AV.pick x37 (AV.bool true) x51).bd fun x52 =>
((x52).asB.bd fun b53 => bif b53 then (some (.ret, [(AV.bool false)], p25.2))
else (some (.norm, [(vs16.getD 0 .top)], p25.2))).bd (andThen (fun vs54 => [(vs54.getD 0 .top)]) fun vs54 H55 =>
(((loopD (fun vs H' => (aditlaw02_ChachaPlaces_l1 x21 x26 args H55 vs H').bd (roundEnd (H55).length)) [(vs54.getD 0 .top), (i64 0)] H55).bd fun r78 => some (r78.1, [(r78.2.1.getD 0 .top)], r78.2.2)).bd (inBlock 0)).bd (andThen (fun vs79 => [(vs79.getD 0 .top)]) fun vs79 H80 =>
(aditlaw02_alive [] H80).bd fun p81 =>
some (.ret, [p81.1], p81.2))))).bd (fnEnd H0.length [.tmp 0])
noncomputable def aditlaw02_ChachaBlocks : Fn := fun args H0 =>
(((AV.vcells (args.getD 0 .top)).bd fun vs => some (AV.ptr H0.length 0, H0 ++ [Blk.rw vs])).bd fun p1 =>
((AV.vcells (args.getD 1 .top)).bd fun vs => some (AV.ptr p1.2.length 0, p1.2 ++ [Blk.rw vs])).bd fun p2 =>
((AV.vcells (args.getD 3 .top)).bd fun vs => some (AV.ptr p2.2.length 0, p2.2 ++ [Blk.rw vs])).bd fun p3 =>
(ld p3.2 (some 32) p1.1).bd fun x4 =>
(ld p3.2 (some 12) p2.1).bd fun x5 =>
(chacha_Block [x4, x5, (args.getD 2 .top)] p3.2).bd fun p6 =>
(st H0.length (p6.2 ++ [Blk.rw (List.replicate 64 (u8 0))]) 64 (AV.ptr p6.2.length 0) p6.1).bd fun H7 =>
(ld H7 (some 32) p1.1).bd fun x8 =>
(ld H7 (some 16) p3.1).bd fun x9 =>
(chacha_Derive [x8, x9] H7).bd fun p10 =>
(st H0.length (p10.2 ++ [Blk.rw (List.replicate 32 (u8 0))]) 32 (AV.ptr p10.2.length 0) p10.1).bd fun H11 =>
(aditlaw02_alive [] H11).bd fun p12 =>
(p12.1).asG.bd fun g13 =>
(gsel true g13 (AV.slcP 64 1 (AV.ptr p6.2.length 0) none none none) (some (AV.tup []))).bd fun x14 =>
(p12.1).asG.bd fun g15 =>
(gsel true g15 ((srcCells p12.2 1 x14).bd fun p => (bytesOf p.2).bd fun s => some (AV.str s)) (some (AV.tup []))).bd fun x16 =>
(p12.1).asG.bd fun g17 =>
(gsel true g17 (AV.slcP 32 1 p1.1 none none none) (some (AV.tup []))).bd fun x18 =>
(p12.1).asG.bd fun g19 =>
(gsel true g19 (AV.slcP 12 1 p2.1 none none none) (some (AV.tup []))).bd fun x20 =>
(p12.1).asG.bd fun g21 =>
(p12.1).asG.bd fun g22 =>
(gsel true g22 (AV.conv .u64 (gsel true g21 (args.getD 2 .top) (AV.tup []))) (some (AV.tup []))).bd fun x23 =>
(p12.1).asG.bd fun g24 =>
(gsel true g24 (aditref02_Block [x18, x20, x23] p12.2) (some ((AV.tup []), p12.2))).bd fun p25 =>
(gsel true g24 ((chk ((srcCells p25.2 1 x14).bd fun p => (bytesOf p.2).bd fun s => some (AV.str s)) x16).bd fun _ => some ()) (some ())).bd fun _ =>
(p12.1).asG.bd fun g26 =>
(gsel true g26 ((srcCells p25.2 1 p25.1).bd fun p => (bytesOf p.2).bd fun s => some (AV.str s)) (some (AV.tup []))).bd fun x27 =>
(p12.1).asG.bd fun g28 =>
(gsel true g28 (AV.bin .eql x16 x27) (some (AV.tup []))).bd fun x29 =>
(AV.pick p12.1 x29 (AV.bool false)).bd fun x30 =>
(x30).asG.bd fun g31 =>
(gsel true g31 (AV.slcP 32 1 (AV.ptr p10.2.length 0) none none none) (some (AV.tup []))).bd fun x32 =>
(x30).asG.bd fun g33 =>
(gsel true g33 ((srcCells p25.2 1 x32).bd fun p => (bytesOf p.2).bd fun s => some (AV.str s)) (some (AV.tup []))).bd fun x34 =>
(x30).asG.bd fun g35 =>
(gsel true g35 (AV.slcP 32 1 p1.1 none none none) (some (AV.tup []))).bd fun x36 =>
(x30).asG.bd fun g37 =>
(gsel true g37 (AV.slcP 16 1 p3.1 none none none) (some (AV.tup []))).bd fun x38 =>
(x30).asG.bd fun g39 =>
(gsel true g39 (aditref02_Derive [x36, x38] p25.2) (some ((AV.tup []), p25.2))).bd fun p40 =>
(gsel true g39 ((chk ((srcCells p40.2 1 x32).bd fun p => (bytesOf p.2).bd fun s => some (AV.str s)) x34).bd fun _ => some ()) (some ())).bd fun _ =>
(x30).asG.bd fun g41 =>
(gsel true g41 ((srcCells p40.2 1 p40.1).bd fun p => (bytesOf p.2).bd fun s => some (AV.str s)) (some (AV.tup []))).bd fun x42 =>
(x30).asG.bd fun g43 =>
(gsel true g43 (AV.bin .eql x34 x42) (some (AV.tup []))).bd fun x44 =>
(AV.pick x30 x44 (AV.bool false)).bd fun x45 =>
some (.ret, [x45], p40.2)).bd (fnEnd H0.length [.tmp 0])
end Go.Sx
