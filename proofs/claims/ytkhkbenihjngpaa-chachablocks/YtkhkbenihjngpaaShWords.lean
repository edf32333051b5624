import Derived.Test.YtkhkbenihjngpaaBaseC
set_option linter.all false
namespace Go.Sx
open Go
set_option linter.unusedVariables false
set_option maxRecDepth 100000
noncomputable def words_Put32 : Fn := fun args H0 =>
((AV.conv .u8 (args.getD 0 .top)).bd fun x1 =>
(AV.bin .shr (args.getD 0 .top) (u64 8)).bd fun x2 =>
(AV.conv .u8 x2).bd fun x3 =>
(AV.bin .shr (args.getD 0 .top) (u64 16)).bd fun x4 =>
(AV.conv .u8 x4).bd fun x5 =>
(AV.bin .shr (args.getD 0 .top) (u64 24)).bd fun x6 =>
(AV.conv .u8 x6).bd fun x7 =>
((fillA [u8 0, u8 0, u8 0, u8 0] [(0, 1, x1), (1, 1, x3), (2, 1, x5), (3, 1, x7)]).bd fun c => some (AV.agg c)).bd fun x8 =>
(st H0.length (H0 ++ [Blk.rw [u8 0, u8 0, u8 0, u8 0]]) 4 (AV.ptr H0.length 0) x8).bd fun H9 =>
some (.ret, [(AV.ptr H0.length 0)], H9)).bd (fnEnd H0.length [.cell 0 (some 4)])
noncomputable def words_reach : Fn := fun args H0 =>
((((AV.bin .lss (args.getD 1 .top) (i64 0)).bd fun x1 =>
(x1).asB.bd fun b2 => bif b2 then (some (.ret, [(i64 1)], H0))
else ((AV.len (args.getD 0 .top)).bd fun x3 =>
(AV.bin .gtr (args.getD 1 .top) x3).bd fun x4 =>
(x4).asG.bd fun g5 =>
(x4).asG.bd fun g6 =>
(gsel false g6 (AV.len (gsel false g5 (args.getD 0 .top) (AV.tup []))) (some (AV.tup []))).bd fun x7 =>
(x4).asG.bd fun g8 =>
(x4).asG.bd fun g9 =>
(gsel false g9 (AV.bin .sub x7 (gsel false g8 (args.getD 1 .top) (AV.tup []))) (some (AV.tup []))).bd fun x10 =>
(x4).asG.bd fun g11 =>
(x4).asG.bd fun g12 =>
(gsel false g12 (AV.bin .lss x10 (gsel false g11 (args.getD 2 .top) (AV.tup []))) (some (AV.tup []))).bd fun x13 =>
(AV.pick x4 (AV.bool true) x13).bd fun x14 =>
(x14).asB.bd fun b15 => bif b15 then (some (.ret, [(i64 10)], H0))
else (some (.norm, [(i64 0)], H0)))).bd (inBlock 0)).bd (andThen (fun vs16 => [(vs16.getD 0 .top)]) fun vs16 H17 =>
some (.ret, [(i64 0)], H17))).bd (fnEnd H0.length [.tmp 0])
noncomputable def words_Load32 : Fn := fun args H0 =>
((words_reach [(args.getD 0 .top), (args.getD 1 .top), (i64 4)] H0).bd fun p1 =>
(AV.bin .neq p1.1 (i64 0)).bd fun x2 =>
((x2).asB.bd fun b3 => bif b3 then (some (.ret, [(u32 0), p1.1], p1.2))
else (some (.norm, [(u32 0), (i64 0)], p1.2))).bd (andThen (fun vs4 => [(vs4.getD 0 .top), (vs4.getD 1 .top)]) fun vs4 H5 =>
(AV.idxS 1 (args.getD 0 .top) (args.getD 1 .top)).bd fun x6 =>
(ld H5 none x6).bd fun x7 =>
(AV.conv .u32 x7).bd fun x8 =>
(AV.bin .add (args.getD 1 .top) (i64 1)).bd fun x9 =>
(AV.idxS 1 (args.getD 0 .top) x9).bd fun x10 =>
(ld H5 none x10).bd fun x11 =>
(AV.conv .u32 x11).bd fun x12 =>
(AV.bin .shl x12 (u64 8)).bd fun x13 =>
(AV.bin .or x8 x13).bd fun x14 =>
(AV.bin .add (args.getD 1 .top) (i64 2)).bd fun x15 =>
(AV.idxS 1 (args.getD 0 .top) x15).bd fun x16 =>
(ld H5 none x16).bd fun x17 =>
(AV.conv .u32 x17).bd fun x18 =>
(AV.bin .shl x18 (u64 16)).bd fun x19 =>
(AV.bin .or x14 x19).bd fun x20 =>
(AV.bin .add (args.getD 1 .top) (i64 3)).bd fun x21 =>
(AV.idxS 1 (args.getD 0 .top) x21).bd fun x22 =>
(ld H5 none x22).bd fun x23 =>
(AV.conv .u32 x23).bd fun x24 =>
(AV.bin .shl x24 (u64 24)).bd fun x25 =>
(AV.bin .or x20 x25).bd fun x26 =>
some (.ret, [x26, (i64 0)], H5))).bd (fnEnd H0.length [.tmp 0, .tmp 1])
noncomputable def words_Rotate : Fn := fun args H0 =>
((AV.conv .u64 (args.getD 1 .top)).bd fun x1 =>
(AV.bin .and x1 (u64 31)).bd fun x2 =>
(AV.bin .shl (args.getD 0 .top) x2).bd fun x3 =>
(AV.bin .sub (u64 32) x2).bd fun x4 =>
(AV.bin .and x4 (u64 31)).bd fun x5 =>
(AV.bin .shr (args.getD 0 .top) x5).bd fun x6 =>
(AV.bin .or x3 x6).bd fun x7 =>
some (.ret, [x7], H0)).bd (fnEnd H0.length [.tmp 0])
noncomputable def words_Load64_l1 (args : List AV) (H5 : Heap) (vs6 : List AV) (H7 : Heap) : Option Res :=
(AV.bin .lss (vs6.getD 1 .top) (i64 8)).bd fun x8 =>
((x8).asB.bd fun b9 => bif b9 then (some (.norm, [], H7))
else (some (.exit 0, [], H7))).bd (andThen (fun vs10 => [(vs6.getD 0 .top), (vs6.getD 1 .top)]) fun vs10 H11 =>
(((AV.bin .add (args.getD 1 .top) (vs6.getD 1 .top)).bd fun x12 =>
(AV.idxS 1 (args.getD 0 .top) x12).bd fun x13 =>
(ld H11 none x13).bd fun x14 =>
(AV.conv .u64 x14).bd fun x15 =>
(AV.bin .mul (i64 8) (vs6.getD 1 .top)).bd fun x16 =>
(AV.bin .shl x15 x16).bd fun x17 =>
(AV.bin .or (vs6.getD 0 .top) x17).bd fun x18 =>
some (.norm, [x18], H11)).bd (inBlock 1)).bd (andThen (fun vs19 => [(vs19.getD 0 .top), (vs6.getD 1 .top)]) fun vs19 H20 =>
(AV.bin .add (vs6.getD 1 .top) (i64 1)).bd fun x21 =>
some (.norm, [(vs19.getD 0 .top), x21], H20)))
noncomputable def words_Load64 : Fn := fun args H0 =>
((words_reach [(args.getD 0 .top), (args.getD 1 .top), (i64 8)] H0).bd fun p1 =>
(AV.bin .neq p1.1 (i64 0)).bd fun x2 =>
((x2).asB.bd fun b3 => bif b3 then (some (.ret, [(u64 0), p1.1], p1.2))
else (some (.norm, [(u64 0), (i64 0)], p1.2))).bd (andThen (fun vs4 => [(vs4.getD 0 .top), (vs4.getD 1 .top)]) fun vs4 H5 =>
(((loopD (fun vs H' => (words_Load64_l1 args H5 vs H').bd (roundEnd (H5).length)) [(u64 0), (i64 0)] H5).bd fun r22 => some (r22.1, [(r22.2.1.getD 0 .top)], r22.2.2)).bd (inBlock 0)).bd (andThen (fun vs23 => [(vs4.getD 0 .top), (vs4.getD 1 .top)]) fun vs23 H24 =>
some (.ret, [(vs23.getD 0 .top), (i64 0)], H24)))).bd (fnEnd H0.length [.tmp 0, .tmp 1])
noncomputable def words_Put64_l1 (args : List AV) (H0 : Heap) (H3 : Heap) (vs1 : List AV) (H2 : Heap) : Option Res :=
(AV.bin .lss (vs1.getD 0 .top) (i64 8)).bd fun x4 =>
((x4).asB.bd fun b5 => bif b5 then (some (.norm, [], H2))
else (some (.exit 0, [], H2))).bd (andThen (fun vs6 => [(vs1.getD 0 .top)]) fun vs6 H7 =>
(((AV.bin .mul (i64 8) (vs1.getD 0 .top)).bd fun x8 =>
(AV.bin .shr (args.getD 0 .top) x8).bd fun x9 =>
(AV.conv .u8 x9).bd fun x10 =>
(AV.idxP 8 1 (AV.ptr (H0 ++ [Blk.rw (List.replicate 8 (u8 0))]).length 0) (vs1.getD 0 .top)).bd fun x11 =>
(st H3.length H7 1 x11 x10).bd fun H12 =>
some (.norm, [], H12)).bd (inBlock 1)).bd (andThen (fun vs13 => [(vs1.getD 0 .top)]) fun vs13 H14 =>
(AV.bin .add (vs1.getD 0 .top) (i64 1)).bd fun x15 =>
some (.norm, [x15], H14)))
noncomputable def words_Put64 : Fn := fun args H0 =>
((((loopD (fun vs H' => (words_Put64_l1 args H0 ((H0 ++ [Blk.rw (List.replicate 8 (u8 0))]) ++ [Blk.rw (List.replicate 8 (u8 0))]) vs H').bd (roundEnd (((H0 ++ [Blk.rw (List.replicate 8 (u8 0))]) ++ [Blk.rw (List.replicate 8 (u8 0))])).length)) [(i64 0)] ((H0 ++ [Blk.rw (List.replicate 8 (u8 0))]) ++ [Blk.rw (List.replicate 8 (u8 0))])).bd fun r16 => some (r16.1, [], r16.2.2)).bd (inBlock 0)).bd (andThen (fun vs17 => [(AV.ptr H0.length 0)]) fun vs17 H18 =>
(ld H18 (some 8) (AV.ptr (H0 ++ [Blk.rw (List.replicate 8 (u8 0))]).length 0)).bd fun x19 =>
(st H0.length H18 8 (AV.ptr H0.length 0) x19).bd fun H20 =>
some (.ret, [(AV.ptr H0.length 0)], H20))).bd (fnEnd H0.length [.cell 0 (some 8)])
noncomputable def words_Equal_l1 (x7 : AV) (args : List AV) (H6 : Heap) (vs8 : List AV) (H9 : Heap) : Option Res :=
(AV.bin .lss (vs8.getD 1 .top) x7).bd fun x10 =>
((x10).asB.bd fun b11 => bif b11 then (some (.norm, [], H9))
else (some (.exit 0, [], H9))).bd (andThen (fun vs12 => [(vs8.getD 0 .top), (vs8.getD 1 .top)]) fun vs12 H13 =>
(((AV.idxS 1 (args.getD 0 .top) (vs8.getD 1 .top)).bd fun x14 =>
(ld H13 none x14).bd fun x15 =>
(AV.idxS 1 (args.getD 1 .top) (vs8.getD 1 .top)).bd fun x16 =>
(ld H13 none x16).bd fun x17 =>
(AV.bin .xor x15 x17).bd fun x18 =>
(AV.bin .or (vs8.getD 0 .top) x18).bd fun x19 =>
some (.norm, [x19], H13)).bd (inBlock 1)).bd (andThen (fun vs20 => [(vs20.getD 0 .top), (vs8.getD 1 .top)]) fun vs20 H21 =>
(AV.bin .add (vs8.getD 1 .top) (i64 1)).bd fun x22 =>
some (.norm, [(vs20.getD 0 .top), x22], H21)))
noncomputable def words_Equal : Fn := fun args H0 =>
((AV.len (args.getD 0 .top)).bd fun x1 =>
(AV.len (args.getD 1 .top)).bd fun x2 =>
(AV.bin .neq x1 x2).bd fun x3 =>
((x3).asB.bd fun b4 => bif b4 then (some (.ret, [(AV.bool false)], H0))
else (some (.norm, [(AV.bool false)], H0))).bd (andThen (fun vs5 => [(vs5.getD 0 .top)]) fun vs5 H6 =>
(AV.len (args.getD 0 .top)).bd fun x7 =>
(((loopD (fun vs H' => (words_Equal_l1 x7 args H6 vs H').bd (roundEnd (H6).length)) [(u8 0), (i64 0)] H6).bd fun r23 => some (r23.1, [(r23.2.1.getD 0 .top)], r23.2.2)).bd (inBlock 0)).bd (andThen (fun vs24 => [(vs5.getD 0 .top)]) fun vs24 H25 =>
(AV.bin .eql (vs24.getD 0 .top) (u8 0)).bd fun x26 =>
some (.ret, [x26], H25)))).bd (fnEnd H0.length [.tmp 0])
end Go.Sx
