import Derived.Test.YtkhkbenihjngpaaBaseC
set_option linter.all false
namespace Go.Sx
open Go
set_option linter.unusedVariables false
set_option maxRecDepth 100000
noncomputable def aditref01_Bytes_l1 (args : List AV) (H0 : Heap) (vs1 : List AV) (H2 : Heap) : Option Res :=
(AV.bin .lss (vs1.getD 2 .top) (args.getD 1 .top)).bd fun x3 =>
((x3).asB.bd fun b4 => bif b4 then (some (.norm, [], H2))
else (some (.exit 0, [], H2))).bd (andThen (fun vs5 => [(vs1.getD 0 .top), (vs1.getD 1 .top), (vs1.getD 2 .top)]) fun vs5 H6 =>
(((AV.bin .rem (vs1.getD 0 .top) (u64 256)).bd fun x7 =>
(AV.conv .u8 x7).bd fun x8 =>
((fillA (zeros 1 [u8 0]) [(0, 1, x8)]).bd fun c => some (AV.sl H6.length 0 1 1 1, H6 ++ [Blk.rw c])).bd fun p9 =>
(appendA p9.2 1 (vs1.getD 1 .top) p9.1).bd fun p10 =>
(AV.bin .quo (vs1.getD 0 .top) (u64 256)).bd fun x11 =>
some (.norm, [x11, p10.1], p10.2)).bd (inBlock 1)).bd (andThen (fun vs12 => [(vs12.getD 0 .top), (vs12.getD 1 .top), (vs1.getD 2 .top)]) fun vs12 H13 =>
(AV.bin .add (vs1.getD 2 .top) (i64 1)).bd fun x14 =>
some (.norm, [(vs12.getD 0 .top), (vs12.getD 1 .top), x14], H13)))
noncomputable def aditref01_Bytes : Fn := fun args H0 =>
((((loopD (fun vs H' => (aditref01_Bytes_l1 args H0 vs H').bd (roundEnd (H0).length)) [(args.getD 0 .top), (AV.nsl), (i64 0)] H0).bd fun r15 => some (r15.1, [(r15.2.1.getD 1 .top)], r15.2.2)).bd (inBlock 0)).bd (andThen (fun vs16 => [(AV.nsl)]) fun vs16 H17 =>
some (.ret, [(vs16.getD 0 .top)], H17))).bd (fnEnd H0.length [.tmp 0])
noncomputable def aditref01_Least_l1 (args : List AV) (H0 : Heap) (vs3 : List AV) (H4 : Heap) : Option Res :=
(AV.bin .geq (vs3.getD 1 .top) (i64 0)).bd fun x5 =>
((x5).asB.bd fun b6 => bif b6 then (some (.norm, [], H4))
else (some (.exit 0, [], H4))).bd (andThen (fun vs7 => [(vs3.getD 0 .top), (vs3.getD 1 .top)]) fun vs7 H8 =>
(((AV.bin .mul (u64 256) (vs3.getD 0 .top)).bd fun x9 =>
(AV.idxS 1 (args.getD 0 .top) (vs3.getD 1 .top)).bd fun x10 =>
(ld H8 none x10).bd fun x11 =>
(AV.conv .u64 x11).bd fun x12 =>
(AV.bin .add x9 x12).bd fun x13 =>
some (.norm, [x13], H8)).bd (inBlock 1)).bd (andThen (fun vs14 => [(vs14.getD 0 .top), (vs3.getD 1 .top)]) fun vs14 H15 =>
(AV.bin .sub (vs3.getD 1 .top) (i64 1)).bd fun x16 =>
some (.norm, [(vs14.getD 0 .top), x16], H15)))
noncomputable def aditref01_Least : Fn := fun args H0 =>
((AV.len (args.getD 0 .top)).bd fun x1 =>
(AV.bin .sub x1 (i64 1)).bd fun x2 =>
(((loopD (fun vs H' => (aditref01_Least_l1 args H0 vs H').bd (roundEnd (H0).length)) [(u64 0), x2] H0).bd fun r17 => some (r17.1, [(r17.2.1.getD 0 .top)], r17.2.2)).bd (inBlock 0)).bd (andThen (fun vs18 => [(u64 0)]) fun vs18 H19 =>
some (.ret, [(vs18.getD 0 .top)], H19))).bd (fnEnd H0.length [.tmp 0])
noncomputable def aditref01_Rotate_l1 (vs5 : List AV) (H6 : Heap) (vs7 : List AV) (H8 : Heap) : Option Res :=
(AV.bin .lss (vs7.getD 1 .top) (vs5.getD 0 .top)).bd fun x9 =>
((x9).asB.bd fun b10 => bif b10 then (some (.norm, [], H8))
else (some (.exit 0, [], H8))).bd (andThen (fun vs11 => [(vs7.getD 0 .top), (vs7.getD 1 .top)]) fun vs11 H12 =>
(((AV.bin .quo (vs7.getD 0 .top) (u32 2147483648)).bd fun x13 =>
(AV.bin .mul (u32 2) (vs7.getD 0 .top)).bd fun x14 =>
(AV.bin .add x14 x13).bd fun x15 =>
some (.norm, [x15], H12)).bd (inBlock 1)).bd (andThen (fun vs16 => [(vs16.getD 0 .top), (vs7.getD 1 .top)]) fun vs16 H17 =>
(AV.bin .add (vs7.getD 1 .top) (i64 1)).bd fun x18 =>
some (.norm, [(vs16.getD 0 .top), x18], H17)))
noncomputable def aditref01_Rotate : Fn := fun args H0 =>
((AV.bin .rem (args.getD 1 .top) (i64 32)).bd fun x1 =>
(AV.bin .lss x1 (i64 0)).bd fun x2 =>
((x2).asB.bd fun b3 => bif b3 then ((AV.bin .add x1 (i64 32)).bd fun x4 =>
some (.norm, [x4], H0))
else (some (.norm, [x1], H0))).bd (andThen (fun vs5 => [(u32 0)]) fun vs5 H6 =>
(((loopD (fun vs H' => (aditref01_Rotate_l1 vs5 H6 vs H').bd (roundEnd (H6).length)) [(args.getD 0 .top), (i64 0)] H6).bd fun r19 => some (r19.1, [(r19.2.1.getD 0 .top)], r19.2.2)).bd (inBlock 0)).bd (andThen (fun vs20 => [(u32 0)]) fun vs20 H21 =>
some (.ret, [(vs20.getD 0 .top)], H21)))).bd (fnEnd H0.length [.tmp 0])
noncomputable def aditref01_Copy : Fn := fun args H0 =>
((appendA H0 1 (AV.nsl) (args.getD 0 .top)).bd fun p1 =>
some (.ret, [p1.1], p1.2)).bd (fnEnd H0.length [.tmp 0])
end Go.Sx
