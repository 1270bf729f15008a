/- Closed facts on this seat's types and functions: printed by my gen_facts.py. -/
import Derived.Test.YtbmegafjphcdnaaMore
import Derived.Test.YtbmegafjphcdnaaProg
namespace Go.Proofs.Ytbmegafjphcdnaa
open Go.Shelf
theorem mixd : Try.prog.follows .mixedOrders = true := by kernel_rfl
theorem one_1 : oneT Try.prog 1 = true := by kernel_rfl
theorem siz_1 : sizT Try.prog 1 = some 1 := by kernel_rfl
theorem zer_1 : zerT Try.prog 1 = some #[.nilFunc] := by kernel_rfl
theorem one_2 : oneT Try.prog 2 = true := by kernel_rfl
theorem siz_2 : sizT Try.prog 2 = some 1 := by kernel_rfl
theorem zer_2 : zerT Try.prog 2 = some #[.int .i64 0] := by kernel_rfl
theorem one_3 : oneT Try.prog 3 = true := by kernel_rfl
theorem siz_3 : sizT Try.prog 3 = some 1 := by kernel_rfl
theorem zer_3 : zerT Try.prog 3 = some #[.int .i64 0] := by kernel_rfl
theorem one_4 : oneT Try.prog 4 = true := by kernel_rfl
theorem siz_4 : sizT Try.prog 4 = some 1 := by kernel_rfl
theorem zer_4 : zerT Try.prog 4 = some #[.bool false] := by kernel_rfl
theorem one_5 : oneT Try.prog 5 = true := by kernel_rfl
theorem siz_5 : sizT Try.prog 5 = some 1 := by kernel_rfl
theorem zer_5 : zerT Try.prog 5 = some #[.int .u8 0] := by kernel_rfl
theorem one_6 : oneT Try.prog 6 = true := by kernel_rfl
theorem siz_6 : sizT Try.prog 6 = some 1 := by kernel_rfl
theorem zer_6 : zerT Try.prog 6 = some #[.int .u8 0] := by kernel_rfl
theorem agg_7 : aggT Try.prog 7 = some 4 := by kernel_rfl
theorem siz_7 : sizT Try.prog 7 = some 4 := by kernel_rfl
theorem zer_7 : zerT Try.prog 7 = some #[.int .i64 0, .int .i64 0, .bool false, .int .u8 0] := by kernel_rfl
theorem fld_8_0 : fld Try.prog 8 0 = some 0 := by kernel_rfl
theorem fld_8_1 : fld Try.prog 8 1 = some 1 := by kernel_rfl
theorem fld_8_2 : fld Try.prog 8 2 = some 2 := by kernel_rfl
theorem fld_8_3 : fld Try.prog 8 3 = some 3 := by kernel_rfl
theorem agg_8 : aggT Try.prog 8 = some 4 := by kernel_rfl
theorem siz_8 : sizT Try.prog 8 = some 4 := by kernel_rfl
theorem zer_8 : zerT Try.prog 8 = some #[.int .i64 0, .int .i64 0, .bool false, .int .u8 0] := by kernel_rfl
theorem eqg_8 : Try.prog.eqGuardType Try.prog.depth 8 = false := by kernel_rfl
theorem one_9 : oneT Try.prog 9 = true := by kernel_rfl
theorem siz_9 : sizT Try.prog 9 = some 1 := by kernel_rfl
theorem zer_9 : zerT Try.prog 9 = some #[.string ByteArray.empty] := by kernel_rfl
theorem one_10 : oneT Try.prog 10 = true := by kernel_rfl
theorem siz_10 : sizT Try.prog 10 = some 1 := by kernel_rfl
theorem zer_10 : zerT Try.prog 10 = some #[.string ByteArray.empty] := by kernel_rfl
theorem one_11 : oneT Try.prog 11 = true := by kernel_rfl
theorem siz_11 : sizT Try.prog 11 = some 1 := by kernel_rfl
theorem zer_11 : zerT Try.prog 11 = some #[.string ByteArray.empty] := by kernel_rfl
theorem one_12 : oneT Try.prog 12 = true := by kernel_rfl
theorem siz_12 : sizT Try.prog 12 = some 1 := by kernel_rfl
theorem zer_12 : zerT Try.prog 12 = some #[.int .u64 0] := by kernel_rfl
theorem fld_13_0 : fld Try.prog 13 0 = some 0 := by kernel_rfl
theorem fld_13_1 : fld Try.prog 13 1 = some 1 := by kernel_rfl
theorem agg_13 : aggT Try.prog 13 = some 2 := by kernel_rfl
theorem siz_13 : sizT Try.prog 13 = some 2 := by kernel_rfl
theorem zer_13 : zerT Try.prog 13 = some #[.string ByteArray.empty, .int .u64 0] := by kernel_rfl
theorem eqg_13 : Try.prog.eqGuardType Try.prog.depth 13 = false := by kernel_rfl
theorem fld_14_0 : fld Try.prog 14 0 = some 0 := by kernel_rfl
theorem fld_14_1 : fld Try.prog 14 1 = some 1 := by kernel_rfl
theorem agg_14 : aggT Try.prog 14 = some 2 := by kernel_rfl
theorem siz_14 : sizT Try.prog 14 = some 2 := by kernel_rfl
theorem zer_14 : zerT Try.prog 14 = some #[.string ByteArray.empty, .int .u64 0] := by kernel_rfl
theorem eqg_14 : Try.prog.eqGuardType Try.prog.depth 14 = false := by kernel_rfl
theorem one_15 : oneT Try.prog 15 = true := by kernel_rfl
theorem siz_15 : sizT Try.prog 15 = some 1 := by kernel_rfl
theorem zer_15 : zerT Try.prog 15 = some #[.pointer none] := by kernel_rfl
theorem ptr_15 : Try.prog.underlying 15 = some (.pointer (Try.prog.pointee 15)) := by kernel_rfl
theorem one_16 : oneT Try.prog 16 = true := by kernel_rfl
theorem siz_16 : sizT Try.prog 16 = some 1 := by kernel_rfl
theorem zer_16 : zerT Try.prog 16 = some #[.pointer none] := by kernel_rfl
theorem ptr_16 : Try.prog.underlying 16 = some (.pointer (Try.prog.pointee 16)) := by kernel_rfl
theorem one_17 : oneT Try.prog 17 = true := by kernel_rfl
theorem siz_17 : sizT Try.prog 17 = some 1 := by kernel_rfl
theorem zer_17 : zerT Try.prog 17 = some #[.pointer none] := by kernel_rfl
theorem ptr_17 : Try.prog.underlying 17 = some (.pointer (Try.prog.pointee 17)) := by kernel_rfl
theorem fld_18_0 : fld Try.prog 18 0 = some 0 := by kernel_rfl
theorem agg_18 : aggT Try.prog 18 = some 1 := by kernel_rfl
theorem siz_18 : sizT Try.prog 18 = some 1 := by kernel_rfl
theorem zer_18 : zerT Try.prog 18 = some #[.pointer none] := by kernel_rfl
theorem eqg_18 : Try.prog.eqGuardType Try.prog.depth 18 = false := by kernel_rfl
theorem fld_19_0 : fld Try.prog 19 0 = some 0 := by kernel_rfl
theorem agg_19 : aggT Try.prog 19 = some 1 := by kernel_rfl
theorem siz_19 : sizT Try.prog 19 = some 1 := by kernel_rfl
theorem zer_19 : zerT Try.prog 19 = some #[.pointer none] := by kernel_rfl
theorem eqg_19 : Try.prog.eqGuardType Try.prog.depth 19 = false := by kernel_rfl
theorem one_20 : oneT Try.prog 20 = true := by kernel_rfl
theorem siz_20 : sizT Try.prog 20 = some 1 := by kernel_rfl
theorem zer_20 : zerT Try.prog 20 = some #[.nilIface] := by kernel_rfl
theorem one_21 : oneT Try.prog 21 = true := by kernel_rfl
theorem siz_21 : sizT Try.prog 21 = some 1 := by kernel_rfl
theorem zer_21 : zerT Try.prog 21 = some #[.int .i32 0] := by kernel_rfl
theorem one_22 : oneT Try.prog 22 = true := by kernel_rfl
theorem siz_22 : sizT Try.prog 22 = some 1 := by kernel_rfl
theorem zer_22 : zerT Try.prog 22 = some #[.slice none 0 0] := by kernel_rfl
theorem app_22 : appT Try.prog 22 = some (29, 2, 16) := by kernel_rfl
theorem one_23 : oneT Try.prog 23 = true := by kernel_rfl
theorem siz_23 : sizT Try.prog 23 = some 1 := by kernel_rfl
theorem zer_23 : zerT Try.prog 23 = some #[.nilFunc] := by kernel_rfl
theorem one_24 : oneT Try.prog 24 = true := by kernel_rfl
theorem siz_24 : sizT Try.prog 24 = some 1 := by kernel_rfl
theorem zer_24 : zerT Try.prog 24 = some #[.pointer none] := by kernel_rfl
theorem ptr_24 : Try.prog.underlying 24 = some (.pointer (Try.prog.pointee 24)) := by kernel_rfl
theorem one_25 : oneT Try.prog 25 = true := by kernel_rfl
theorem siz_25 : sizT Try.prog 25 = some 1 := by kernel_rfl
theorem zer_25 : zerT Try.prog 25 = some #[.nilFunc] := by kernel_rfl
theorem one_26 : oneT Try.prog 26 = true := by kernel_rfl
theorem siz_26 : sizT Try.prog 26 = some 1 := by kernel_rfl
theorem zer_26 : zerT Try.prog 26 = some #[.int .i64 0] := by kernel_rfl
theorem one_27 : oneT Try.prog 27 = true := by kernel_rfl
theorem siz_27 : sizT Try.prog 27 = some 1 := by kernel_rfl
theorem zer_27 : zerT Try.prog 27 = some #[.nilFunc] := by kernel_rfl
theorem fld_28_0 : fld Try.prog 28 0 = some 0 := by kernel_rfl
theorem fld_28_1 : fld Try.prog 28 1 = some 1 := by kernel_rfl
theorem agg_28 : aggT Try.prog 28 = some 2 := by kernel_rfl
theorem siz_28 : sizT Try.prog 28 = some 2 := by kernel_rfl
theorem zer_28 : zerT Try.prog 28 = some #[.int .i64 0, .int .i64 0] := by kernel_rfl
theorem eqg_28 : Try.prog.eqGuardType Try.prog.depth 28 = false := by kernel_rfl
theorem fld_29_0 : fld Try.prog 29 0 = some 0 := by kernel_rfl
theorem fld_29_1 : fld Try.prog 29 1 = some 1 := by kernel_rfl
theorem agg_29 : aggT Try.prog 29 = some 2 := by kernel_rfl
theorem siz_29 : sizT Try.prog 29 = some 2 := by kernel_rfl
theorem zer_29 : zerT Try.prog 29 = some #[.int .i64 0, .int .i64 0] := by kernel_rfl
theorem str_29 : Try.prog.underlying 29 = some (.struct (Try.prog.fieldsOf 29)) := by kernel_rfl
theorem sto_29 : Try.prog.stoodInHeld 29 = false := by kernel_rfl
theorem fls_29 : (Try.prog.fieldsOf 29).toList.map (fun f => (f.name != "_", f.type, f.offset)) = [(true, 3, 0), (true, 3, 1)] := by kernel_rfl
theorem eqg_29 : Try.prog.eqGuardType Try.prog.depth 29 = false := by kernel_rfl
theorem one_30 : oneT Try.prog 30 = true := by kernel_rfl
theorem siz_30 : sizT Try.prog 30 = some 1 := by kernel_rfl
theorem zer_30 : zerT Try.prog 30 = some #[.nilFunc] := by kernel_rfl
theorem one_31 : oneT Try.prog 31 = true := by kernel_rfl
theorem siz_31 : sizT Try.prog 31 = some 1 := by kernel_rfl
theorem zer_31 : zerT Try.prog 31 = some #[.slice none 0 0] := by kernel_rfl
theorem app_31 : appT Try.prog 31 = some (3, 1, 8) := by kernel_rfl
theorem one_32 : oneT Try.prog 32 = true := by kernel_rfl
theorem siz_32 : sizT Try.prog 32 = some 1 := by kernel_rfl
theorem zer_32 : zerT Try.prog 32 = some #[.nilFunc] := by kernel_rfl
theorem one_33 : oneT Try.prog 33 = true := by kernel_rfl
theorem siz_33 : sizT Try.prog 33 = some 1 := by kernel_rfl
theorem zer_33 : zerT Try.prog 33 = some #[.nilFunc] := by kernel_rfl
theorem agg_34 : aggT Try.prog 34 = some 64 := by kernel_rfl
theorem siz_34 : sizT Try.prog 34 = some 64 := by kernel_rfl
theorem zer_34 : zerT Try.prog 34 = some #[.bool false, .bool false, .bool false, .bool false, .bool false, .bool false, .bool false, .bool false, .bool false, .bool false, .bool false, .bool false, .bool false, .bool false, .bool false, .bool false, .bool false, .bool false, .bool false, .bool false, .bool false, .bool false, .bool false, .bool false, .bool false, .bool false, .bool false, .bool false, .bool false, .bool false, .bool false, .bool false, .bool false, .bool false, .bool false, .bool false, .bool false, .bool false, .bool false, .bool false, .bool false, .bool false, .bool false, .bool false, .bool false, .bool false, .bool false, .bool false, .bool false, .bool false, .bool false, .bool false, .bool false, .bool false, .bool false, .bool false, .bool false, .bool false, .bool false, .bool false, .bool false, .bool false, .bool false, .bool false] := by kernel_rfl
theorem eqg_34 : Try.prog.eqGuardType Try.prog.depth 34 = false := by kernel_rfl
theorem one_35 : oneT Try.prog 35 = true := by kernel_rfl
theorem siz_35 : sizT Try.prog 35 = some 1 := by kernel_rfl
theorem zer_35 : zerT Try.prog 35 = some #[.nilFunc] := by kernel_rfl
theorem one_36 : oneT Try.prog 36 = true := by kernel_rfl
theorem siz_36 : sizT Try.prog 36 = some 1 := by kernel_rfl
theorem zer_36 : zerT Try.prog 36 = some #[.nilFunc] := by kernel_rfl
theorem fld_37_0 : fld Try.prog 37 0 = some 0 := by kernel_rfl
theorem fld_37_1 : fld Try.prog 37 1 = some 1 := by kernel_rfl
theorem fld_37_2 : fld Try.prog 37 2 = some 2 := by kernel_rfl
theorem fld_37_3 : fld Try.prog 37 3 = some 3 := by kernel_rfl
theorem agg_37 : aggT Try.prog 37 = some 67 := by kernel_rfl
theorem siz_37 : sizT Try.prog 37 = some 67 := by kernel_rfl
theorem zer_37 : zerT Try.prog 37 = some #[.bool false, .int .i64 0, .int .i64 0, .bool false, .bool false, .bool false, .bool false, .bool false, .bool false, .bool false, .bool false, .bool false, .bool false, .bool false, .bool false, .bool false, .bool false, .bool false, .bool false, .bool false, .bool false, .bool false, .bool false, .bool false, .bool false, .bool false, .bool false, .bool false, .bool false, .bool false, .bool false, .bool false, .bool false, .bool false, .bool false, .bool false, .bool false, .bool false, .bool false, .bool false, .bool false, .bool false, .bool false, .bool false, .bool false, .bool false, .bool false, .bool false, .bool false, .bool false, .bool false, .bool false, .bool false, .bool false, .bool false, .bool false, .bool false, .bool false, .bool false, .bool false, .bool false, .bool false, .bool false, .bool false, .bool false, .bool false, .bool false] := by kernel_rfl
theorem eqg_37 : Try.prog.eqGuardType Try.prog.depth 37 = false := by kernel_rfl
theorem fld_38_0 : fld Try.prog 38 0 = some 0 := by kernel_rfl
theorem fld_38_1 : fld Try.prog 38 1 = some 1 := by kernel_rfl
theorem fld_38_2 : fld Try.prog 38 2 = some 2 := by kernel_rfl
theorem fld_38_3 : fld Try.prog 38 3 = some 3 := by kernel_rfl
theorem agg_38 : aggT Try.prog 38 = some 67 := by kernel_rfl
theorem siz_38 : sizT Try.prog 38 = some 67 := by kernel_rfl
theorem zer_38 : zerT Try.prog 38 = some #[.bool false, .int .i64 0, .int .i64 0, .bool false, .bool false, .bool false, .bool false, .bool false, .bool false, .bool false, .bool false, .bool false, .bool false, .bool false, .bool false, .bool false, .bool false, .bool false, .bool false, .bool false, .bool false, .bool false, .bool false, .bool false, .bool false, .bool false, .bool false, .bool false, .bool false, .bool false, .bool false, .bool false, .bool false, .bool false, .bool false, .bool false, .bool false, .bool false, .bool false, .bool false, .bool false, .bool false, .bool false, .bool false, .bool false, .bool false, .bool false, .bool false, .bool false, .bool false, .bool false, .bool false, .bool false, .bool false, .bool false, .bool false, .bool false, .bool false, .bool false, .bool false, .bool false, .bool false, .bool false, .bool false, .bool false, .bool false, .bool false] := by kernel_rfl
theorem str_38 : Try.prog.underlying 38 = some (.struct (Try.prog.fieldsOf 38)) := by kernel_rfl
theorem sto_38 : Try.prog.stoodInHeld 38 = false := by kernel_rfl
theorem fls_38 : (Try.prog.fieldsOf 38).toList.map (fun f => (f.name != "_", f.type, f.offset)) = [(true, 4, 0), (true, 3, 1), (true, 3, 2), (true, 34, 3)] := by kernel_rfl
theorem eqg_38 : Try.prog.eqGuardType Try.prog.depth 38 = false := by kernel_rfl
theorem one_39 : oneT Try.prog 39 = true := by kernel_rfl
theorem siz_39 : sizT Try.prog 39 = some 1 := by kernel_rfl
theorem zer_39 : zerT Try.prog 39 = some #[.slice none 0 0] := by kernel_rfl
theorem app_39 : appT Try.prog 39 = some (24, 1, 8) := by kernel_rfl
theorem one_40 : oneT Try.prog 40 = true := by kernel_rfl
theorem siz_40 : sizT Try.prog 40 = some 1 := by kernel_rfl
theorem zer_40 : zerT Try.prog 40 = some #[.nilFunc] := by kernel_rfl
theorem one_41 : oneT Try.prog 41 = true := by kernel_rfl
theorem siz_41 : sizT Try.prog 41 = some 1 := by kernel_rfl
theorem zer_41 : zerT Try.prog 41 = some #[.nilFunc] := by kernel_rfl
theorem one_42 : oneT Try.prog 42 = true := by kernel_rfl
theorem siz_42 : sizT Try.prog 42 = some 1 := by kernel_rfl
theorem zer_42 : zerT Try.prog 42 = some #[.pointer none] := by kernel_rfl
theorem ptr_42 : Try.prog.underlying 42 = some (.pointer (Try.prog.pointee 42)) := by kernel_rfl
theorem one_43 : oneT Try.prog 43 = true := by kernel_rfl
theorem siz_43 : sizT Try.prog 43 = some 1 := by kernel_rfl
theorem zer_43 : zerT Try.prog 43 = some #[.nilFunc] := by kernel_rfl
theorem fld_44_0 : fld Try.prog 44 0 = some 0 := by kernel_rfl
theorem fld_44_1 : fld Try.prog 44 1 = some 1 := by kernel_rfl
theorem agg_44 : aggT Try.prog 44 = some 2 := by kernel_rfl
theorem siz_44 : sizT Try.prog 44 = some 2 := by kernel_rfl
theorem zer_44 : zerT Try.prog 44 = some #[.int .i64 0, .slice none 0 0] := by kernel_rfl
theorem eqg_44 : Try.prog.eqGuardType Try.prog.depth 44 = false := by kernel_rfl
theorem fld_45_0 : fld Try.prog 45 0 = some 0 := by kernel_rfl
theorem fld_45_1 : fld Try.prog 45 1 = some 1 := by kernel_rfl
theorem agg_45 : aggT Try.prog 45 = some 2 := by kernel_rfl
theorem siz_45 : sizT Try.prog 45 = some 2 := by kernel_rfl
theorem zer_45 : zerT Try.prog 45 = some #[.int .i64 0, .slice none 0 0] := by kernel_rfl
theorem str_45 : Try.prog.underlying 45 = some (.struct (Try.prog.fieldsOf 45)) := by kernel_rfl
theorem sto_45 : Try.prog.stoodInHeld 45 = false := by kernel_rfl
theorem fls_45 : (Try.prog.fieldsOf 45).toList.map (fun f => (f.name != "_", f.type, f.offset)) = [(true, 3, 0), (true, 31, 1)] := by kernel_rfl
theorem eqg_45 : Try.prog.eqGuardType Try.prog.depth 45 = false := by kernel_rfl
theorem one_46 : oneT Try.prog 46 = true := by kernel_rfl
theorem siz_46 : sizT Try.prog 46 = some 1 := by kernel_rfl
theorem zer_46 : zerT Try.prog 46 = some #[.nilFunc] := by kernel_rfl
theorem one_47 : oneT Try.prog 47 = true := by kernel_rfl
theorem siz_47 : sizT Try.prog 47 = some 1 := by kernel_rfl
theorem zer_47 : zerT Try.prog 47 = some #[.nilFunc] := by kernel_rfl
theorem one_48 : oneT Try.prog 48 = true := by kernel_rfl
theorem siz_48 : sizT Try.prog 48 = some 1 := by kernel_rfl
theorem zer_48 : zerT Try.prog 48 = some #[.nilFunc] := by kernel_rfl
theorem fld_49_0 : fld Try.prog 49 0 = some 0 := by kernel_rfl
theorem fld_49_1 : fld Try.prog 49 1 = some 1 := by kernel_rfl
theorem fld_49_2 : fld Try.prog 49 2 = some 2 := by kernel_rfl
theorem fld_49_3 : fld Try.prog 49 3 = some 3 := by kernel_rfl
theorem agg_49 : aggT Try.prog 49 = some 4 := by kernel_rfl
theorem siz_49 : sizT Try.prog 49 = some 4 := by kernel_rfl
theorem zer_49 : zerT Try.prog 49 = some #[.pointer none, .pointer none, .pointer none, .string ByteArray.empty] := by kernel_rfl
theorem eqg_49 : Try.prog.eqGuardType Try.prog.depth 49 = false := by kernel_rfl
theorem fld_50_0 : fld Try.prog 50 0 = some 0 := by kernel_rfl
theorem fld_50_1 : fld Try.prog 50 1 = some 1 := by kernel_rfl
theorem fld_50_2 : fld Try.prog 50 2 = some 2 := by kernel_rfl
theorem fld_50_3 : fld Try.prog 50 3 = some 3 := by kernel_rfl
theorem agg_50 : aggT Try.prog 50 = some 4 := by kernel_rfl
theorem siz_50 : sizT Try.prog 50 = some 4 := by kernel_rfl
theorem zer_50 : zerT Try.prog 50 = some #[.pointer none, .pointer none, .pointer none, .string ByteArray.empty] := by kernel_rfl
theorem eqg_50 : Try.prog.eqGuardType Try.prog.depth 50 = false := by kernel_rfl
theorem agg_51 : aggT Try.prog 51 = some 0 := by kernel_rfl
theorem siz_51 : sizT Try.prog 51 = some 0 := by kernel_rfl
theorem zer_51 : zerT Try.prog 51 = some #[] := by kernel_rfl
theorem eqg_51 : Try.prog.eqGuardType Try.prog.depth 51 = false := by kernel_rfl
theorem agg_52 : aggT Try.prog 52 = some 0 := by kernel_rfl
theorem siz_52 : sizT Try.prog 52 = some 0 := by kernel_rfl
theorem zer_52 : zerT Try.prog 52 = some #[] := by kernel_rfl
theorem eqg_52 : Try.prog.eqGuardType Try.prog.depth 52 = false := by kernel_rfl
theorem agg_53 : aggT Try.prog 53 = some 0 := by kernel_rfl
theorem siz_53 : sizT Try.prog 53 = some 0 := by kernel_rfl
theorem zer_53 : zerT Try.prog 53 = some #[] := by kernel_rfl
theorem eqg_53 : Try.prog.eqGuardType Try.prog.depth 53 = false := by kernel_rfl
theorem one_54 : oneT Try.prog 54 = true := by kernel_rfl
theorem siz_54 : sizT Try.prog 54 = some 1 := by kernel_rfl
theorem zer_54 : zerT Try.prog 54 = some #[.int .u32 0] := by kernel_rfl
theorem one_55 : oneT Try.prog 55 = true := by kernel_rfl
theorem siz_55 : sizT Try.prog 55 = some 1 := by kernel_rfl
theorem zer_55 : zerT Try.prog 55 = some #[.int .u8 0] := by kernel_rfl
theorem one_56 : oneT Try.prog 56 = true := by kernel_rfl
theorem siz_56 : sizT Try.prog 56 = some 1 := by kernel_rfl
theorem zer_56 : zerT Try.prog 56 = some #[.int .u8 0] := by kernel_rfl
theorem one_57 : oneT Try.prog 57 = true := by kernel_rfl
theorem siz_57 : sizT Try.prog 57 = some 1 := by kernel_rfl
theorem zer_57 : zerT Try.prog 57 = some #[.nilFunc] := by kernel_rfl
theorem one_58 : oneT Try.prog 58 = true := by kernel_rfl
theorem siz_58 : sizT Try.prog 58 = some 1 := by kernel_rfl
theorem zer_58 : zerT Try.prog 58 = some #[.pointer none] := by kernel_rfl
theorem ptr_58 : Try.prog.underlying 58 = some (.pointer (Try.prog.pointee 58)) := by kernel_rfl
theorem one_59 : oneT Try.prog 59 = true := by kernel_rfl
theorem siz_59 : sizT Try.prog 59 = some 1 := by kernel_rfl
theorem zer_59 : zerT Try.prog 59 = some #[.int .i32 0] := by kernel_rfl
theorem one_60 : oneT Try.prog 60 = true := by kernel_rfl
theorem siz_60 : sizT Try.prog 60 = some 1 := by kernel_rfl
theorem zer_60 : zerT Try.prog 60 = some #[.int .i32 0] := by kernel_rfl
theorem fld_61_0 : fld Try.prog 61 0 = some 0 := by kernel_rfl
theorem fld_61_1 : fld Try.prog 61 1 = some 1 := by kernel_rfl
theorem fld_61_2 : fld Try.prog 61 2 = some 2 := by kernel_rfl
theorem fld_61_3 : fld Try.prog 61 3 = some 3 := by kernel_rfl
theorem fld_61_4 : fld Try.prog 61 4 = some 4 := by kernel_rfl
theorem fld_61_5 : fld Try.prog 61 5 = some 5 := by kernel_rfl
theorem fld_61_6 : fld Try.prog 61 6 = some 6 := by kernel_rfl
theorem fld_61_7 : fld Try.prog 61 7 = some 7 := by kernel_rfl
theorem fld_61_8 : fld Try.prog 61 8 = some 8 := by kernel_rfl
theorem fld_61_9 : fld Try.prog 61 9 = some 9 := by kernel_rfl
theorem fld_61_10 : fld Try.prog 61 10 = some 10 := by kernel_rfl
theorem agg_61 : aggT Try.prog 61 = some 11 := by kernel_rfl
theorem siz_61 : sizT Try.prog 61 = some 11 := by kernel_rfl
theorem zer_61 : zerT Try.prog 61 = some #[.int .u64 0, .int .u64 0, .int .u32 0, .int .u8 0, .int .u8 0, .int .u8 0, .int .u8 0, .nilFunc, .pointer none, .int .i32 0, .int .i32 0] := by kernel_rfl
theorem eqg_61 : Try.prog.eqGuardType Try.prog.depth 61 = false := by kernel_rfl
theorem fld_62_0 : fld Try.prog 62 0 = some 0 := by kernel_rfl
theorem fld_62_1 : fld Try.prog 62 1 = some 1 := by kernel_rfl
theorem fld_62_2 : fld Try.prog 62 2 = some 2 := by kernel_rfl
theorem fld_62_3 : fld Try.prog 62 3 = some 3 := by kernel_rfl
theorem fld_62_4 : fld Try.prog 62 4 = some 4 := by kernel_rfl
theorem fld_62_5 : fld Try.prog 62 5 = some 5 := by kernel_rfl
theorem fld_62_6 : fld Try.prog 62 6 = some 6 := by kernel_rfl
theorem fld_62_7 : fld Try.prog 62 7 = some 7 := by kernel_rfl
theorem fld_62_8 : fld Try.prog 62 8 = some 8 := by kernel_rfl
theorem fld_62_9 : fld Try.prog 62 9 = some 9 := by kernel_rfl
theorem fld_62_10 : fld Try.prog 62 10 = some 10 := by kernel_rfl
theorem agg_62 : aggT Try.prog 62 = some 11 := by kernel_rfl
theorem siz_62 : sizT Try.prog 62 = some 11 := by kernel_rfl
theorem zer_62 : zerT Try.prog 62 = some #[.int .u64 0, .int .u64 0, .int .u32 0, .int .u8 0, .int .u8 0, .int .u8 0, .int .u8 0, .nilFunc, .pointer none, .int .i32 0, .int .i32 0] := by kernel_rfl
theorem eqg_62 : Try.prog.eqGuardType Try.prog.depth 62 = false := by kernel_rfl
theorem one_63 : oneT Try.prog 63 = true := by kernel_rfl
theorem siz_63 : sizT Try.prog 63 = some 1 := by kernel_rfl
theorem zer_63 : zerT Try.prog 63 = some #[.pointer none] := by kernel_rfl
theorem ent_3 : Enters Try.prog 3 := enters_of Try.func3 (by kernel_rfl) rfl
theorem ent_4 : Enters Try.prog 4 := enters_of Try.func4 (by kernel_rfl) rfl
theorem ent_5 : Enters Try.prog 5 := enters_of Try.func5 (by kernel_rfl) rfl
theorem ent_6 : Enters Try.prog 6 := enters_of Try.func6 (by kernel_rfl) rfl
theorem ent_7 : Enters Try.prog 7 := enters_of Try.func7 (by kernel_rfl) rfl
theorem ent_8 : Enters Try.prog 8 := enters_of Try.func8 (by kernel_rfl) rfl
theorem ent_9 : Enters Try.prog 9 := enters_of Try.func9 (by kernel_rfl) rfl
theorem ent_10 : Enters Try.prog 10 := enters_of Try.func10 (by kernel_rfl) rfl
theorem ent_11 : Enters Try.prog 11 := enters_of Try.func11 (by kernel_rfl) rfl
theorem ent_12 : Enters Try.prog 12 := enters_of Try.func12 (by kernel_rfl) rfl
theorem ent_13 : Enters Try.prog 13 := enters_of Try.func13 (by kernel_rfl) rfl
theorem ent_14 : Enters Try.prog 14 := enters_of Try.func14 (by kernel_rfl) rfl
theorem ent_15 : Enters Try.prog 15 := enters_of Try.func15 (by kernel_rfl) rfl
theorem ent_16 : Enters Try.prog 16 := enters_of Try.func16 (by kernel_rfl) rfl
theorem ent_17 : Enters Try.prog 17 := enters_of Try.func17 (by kernel_rfl) rfl
theorem ent_18 : Enters Try.prog 18 := enters_of Try.func18 (by kernel_rfl) rfl
theorem ent_19 : Enters Try.prog 19 := enters_of Try.func19 (by kernel_rfl) rfl
end Go.Proofs.Ytbmegafjphcdnaa
