/- Closed facts on this seat's types and functions: printed by my gen_facts.py. -/
import Derived.Test.YtbmegafjphcdnaaMore
import Derived.Test.YtbmegafjphcdnaaProg
namespace Go.Proofs.Ytbmegafjphcdnaa
open Go.Shelf
theorem mixd : Try.prog.follows .mixedOrders = true := by kernel_rfl
theorem agg_7 : aggT Try.prog 7 = some 4 := by kernel_rfl
theorem agg_8 : aggT Try.prog 8 = some 4 := by kernel_rfl
theorem agg_13 : aggT Try.prog 13 = some 2 := by kernel_rfl
theorem agg_14 : aggT Try.prog 14 = some 2 := by kernel_rfl
theorem agg_18 : aggT Try.prog 18 = some 1 := by kernel_rfl
theorem agg_19 : aggT Try.prog 19 = some 1 := by kernel_rfl
theorem agg_28 : aggT Try.prog 28 = some 2 := by kernel_rfl
theorem agg_29 : aggT Try.prog 29 = some 2 := by kernel_rfl
theorem str_29 : Try.prog.underlying 29 = some (.struct (Try.prog.fieldsOf 29)) := by kernel_rfl
theorem fls_29 : (Try.prog.fieldsOf 29).toList.map (fun f => (f.name != "_", f.type, f.offset)) = [(true, 3, 0), (true, 3, 1)] := by kernel_rfl
theorem agg_34 : aggT Try.prog 34 = some 64 := by kernel_rfl
theorem agg_37 : aggT Try.prog 37 = some 67 := by kernel_rfl
theorem agg_38 : aggT Try.prog 38 = some 67 := by kernel_rfl
theorem str_38 : Try.prog.underlying 38 = some (.struct (Try.prog.fieldsOf 38)) := by kernel_rfl
theorem fls_38 : (Try.prog.fieldsOf 38).toList.map (fun f => (f.name != "_", f.type, f.offset)) = [(true, 4, 0), (true, 3, 1), (true, 3, 2), (true, 34, 3)] := by kernel_rfl
theorem agg_44 : aggT Try.prog 44 = some 2 := by kernel_rfl
theorem agg_45 : aggT Try.prog 45 = some 2 := by kernel_rfl
theorem str_45 : Try.prog.underlying 45 = some (.struct (Try.prog.fieldsOf 45)) := by kernel_rfl
theorem fls_45 : (Try.prog.fieldsOf 45).toList.map (fun f => (f.name != "_", f.type, f.offset)) = [(true, 3, 0), (true, 31, 1)] := by kernel_rfl
theorem agg_49 : aggT Try.prog 49 = some 4 := by kernel_rfl
theorem agg_50 : aggT Try.prog 50 = some 4 := by kernel_rfl
theorem agg_51 : aggT Try.prog 51 = some 0 := by kernel_rfl
theorem agg_52 : aggT Try.prog 52 = some 0 := by kernel_rfl
theorem agg_53 : aggT Try.prog 53 = some 0 := by kernel_rfl
theorem agg_61 : aggT Try.prog 61 = some 11 := by kernel_rfl
theorem agg_62 : aggT Try.prog 62 = some 11 := by kernel_rfl
def sizTab : List (Nat × Nat) := [(1, 1), (2, 1), (3, 1), (4, 1), (5, 1), (6, 1), (7, 4), (8, 4), (9, 1), (10, 1), (11, 1), (12, 1), (13, 2), (14, 2), (15, 1), (16, 1), (17, 1), (18, 1), (19, 1), (20, 1), (21, 1), (22, 1), (23, 1), (24, 1), (25, 1), (26, 1), (27, 1), (28, 2), (29, 2), (30, 1), (31, 1), (32, 1), (33, 1), (34, 64), (35, 1), (36, 1), (37, 67), (38, 67), (39, 1), (40, 1), (41, 1), (42, 1), (43, 1), (44, 2), (45, 2), (46, 1), (47, 1), (48, 1), (49, 4), (50, 4), (51, 0), (52, 0), (53, 0), (54, 1), (55, 1), (56, 1), (57, 1), (58, 1), (59, 1), (60, 1), (61, 11), (62, 11), (63, 1)]
theorem siz_all : sizTab.map (fun p => (fun t => sizT Try.prog t) p.1) = sizTab.map (fun p => some p.2) := by kernel_rfl
def oneTab : List (Nat × Bool) := [(1, true), (2, true), (3, true), (4, true), (5, true), (6, true), (9, true), (10, true), (11, true), (12, true), (15, true), (16, true), (17, true), (20, true), (21, true), (22, true), (23, true), (24, true), (25, true), (26, true), (27, true), (30, true), (31, true), (32, true), (33, true), (35, true), (36, true), (39, true), (40, true), (41, true), (42, true), (43, true), (46, true), (47, true), (48, true), (54, true), (55, true), (56, true), (57, true), (58, true), (59, true), (60, true), (63, true)]
theorem one_all : oneTab.map (fun p => (fun t => some (oneT Try.prog t)) p.1) = oneTab.map (fun p => some p.2) := by kernel_rfl
def aggTab : List (Nat × Nat) := [(7, 4), (8, 4), (13, 2), (14, 2), (18, 1), (19, 1), (28, 2), (29, 2), (34, 64), (37, 67), (38, 67), (44, 2), (45, 2), (49, 4), (50, 4), (51, 0), (52, 0), (53, 0), (61, 11), (62, 11)]
theorem agg_all : aggTab.map (fun p => (fun t => aggT Try.prog t) p.1) = aggTab.map (fun p => some p.2) := by kernel_rfl
def fldTab : List (Nat × Nat) := [(700, 0), (701, 1), (702, 2), (703, 3), (800, 0), (801, 1), (802, 2), (803, 3), (1300, 0), (1301, 1), (1400, 0), (1401, 1), (1800, 0), (1900, 0), (2800, 0), (2801, 1), (2900, 0), (2901, 1), (3700, 0), (3701, 1), (3702, 2), (3703, 3), (3800, 0), (3801, 1), (3802, 2), (3803, 3), (4400, 0), (4401, 1), (4500, 0), (4501, 1), (4900, 0), (4901, 1), (4902, 2), (4903, 3), (5000, 0), (5001, 1), (5002, 2), (5003, 3), (6100, 0), (6101, 1), (6102, 2), (6103, 3), (6104, 4), (6105, 5), (6106, 6), (6107, 7), (6108, 8), (6109, 9), (6110, 10), (6200, 0), (6201, 1), (6202, 2), (6203, 3), (6204, 4), (6205, 5), (6206, 6), (6207, 7), (6208, 8), (6209, 9), (6210, 10)]
theorem fld_all : fldTab.map (fun p => (fun x => fld Try.prog (x / 100) (x % 100)) p.1) = fldTab.map (fun p => some p.2) := by kernel_rfl
def zerTab : List (Nat × Array Value) := [(1, #[.nilFunc]), (2, #[.int .i64 0]), (3, #[.int .i64 0]), (4, #[.bool false]), (5, #[.int .u8 0]), (6, #[.int .u8 0]), (7, #[.int .i64 0, .int .i64 0, .bool false, .int .u8 0]), (8, #[.int .i64 0, .int .i64 0, .bool false, .int .u8 0]), (9, #[.string ByteArray.empty]), (10, #[.string ByteArray.empty]), (11, #[.string ByteArray.empty]), (12, #[.int .u64 0]), (13, #[.string ByteArray.empty, .int .u64 0]), (14, #[.string ByteArray.empty, .int .u64 0]), (15, #[.pointer none]), (16, #[.pointer none]), (17, #[.pointer none]), (18, #[.pointer none]), (19, #[.pointer none]), (20, #[.nilIface]), (21, #[.int .i32 0]), (22, #[.slice none 0 0]), (23, #[.nilFunc]), (24, #[.pointer none]), (25, #[.nilFunc]), (26, #[.int .i64 0]), (27, #[.nilFunc]), (28, #[.int .i64 0, .int .i64 0]), (29, #[.int .i64 0, .int .i64 0]), (30, #[.nilFunc]), (31, #[.slice none 0 0]), (32, #[.nilFunc]), (33, #[.nilFunc]), (34, #[.bool false, .bool false, .bool false, .bool false, .bool false, .bool false, .bool false, .bool false, .bool false, .bool false, .bool false, .bool false, .bool false, .bool false, .bool false, .bool false, .bool false, .bool false, .bool false, .bool false, .bool false, .bool false, .bool false, .bool false, .bool false, .bool false, .bool false, .bool false, .bool false, .bool false, .bool false, .bool false, .bool false, .bool false, .bool false, .bool false, .bool false, .bool false, .bool false, .bool false, .bool false, .bool false, .bool false, .bool false, .bool false, .bool false, .bool false, .bool false, .bool false, .bool false, .bool false, .bool false, .bool false, .bool false, .bool false, .bool false, .bool false, .bool false, .bool false, .bool false, .bool false, .bool false, .bool false, .bool false]), (35, #[.nilFunc]), (36, #[.nilFunc]), (37, #[.bool false, .int .i64 0, .int .i64 0, .bool false, .bool false, .bool false, .bool false, .bool false, .bool false, .bool false, .bool false, .bool false, .bool false, .bool false, .bool false, .bool false, .bool false, .bool false, .bool false, .bool false, .bool false, .bool false, .bool false, .bool false, .bool false, .bool false, .bool false, .bool false, .bool false, .bool false, .bool false, .bool false, .bool false, .bool false, .bool false, .bool false, .bool false, .bool false, .bool false, .bool false, .bool false, .bool false, .bool false, .bool false, .bool false, .bool false, .bool false, .bool false, .bool false, .bool false, .bool false, .bool false, .bool false, .bool false, .bool false, .bool false, .bool false, .bool false, .bool false, .bool false, .bool false, .bool false, .bool false, .bool false, .bool false, .bool false, .bool false]), (38, #[.bool false, .int .i64 0, .int .i64 0, .bool false, .bool false, .bool false, .bool false, .bool false, .bool false, .bool false, .bool false, .bool false, .bool false, .bool false, .bool false, .bool false, .bool false, .bool false, .bool false, .bool false, .bool false, .bool false, .bool false, .bool false, .bool false, .bool false, .bool false, .bool false, .bool false, .bool false, .bool false, .bool false, .bool false, .bool false, .bool false, .bool false, .bool false, .bool false, .bool false, .bool false, .bool false, .bool false, .bool false, .bool false, .bool false, .bool false, .bool false, .bool false, .bool false, .bool false, .bool false, .bool false, .bool false, .bool false, .bool false, .bool false, .bool false, .bool false, .bool false, .bool false, .bool false, .bool false, .bool false, .bool false, .bool false, .bool false, .bool false]), (39, #[.slice none 0 0]), (40, #[.nilFunc]), (41, #[.nilFunc]), (42, #[.pointer none]), (43, #[.nilFunc]), (44, #[.int .i64 0, .slice none 0 0]), (45, #[.int .i64 0, .slice none 0 0]), (46, #[.nilFunc]), (47, #[.nilFunc]), (48, #[.nilFunc]), (49, #[.pointer none, .pointer none, .pointer none, .string ByteArray.empty]), (50, #[.pointer none, .pointer none, .pointer none, .string ByteArray.empty]), (51, #[]), (52, #[]), (53, #[]), (54, #[.int .u32 0]), (55, #[.int .u8 0]), (56, #[.int .u8 0]), (57, #[.nilFunc]), (58, #[.pointer none]), (59, #[.int .i32 0]), (60, #[.int .i32 0]), (61, #[.int .u64 0, .int .u64 0, .int .u32 0, .int .u8 0, .int .u8 0, .int .u8 0, .int .u8 0, .nilFunc, .pointer none, .int .i32 0, .int .i32 0]), (62, #[.int .u64 0, .int .u64 0, .int .u32 0, .int .u8 0, .int .u8 0, .int .u8 0, .int .u8 0, .nilFunc, .pointer none, .int .i32 0, .int .i32 0]), (63, #[.pointer none])]
theorem zer_all : zerTab.map (fun p => (fun t => zerT Try.prog t) p.1) = zerTab.map (fun p => some p.2) := by kernel_rfl
def appTab : List (Nat × Nat × Nat × Nat) := [(22, (29, 2, 16)), (31, (3, 1, 8)), (39, (24, 1, 8))]
theorem app_all : appTab.map (fun p => (fun t => appT Try.prog t) p.1) = appTab.map (fun p => some p.2) := by kernel_rfl
def undTab : List (Nat × TypeDesc) := [(2, .int .i64), (3, .int .i64), (4, .bool), (5, .int .u8), (6, .int .u8), (9, .string), (10, .string), (11, .string), (12, .int .u64), (15, .pointer 50), (16, .pointer 53), (17, .pointer 62), (21, .int .i32), (22, .slice 29), (24, .pointer 38), (26, .int .i64), (31, .slice 3), (34, .array 64 4), (39, .slice 24), (42, .pointer 45), (51, .array 0 16), (54, .int .u32), (55, .int .u8), (56, .int .u8), (58, .pointer 5), (59, .int .i32), (60, .int .i32)]
theorem und_all : undTab.map (fun p => (fun t => Try.prog.underlying t) p.1) = undTab.map (fun p => some p.2) := by kernel_rfl
def ptrTab : List (Nat × Nat) := [(15, 50), (16, 53), (17, 62), (24, 38), (42, 45), (58, 5)]
theorem ptr_all : ptrTab.map (fun p => (fun t => some (Try.prog.pointee t)) p.1) = ptrTab.map (fun p => some p.2) := by kernel_rfl
def eqgTab : List (Nat × Bool) := [(8, false), (13, false), (14, false), (18, false), (19, false), (28, false), (29, false), (34, false), (37, false), (38, false), (44, false), (45, false), (49, false), (50, false), (51, false), (52, false), (53, false), (61, false), (62, false)]
theorem eqg_all : eqgTab.map (fun p => (fun t => some (Try.prog.eqGuardType Try.prog.depth t)) p.1) = eqgTab.map (fun p => some p.2) := by kernel_rfl
def stoTab : List (Nat × Bool) := [(29, false), (38, false), (45, false)]
theorem sto_all : stoTab.map (fun p => (fun t => some (Try.prog.stoodInHeld t)) p.1) = stoTab.map (fun p => some p.2) := by kernel_rfl
theorem siz_of {t k : Nat} (h : tg sizTab t = some k) : sizT Try.prog t = some k := tg_ok (f := fun t => sizT Try.prog t) siz_all h
theorem one_of {t : Nat} (h : tg oneTab t = some true) : oneT Try.prog t = true := Option.some.inj (tg_ok (f := fun t => some (oneT Try.prog t)) one_all h)
theorem agg_of {t k : Nat} (h : tg aggTab t = some k) : aggT Try.prog t = some k := tg_ok (f := fun t => aggT Try.prog t) agg_all h
theorem fld_of {t i o : Nat} (h0 : Nat.blt i 100 = true) (h : tg fldTab (t * 100 + i) = some o) : fld Try.prog t i = some o := by
  have h1 := tg_ok (f := fun x => fld Try.prog (x / 100) (x % 100)) fld_all h
  have h2 : i < 100 := Nat.le_of_ble_eq_true h0
  have h3 : (t * 100 + i) / 100 = t := by omega
  have h4 : (t * 100 + i) % 100 = i := by omega
  simpa only [h3, h4] using h1
theorem zer_of {t : Nat} {k : Array Value} (h : tg zerTab t = some k) : zerT Try.prog t = some k := tg_ok (f := fun t => zerT Try.prog t) zer_all h
theorem app_of {t : Nat} {k : Nat × Nat × Nat} (h : tg appTab t = some k) : appT Try.prog t = some k := tg_ok (f := fun t => appT Try.prog t) app_all h
theorem und_of {t : Nat} {k : TypeDesc} (h : tg undTab t = some k) : Try.prog.underlying t = some k := tg_ok (f := fun t => Try.prog.underlying t) und_all h
theorem ptr_of {t e : Nat} (h : tg undTab t = some (.pointer e)) (h2 : tg ptrTab t = some e) : Try.prog.underlying t = some (.pointer (Try.prog.pointee t)) := by
  have h3 : Try.prog.pointee t = e := Option.some.inj (tg_ok (f := fun t => some (Try.prog.pointee t)) ptr_all h2)
  rw [h3]; exact und_of h
theorem eqg_of {t : Nat} (h : tg eqgTab t = some false) : Try.prog.eqGuardType Try.prog.depth t = false := Option.some.inj (tg_ok (f := fun t => some (Try.prog.eqGuardType Try.prog.depth t)) eqg_all h)
theorem sto_of {t : Nat} (h : tg stoTab t = some false) : Try.prog.stoodInHeld t = false := Option.some.inj (tg_ok (f := fun t => some (Try.prog.stoodInHeld t)) sto_all h)
theorem siz_7 : sizT Try.prog 7 = some 4 := siz_of rfl
theorem siz_8 : sizT Try.prog 8 = some 4 := siz_of rfl
theorem siz_13 : sizT Try.prog 13 = some 2 := siz_of rfl
theorem siz_14 : sizT Try.prog 14 = some 2 := siz_of rfl
theorem siz_18 : sizT Try.prog 18 = some 1 := siz_of rfl
theorem siz_19 : sizT Try.prog 19 = some 1 := siz_of rfl
theorem siz_28 : sizT Try.prog 28 = some 2 := siz_of rfl
theorem siz_29 : sizT Try.prog 29 = some 2 := siz_of rfl
theorem siz_34 : sizT Try.prog 34 = some 64 := siz_of rfl
theorem siz_37 : sizT Try.prog 37 = some 67 := siz_of rfl
theorem siz_38 : sizT Try.prog 38 = some 67 := siz_of rfl
theorem siz_44 : sizT Try.prog 44 = some 2 := siz_of rfl
theorem siz_45 : sizT Try.prog 45 = some 2 := siz_of rfl
theorem siz_49 : sizT Try.prog 49 = some 4 := siz_of rfl
theorem siz_50 : sizT Try.prog 50 = some 4 := siz_of rfl
theorem siz_51 : sizT Try.prog 51 = some 0 := siz_of rfl
theorem siz_52 : sizT Try.prog 52 = some 0 := siz_of rfl
theorem siz_53 : sizT Try.prog 53 = some 0 := siz_of rfl
theorem siz_61 : sizT Try.prog 61 = some 11 := siz_of rfl
theorem siz_62 : sizT Try.prog 62 = some 11 := siz_of rfl
theorem ent_3 : Enters Try.prog 3 := enters_of Try.func3 (by kernel_rfl) rfl
theorem ent_4 : Enters Try.prog 4 := enters_of Try.func4 (by kernel_rfl) rfl
theorem ent_5 : Enters Try.prog 5 := enters_of Try.func5 (by kernel_rfl) rfl
theorem ent_6 : Enters Try.prog 6 := enters_of Try.func6 (by kernel_rfl) rfl
theorem ent_7 : Enters Try.prog 7 := enters_of Try.func7 (by kernel_rfl) rfl
theorem ent_8 : Enters Try.prog 8 := enters_of Try.func8 (by kernel_rfl) rfl
theorem ent_9 : Enters Try.prog 9 := enters_of Try.func9 (by kernel_rfl) rfl
theorem ent_10 : Enters Try.prog 10 := enters_of Try.func10 (by kernel_rfl) rfl
theorem ent_11 : Enters Try.prog 11 := enters_of Try.func11 (by kernel_rfl) rfl
theorem ent_12 : Enters Try.prog 12 := enters_of Try.func12 (by kernel_rfl) rfl
theorem ent_13 : Enters Try.prog 13 := enters_of Try.func13 (by kernel_rfl) rfl
theorem ent_14 : Enters Try.prog 14 := enters_of Try.func14 (by kernel_rfl) rfl
theorem ent_15 : Enters Try.prog 15 := enters_of Try.func15 (by kernel_rfl) rfl
theorem ent_16 : Enters Try.prog 16 := enters_of Try.func16 (by kernel_rfl) rfl
theorem ent_17 : Enters Try.prog 17 := enters_of Try.func17 (by kernel_rfl) rfl
theorem ent_18 : Enters Try.prog 18 := enters_of Try.func18 (by kernel_rfl) rfl
theorem ent_19 : Enters Try.prog 19 := enters_of Try.func19 (by kernel_rfl) rfl
end Go.Proofs.Ytbmegafjphcdnaa
