/- Closed facts on this seat's types and functions: printed by my gen_facts.py. -/
import Derived.Test.YtpocbgcbiojflaaFunc
import Derived.Test.YtpocbgcbiojflaaProg
namespace Go.Proofs.Ytpocbgcbiojflaa
open Go.Shelf
theorem mixd : Try.prog.follows .mixedOrders = true := by kernel_rfl
theorem agg_7 : aggT Try.prog 7 = some 4 := by kernel_rfl
theorem agg_8 : aggT Try.prog 8 = some 4 := by kernel_rfl
theorem agg_13 : aggT Try.prog 13 = some 2 := by kernel_rfl
theorem agg_14 : aggT Try.prog 14 = some 2 := by kernel_rfl
theorem agg_18 : aggT Try.prog 18 = some 1 := by kernel_rfl
theorem agg_19 : aggT Try.prog 19 = some 1 := by kernel_rfl
theorem agg_25 : aggT Try.prog 25 = some 2 := by kernel_rfl
theorem agg_26 : aggT Try.prog 26 = some 2 := by kernel_rfl
theorem str_26 : Try.prog.underlying 26 = some (.struct (Try.prog.fieldsOf 26)) := by kernel_rfl
theorem fls_26 : (Try.prog.fieldsOf 26).toList.map (fun f => (f.name != "_", f.type, f.offset)) = [(true, 3, 0), (true, 24, 1)] := by kernel_rfl
theorem agg_32 : aggT Try.prog 32 = some 2 := by kernel_rfl
theorem agg_33 : aggT Try.prog 33 = some 2 := by kernel_rfl
theorem str_33 : Try.prog.underlying 33 = some (.struct (Try.prog.fieldsOf 33)) := by kernel_rfl
theorem fls_33 : (Try.prog.fieldsOf 33).toList.map (fun f => (f.name != "_", f.type, f.offset)) = [(true, 5, 0), (true, 3, 1)] := by kernel_rfl
theorem agg_35 : aggT Try.prog 35 = some 3 := by kernel_rfl
theorem agg_36 : aggT Try.prog 36 = some 3 := by kernel_rfl
theorem str_36 : Try.prog.underlying 36 = some (.struct (Try.prog.fieldsOf 36)) := by kernel_rfl
theorem fls_36 : (Try.prog.fieldsOf 36).toList.map (fun f => (f.name != "_", f.type, f.offset)) = [(true, 3, 0), (true, 3, 1), (true, 4, 2)] := by kernel_rfl
theorem agg_60 : aggT Try.prog 60 = some 4 := by kernel_rfl
theorem agg_61 : aggT Try.prog 61 = some 4 := by kernel_rfl
theorem agg_62 : aggT Try.prog 62 = some 0 := by kernel_rfl
theorem agg_63 : aggT Try.prog 63 = some 0 := by kernel_rfl
theorem agg_64 : aggT Try.prog 64 = some 0 := by kernel_rfl
theorem agg_73 : aggT Try.prog 73 = some 11 := by kernel_rfl
theorem agg_74 : aggT Try.prog 74 = some 11 := by kernel_rfl
def sizTab : List (Nat × Nat) := [(1, 1), (2, 1), (3, 1), (4, 1), (5, 1), (6, 1), (7, 4), (8, 4), (9, 1), (10, 1), (11, 1), (12, 1), (13, 2), (14, 2), (15, 1), (16, 1), (17, 1), (18, 1), (19, 1), (20, 1), (21, 1), (22, 1), (23, 1), (24, 1), (25, 2), (26, 2), (27, 1), (29, 1), (30, 1), (31, 1), (32, 2), (33, 2), (34, 1), (35, 3), (36, 3), (38, 1), (39, 1), (40, 1), (41, 1), (42, 1), (43, 1), (44, 1), (46, 1), (47, 1), (48, 1), (49, 1), (50, 1), (51, 1), (52, 1), (53, 1), (54, 1), (55, 1), (56, 1), (57, 1), (58, 1), (59, 1), (60, 4), (61, 4), (62, 0), (63, 0), (64, 0), (65, 1), (66, 1), (67, 1), (68, 1), (69, 1), (70, 1), (71, 1), (72, 1), (73, 11), (74, 11), (75, 1)]
theorem siz_all : sizTab.map (fun p => (fun t => sizT Try.prog t) p.1) = sizTab.map (fun p => some p.2) := by kernel_rfl
def oneTab : List (Nat × Bool) := [(1, true), (2, true), (3, true), (4, true), (5, true), (6, true), (9, true), (10, true), (11, true), (12, true), (15, true), (16, true), (17, true), (20, true), (21, true), (22, true), (23, true), (24, true), (27, true), (29, true), (30, true), (31, true), (34, true), (38, true), (39, true), (40, true), (41, true), (42, true), (43, true), (44, true), (46, true), (47, true), (48, true), (49, true), (50, true), (51, true), (52, true), (53, true), (54, true), (55, true), (56, true), (57, true), (58, true), (59, true), (65, true), (66, true), (67, true), (68, true), (69, true), (70, true), (71, true), (72, true), (75, true)]
theorem one_all : oneTab.map (fun p => (fun t => some (oneT Try.prog t)) p.1) = oneTab.map (fun p => some p.2) := by kernel_rfl
def aggTab : List (Nat × Nat) := [(7, 4), (8, 4), (13, 2), (14, 2), (18, 1), (19, 1), (25, 2), (26, 2), (32, 2), (33, 2), (35, 3), (36, 3), (60, 4), (61, 4), (62, 0), (63, 0), (64, 0), (73, 11), (74, 11)]
theorem agg_all : aggTab.map (fun p => (fun t => aggT Try.prog t) p.1) = aggTab.map (fun p => some p.2) := by kernel_rfl
def fldTab : List (Nat × Nat) := [(700, 0), (701, 1), (702, 2), (703, 3), (800, 0), (801, 1), (802, 2), (803, 3), (1300, 0), (1301, 1), (1400, 0), (1401, 1), (1800, 0), (1900, 0), (2500, 0), (2501, 1), (2600, 0), (2601, 1), (3200, 0), (3201, 1), (3300, 0), (3301, 1), (3500, 0), (3501, 1), (3502, 2), (3600, 0), (3601, 1), (3602, 2), (6000, 0), (6001, 1), (6002, 2), (6003, 3), (6100, 0), (6101, 1), (6102, 2), (6103, 3), (7300, 0), (7301, 1), (7302, 2), (7303, 3), (7304, 4), (7305, 5), (7306, 6), (7307, 7), (7308, 8), (7309, 9), (7310, 10), (7400, 0), (7401, 1), (7402, 2), (7403, 3), (7404, 4), (7405, 5), (7406, 6), (7407, 7), (7408, 8), (7409, 9), (7410, 10)]
theorem fld_all : fldTab.map (fun p => (fun x => fld Try.prog (x / 100) (x % 100)) p.1) = fldTab.map (fun p => some p.2) := by kernel_rfl
def zerTab : List (Nat × Array Value) := [(1, #[.nilFunc]), (2, #[.int .i64 0]), (3, #[.int .i64 0]), (4, #[.bool false]), (5, #[.int .u8 0]), (6, #[.int .u8 0]), (7, #[.int .i64 0, .int .i64 0, .bool false, .int .u8 0]), (8, #[.int .i64 0, .int .i64 0, .bool false, .int .u8 0]), (9, #[.string ByteArray.empty]), (10, #[.string ByteArray.empty]), (11, #[.string ByteArray.empty]), (12, #[.int .u64 0]), (13, #[.string ByteArray.empty, .int .u64 0]), (14, #[.string ByteArray.empty, .int .u64 0]), (15, #[.pointer none]), (16, #[.pointer none]), (17, #[.pointer none]), (18, #[.pointer none]), (19, #[.pointer none]), (20, #[.nilIface]), (21, #[.int .i32 0]), (22, #[.slice none 0 0]), (23, #[.nilFunc]), (24, #[.slice none 0 0]), (25, #[.int .i64 0, .slice none 0 0]), (26, #[.int .i64 0, .slice none 0 0]), (27, #[.int .i64 0]), (29, #[.nilFunc]), (30, #[.int .u64 0]), (31, #[.nilFunc]), (32, #[.int .u8 0, .int .i64 0]), (33, #[.int .u8 0, .int .i64 0]), (34, #[.nilFunc]), (35, #[.int .i64 0, .int .i64 0, .bool false]), (36, #[.int .i64 0, .int .i64 0, .bool false]), (38, #[.nilFunc]), (39, #[.nilFunc]), (40, #[.nilFunc]), (41, #[.nilFunc]), (42, #[.nilFunc]), (43, #[.nilFunc]), (44, #[.nilFunc]), (46, #[.nilFunc]), (47, #[.nilFunc]), (48, #[.nilFunc]), (49, #[.nilFunc]), (50, #[.nilFunc]), (51, #[.nilFunc]), (52, #[.nilFunc]), (53, #[.nilFunc]), (54, #[.nilFunc]), (55, #[.nilFunc]), (56, #[.nilFunc]), (57, #[.slice none 0 0]), (58, #[.nilFunc]), (59, #[.nilFunc]), (60, #[.pointer none, .pointer none, .pointer none, .string ByteArray.empty]), (61, #[.pointer none, .pointer none, .pointer none, .string ByteArray.empty]), (62, #[]), (63, #[]), (64, #[]), (65, #[.nilFunc]), (66, #[.int .u32 0]), (67, #[.int .u8 0]), (68, #[.int .u8 0]), (69, #[.nilFunc]), (70, #[.pointer none]), (71, #[.int .i32 0]), (72, #[.int .i32 0]), (73, #[.int .u64 0, .int .u64 0, .int .u32 0, .int .u8 0, .int .u8 0, .int .u8 0, .int .u8 0, .nilFunc, .pointer none, .int .i32 0, .int .i32 0]), (74, #[.int .u64 0, .int .u64 0, .int .u32 0, .int .u8 0, .int .u8 0, .int .u8 0, .int .u8 0, .nilFunc, .pointer none, .int .i32 0, .int .i32 0]), (75, #[.pointer none])]
theorem zer_all : zerTab.map (fun p => (fun t => zerT Try.prog t) p.1) = zerTab.map (fun p => some p.2) := by kernel_rfl
def appTab : List (Nat × Nat × Nat × Nat) := [(22, (33, 2, 16)), (24, (36, 3, 24)), (57, (24, 1, 24))]
theorem app_all : appTab.map (fun p => (fun t => appT Try.prog t) p.1) = appTab.map (fun p => some p.2) := by kernel_rfl
def undTab : List (Nat × TypeDesc) := [(2, .int .i64), (3, .int .i64), (4, .bool), (5, .int .u8), (6, .int .u8), (9, .string), (10, .string), (11, .string), (12, .int .u64), (15, .pointer 61), (16, .pointer 64), (17, .pointer 74), (21, .int .i32), (22, .slice 33), (24, .slice 36), (27, .int .i64), (30, .int .u64), (57, .slice 24), (62, .array 0 16), (66, .int .u32), (67, .int .u8), (68, .int .u8), (70, .pointer 5), (71, .int .i32), (72, .int .i32)]
theorem und_all : undTab.map (fun p => (fun t => Try.prog.underlying t) p.1) = undTab.map (fun p => some p.2) := by kernel_rfl
def ptrTab : List (Nat × Nat) := [(15, 61), (16, 64), (17, 74), (70, 5)]
theorem ptr_all : ptrTab.map (fun p => (fun t => some (Try.prog.pointee t)) p.1) = ptrTab.map (fun p => some p.2) := by kernel_rfl
def eqgTab : List (Nat × Bool) := [(8, false), (13, false), (14, false), (18, false), (19, false), (25, false), (26, false), (32, false), (33, false), (35, false), (36, false), (60, false), (61, false), (62, false), (63, false), (64, false), (73, false), (74, false)]
theorem eqg_all : eqgTab.map (fun p => (fun t => some (Try.prog.eqGuardType Try.prog.depth t)) p.1) = eqgTab.map (fun p => some p.2) := by kernel_rfl
def stoTab : List (Nat × Bool) := [(26, false), (33, false), (36, false)]
theorem sto_all : stoTab.map (fun p => (fun t => some (Try.prog.stoodInHeld t)) p.1) = stoTab.map (fun p => some p.2) := by kernel_rfl
theorem siz_of {t k : Nat} (h : tg sizTab t = some k) : sizT Try.prog t = some k := tg_ok (f := fun t => sizT Try.prog t) siz_all h
theorem one_of {t : Nat} (h : tg oneTab t = some true) : oneT Try.prog t = true := Option.some.inj (tg_ok (f := fun t => some (oneT Try.prog t)) one_all h)
theorem agg_of {t k : Nat} (h : tg aggTab t = some k) : aggT Try.prog t = some k := tg_ok (f := fun t => aggT Try.prog t) agg_all h
theorem fld_of {t i o : Nat} (h0 : Nat.blt i 100 = true) (h : tg fldTab (t * 100 + i) = some o) : fld Try.prog t i = some o := by
  have h1 := tg_ok (f := fun x => fld Try.prog (x / 100) (x % 100)) fld_all h
  have h2 : i < 100 := Nat.le_of_ble_eq_true h0
  have h3 : (t * 100 + i) / 100 = t := by omega
  have h4 : (t * 100 + i) % 100 = i := by omega
  simpa only [h3, h4] using h1
theorem zer_of {t : Nat} {k : Array Value} (h : tg zerTab t = some k) : zerT Try.prog t = some k := tg_ok (f := fun t => zerT Try.prog t) zer_all h
theorem app_of {t : Nat} {k : Nat × Nat × Nat} (h : tg appTab t = some k) : appT Try.prog t = some k := tg_ok (f := fun t => appT Try.prog t) app_all h
theorem und_of {t : Nat} {k : TypeDesc} (h : tg undTab t = some k) : Try.prog.underlying t = some k := tg_ok (f := fun t => Try.prog.underlying t) und_all h
theorem ptr_of {t e : Nat} (h : tg undTab t = some (.pointer e)) (h2 : tg ptrTab t = some e) : Try.prog.underlying t = some (.pointer (Try.prog.pointee t)) := by
  have h3 : Try.prog.pointee t = e := Option.some.inj (tg_ok (f := fun t => some (Try.prog.pointee t)) ptr_all h2)
  rw [h3]; exact und_of h
theorem eqg_of {t : Nat} (h : tg eqgTab t = some false) : Try.prog.eqGuardType Try.prog.depth t = false := Option.some.inj (tg_ok (f := fun t => some (Try.prog.eqGuardType Try.prog.depth t)) eqg_all h)
theorem sto_of {t : Nat} (h : tg stoTab t = some false) : Try.prog.stoodInHeld t = false := Option.some.inj (tg_ok (f := fun t => some (Try.prog.stoodInHeld t)) sto_all h)
theorem siz_7 : sizT Try.prog 7 = some 4 := siz_of rfl
theorem siz_8 : sizT Try.prog 8 = some 4 := siz_of rfl
theorem siz_13 : sizT Try.prog 13 = some 2 := siz_of rfl
theorem siz_14 : sizT Try.prog 14 = some 2 := siz_of rfl
theorem siz_18 : sizT Try.prog 18 = some 1 := siz_of rfl
theorem siz_19 : sizT Try.prog 19 = some 1 := siz_of rfl
theorem siz_25 : sizT Try.prog 25 = some 2 := siz_of rfl
theorem siz_26 : sizT Try.prog 26 = some 2 := siz_of rfl
theorem siz_32 : sizT Try.prog 32 = some 2 := siz_of rfl
theorem siz_33 : sizT Try.prog 33 = some 2 := siz_of rfl
theorem siz_35 : sizT Try.prog 35 = some 3 := siz_of rfl
theorem siz_36 : sizT Try.prog 36 = some 3 := siz_of rfl
theorem siz_60 : sizT Try.prog 60 = some 4 := siz_of rfl
theorem siz_61 : sizT Try.prog 61 = some 4 := siz_of rfl
theorem siz_62 : sizT Try.prog 62 = some 0 := siz_of rfl
theorem siz_63 : sizT Try.prog 63 = some 0 := siz_of rfl
theorem siz_64 : sizT Try.prog 64 = some 0 := siz_of rfl
theorem siz_73 : sizT Try.prog 73 = some 11 := siz_of rfl
theorem siz_74 : sizT Try.prog 74 = some 11 := siz_of rfl
theorem ent_3 : Enters Try.prog 3 := enters_of Try.func3 (by kernel_rfl) rfl
theorem ent_4 : Enters Try.prog 4 := enters_of Try.func4 (by kernel_rfl) rfl
theorem ent_5 : Enters Try.prog 5 := enters_of Try.func5 (by kernel_rfl) rfl
theorem ent_6 : Enters Try.prog 6 := enters_of Try.func6 (by kernel_rfl) rfl
theorem ent_7 : Enters Try.prog 7 := enters_of Try.func7 (by kernel_rfl) rfl
theorem ent_8 : Enters Try.prog 8 := enters_of Try.func8 (by kernel_rfl) rfl
theorem ent_9 : Enters Try.prog 9 := enters_of Try.func9 (by kernel_rfl) rfl
theorem ent_10 : Enters Try.prog 10 := enters_of Try.func10 (by kernel_rfl) rfl
theorem ent_11 : Enters Try.prog 11 := enters_of Try.func11 (by kernel_rfl) rfl
theorem ent_12 : Enters Try.prog 12 := enters_of Try.func12 (by kernel_rfl) rfl
theorem ent_13 : Enters Try.prog 13 := enters_of Try.func13 (by kernel_rfl) rfl
theorem ent_14 : Enters Try.prog 14 := enters_of Try.func14 (by kernel_rfl) rfl
theorem ent_15 : Enters Try.prog 15 := enters_of Try.func15 (by kernel_rfl) rfl
theorem ent_16 : Enters Try.prog 16 := enters_of Try.func16 (by kernel_rfl) rfl
theorem ent_17 : Enters Try.prog 17 := enters_of Try.func17 (by kernel_rfl) rfl
theorem ent_18 : Enters Try.prog 18 := enters_of Try.func18 (by kernel_rfl) rfl
theorem ent_19 : Enters Try.prog 19 := enters_of Try.func19 (by kernel_rfl) rfl
theorem ent_20 : Enters Try.prog 20 := enters_of Try.func20 (by kernel_rfl) rfl
theorem ent_21 : Enters Try.prog 21 := enters_of Try.func21 (by kernel_rfl) rfl
theorem ent_22 : Enters Try.prog 22 := enters_of Try.func22 (by kernel_rfl) rfl
theorem ent_23 : Enters Try.prog 23 := enters_of Try.func23 (by kernel_rfl) rfl
theorem ent_24 : Enters Try.prog 24 := enters_of Try.func24 (by kernel_rfl) rfl
theorem ent_25 : Enters Try.prog 25 := enters_of Try.func25 (by kernel_rfl) rfl
theorem ent_26 : Enters Try.prog 26 := enters_of Try.func26 (by kernel_rfl) rfl
theorem ent_27 : Enters Try.prog 27 := enters_of Try.func27 (by kernel_rfl) rfl
theorem ent_28 : Enters Try.prog 28 := enters_of Try.func28 (by kernel_rfl) rfl
theorem ent_29 : Enters Try.prog 29 := enters_of Try.func29 (by kernel_rfl) rfl
theorem ent_30 : Enters Try.prog 30 := enters_of Try.func30 (by kernel_rfl) rfl
theorem ent_31 : Enters Try.prog 31 := enters_of Try.func31 (by kernel_rfl) rfl
end Go.Proofs.Ytpocbgcbiojflaa
