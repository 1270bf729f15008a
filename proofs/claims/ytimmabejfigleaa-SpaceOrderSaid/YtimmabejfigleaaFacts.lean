/- Closed facts on this seat's types and functions: printed by my gen_facts.py. -/
import Derived.Test.YtimmabejfigleaaFunc
import Derived.Test.YtimmabejfigleaaProg
namespace Go.Proofs.Ytimmabejfigleaa
open Go.Shelf
theorem mixd : Try.prog.follows .mixedOrders = true := by kernel_rfl
theorem agg_7 : aggT Try.prog 7 = some 4 := by kernel_rfl
theorem agg_8 : aggT Try.prog 8 = some 4 := by kernel_rfl
theorem agg_13 : aggT Try.prog 13 = some 2 := by kernel_rfl
theorem agg_14 : aggT Try.prog 14 = some 2 := by kernel_rfl
theorem agg_18 : aggT Try.prog 18 = some 1 := by kernel_rfl
theorem agg_19 : aggT Try.prog 19 = some 1 := by kernel_rfl
theorem agg_23 : aggT Try.prog 23 = some 3 := by kernel_rfl
theorem agg_24 : aggT Try.prog 24 = some 3 := by kernel_rfl
theorem str_24 : Try.prog.underlying 24 = some (.struct (Try.prog.fieldsOf 24)) := by kernel_rfl
theorem fls_24 : (Try.prog.fieldsOf 24).toList.map (fun f => (f.name != "_", f.type, f.offset)) = [(true, 3, 0), (true, 3, 1), (true, 22, 2)] := by kernel_rfl
theorem agg_29 : aggT Try.prog 29 = some 3 := by kernel_rfl
theorem agg_30 : aggT Try.prog 30 = some 3 := by kernel_rfl
theorem str_30 : Try.prog.underlying 30 = some (.struct (Try.prog.fieldsOf 30)) := by kernel_rfl
theorem fls_30 : (Try.prog.fieldsOf 30).toList.map (fun f => (f.name != "_", f.type, f.offset)) = [(true, 3, 0), (true, 3, 1), (true, 28, 2)] := by kernel_rfl
theorem agg_56 : aggT Try.prog 56 = some 2 := by kernel_rfl
theorem agg_57 : aggT Try.prog 57 = some 2 := by kernel_rfl
theorem str_57 : Try.prog.underlying 57 = some (.struct (Try.prog.fieldsOf 57)) := by kernel_rfl
theorem fls_57 : (Try.prog.fieldsOf 57).toList.map (fun f => (f.name != "_", f.type, f.offset)) = [(true, 9, 0), (true, 9, 1)] := by kernel_rfl
theorem agg_67 : aggT Try.prog 67 = some 2 := by kernel_rfl
theorem str_67 : Try.prog.underlying 67 = some (.struct (Try.prog.fieldsOf 67)) := by kernel_rfl
theorem fls_67 : (Try.prog.fieldsOf 67).toList.map (fun f => (f.name != "_", f.type, f.offset)) = [(true, 9, 0), (true, 9, 1)] := by kernel_rfl
theorem agg_83 : aggT Try.prog 83 = some 4 := by kernel_rfl
theorem agg_84 : aggT Try.prog 84 = some 4 := by kernel_rfl
theorem agg_85 : aggT Try.prog 85 = some 0 := by kernel_rfl
theorem agg_86 : aggT Try.prog 86 = some 0 := by kernel_rfl
theorem agg_87 : aggT Try.prog 87 = some 0 := by kernel_rfl
theorem agg_96 : aggT Try.prog 96 = some 11 := by kernel_rfl
theorem agg_97 : aggT Try.prog 97 = some 11 := by kernel_rfl
def sizTab : List (Nat × Nat) := [(1, 1), (2, 1), (3, 1), (4, 1), (5, 1), (6, 1), (7, 4), (8, 4), (9, 1), (10, 1), (11, 1), (12, 1), (13, 2), (14, 2), (15, 1), (16, 1), (17, 1), (18, 1), (19, 1), (20, 1), (21, 1), (22, 1), (23, 3), (24, 3), (25, 1), (26, 1), (27, 1), (28, 1), (29, 3), (30, 3), (31, 1), (33, 1), (34, 1), (35, 1), (36, 1), (38, 1), (39, 1), (41, 1), (42, 1), (44, 1), (45, 1), (46, 1), (47, 1), (48, 1), (49, 1), (50, 1), (51, 1), (52, 1), (53, 1), (55, 1), (56, 2), (57, 2), (58, 1), (59, 1), (60, 1), (61, 1), (62, 1), (63, 1), (64, 1), (65, 1), (66, 1), (67, 2), (68, 1), (70, 1), (72, 1), (73, 1), (74, 1), (75, 1), (76, 1), (77, 1), (78, 1), (79, 1), (80, 1), (81, 1), (82, 1), (83, 4), (84, 4), (85, 0), (86, 0), (87, 0), (88, 1), (89, 1), (90, 1), (91, 1), (92, 1), (93, 1), (94, 1), (95, 1), (96, 11), (97, 11), (98, 1)]
theorem siz_all : sizTab.map (fun p => (fun t => sizT Try.prog t) p.1) = sizTab.map (fun p => some p.2) := by kernel_rfl
def oneTab : List (Nat × Bool) := [(1, true), (2, true), (3, true), (4, true), (5, true), (6, true), (9, true), (10, true), (11, true), (12, true), (15, true), (16, true), (17, true), (20, true), (21, true), (22, true), (25, true), (26, true), (27, true), (28, true), (31, true), (33, true), (34, true), (35, true), (36, true), (38, true), (39, true), (41, true), (42, true), (44, true), (45, true), (46, true), (47, true), (48, true), (49, true), (50, true), (51, true), (52, true), (53, true), (55, true), (58, true), (59, true), (60, true), (61, true), (62, true), (63, true), (64, true), (65, true), (66, true), (68, true), (70, true), (72, true), (73, true), (74, true), (75, true), (76, true), (77, true), (78, true), (79, true), (80, true), (81, true), (82, true), (88, true), (89, true), (90, true), (91, true), (92, true), (93, true), (94, true), (95, true), (98, true)]
theorem one_all : oneTab.map (fun p => (fun t => some (oneT Try.prog t)) p.1) = oneTab.map (fun p => some p.2) := by kernel_rfl
def aggTab : List (Nat × Nat) := [(7, 4), (8, 4), (13, 2), (14, 2), (18, 1), (19, 1), (23, 3), (24, 3), (29, 3), (30, 3), (56, 2), (57, 2), (67, 2), (83, 4), (84, 4), (85, 0), (86, 0), (87, 0), (96, 11), (97, 11)]
theorem agg_all : aggTab.map (fun p => (fun t => aggT Try.prog t) p.1) = aggTab.map (fun p => some p.2) := by kernel_rfl
def fldTab : List (Nat × Nat) := [(700, 0), (701, 1), (702, 2), (703, 3), (800, 0), (801, 1), (802, 2), (803, 3), (1300, 0), (1301, 1), (1400, 0), (1401, 1), (1800, 0), (1900, 0), (2300, 0), (2301, 1), (2302, 2), (2400, 0), (2401, 1), (2402, 2), (2900, 0), (2901, 1), (2902, 2), (3000, 0), (3001, 1), (3002, 2), (5600, 0), (5601, 1), (5700, 0), (5701, 1), (6700, 0), (6701, 1), (8300, 0), (8301, 1), (8302, 2), (8303, 3), (8400, 0), (8401, 1), (8402, 2), (8403, 3), (9600, 0), (9601, 1), (9602, 2), (9603, 3), (9604, 4), (9605, 5), (9606, 6), (9607, 7), (9608, 8), (9609, 9), (9610, 10), (9700, 0), (9701, 1), (9702, 2), (9703, 3), (9704, 4), (9705, 5), (9706, 6), (9707, 7), (9708, 8), (9709, 9), (9710, 10)]
theorem fld_all : fldTab.map (fun p => (fun x => fld Try.prog (x / 100) (x % 100)) p.1) = fldTab.map (fun p => some p.2) := by kernel_rfl
def zerTab : List (Nat × Array Value) := [(1, #[.nilFunc]), (2, #[.int .i64 0]), (3, #[.int .i64 0]), (4, #[.bool false]), (5, #[.int .u8 0]), (6, #[.int .u8 0]), (7, #[.int .i64 0, .int .i64 0, .bool false, .int .u8 0]), (8, #[.int .i64 0, .int .i64 0, .bool false, .int .u8 0]), (9, #[.string ByteArray.empty]), (10, #[.string ByteArray.empty]), (11, #[.string ByteArray.empty]), (12, #[.int .u64 0]), (13, #[.string ByteArray.empty, .int .u64 0]), (14, #[.string ByteArray.empty, .int .u64 0]), (15, #[.pointer none]), (16, #[.pointer none]), (17, #[.pointer none]), (18, #[.pointer none]), (19, #[.pointer none]), (20, #[.nilIface]), (21, #[.int .i32 0]), (22, #[.slice none 0 0]), (23, #[.int .i64 0, .int .i64 0, .slice none 0 0]), (24, #[.int .i64 0, .int .i64 0, .slice none 0 0]), (25, #[.nilFunc]), (26, #[.nilFunc]), (27, #[.int .u64 0]), (28, #[.slice none 0 0]), (29, #[.int .i64 0, .int .i64 0, .slice none 0 0]), (30, #[.int .i64 0, .int .i64 0, .slice none 0 0]), (31, #[.nilFunc]), (33, #[.nilFunc]), (34, #[.slice none 0 0]), (35, #[.nilFunc]), (36, #[.int .i64 0]), (38, #[.nilFunc]), (39, #[.nilFunc]), (41, #[.nilFunc]), (42, #[.nilFunc]), (44, #[.nilFunc]), (45, #[.nilFunc]), (46, #[.nilFunc]), (47, #[.nilFunc]), (48, #[.nilFunc]), (49, #[.nilFunc]), (50, #[.nilFunc]), (51, #[.nilFunc]), (52, #[.nilFunc]), (53, #[.nilFunc]), (55, #[.nilFunc]), (56, #[.string ByteArray.empty, .string ByteArray.empty]), (57, #[.string ByteArray.empty, .string ByteArray.empty]), (58, #[.nilFunc]), (59, #[.nilFunc]), (60, #[.nilFunc]), (61, #[.nilFunc]), (62, #[.nilFunc]), (63, #[.nilFunc]), (64, #[.nilFunc]), (65, #[.nilFunc]), (66, #[.nilFunc]), (67, #[.string ByteArray.empty, .string ByteArray.empty]), (68, #[.nilFunc]), (70, #[.nilFunc]), (72, #[.nilFunc]), (73, #[.nilFunc]), (74, #[.nilFunc]), (75, #[.nilFunc]), (76, #[.nilFunc]), (77, #[.nilFunc]), (78, #[.nilFunc]), (79, #[.nilFunc]), (80, #[.slice none 0 0]), (81, #[.nilFunc]), (82, #[.nilFunc]), (83, #[.pointer none, .pointer none, .pointer none, .string ByteArray.empty]), (84, #[.pointer none, .pointer none, .pointer none, .string ByteArray.empty]), (85, #[]), (86, #[]), (87, #[]), (88, #[.nilFunc]), (89, #[.int .u32 0]), (90, #[.int .u8 0]), (91, #[.int .u8 0]), (92, #[.nilFunc]), (93, #[.pointer none]), (94, #[.int .i32 0]), (95, #[.int .i32 0]), (96, #[.int .u64 0, .int .u64 0, .int .u32 0, .int .u8 0, .int .u8 0, .int .u8 0, .int .u8 0, .nilFunc, .pointer none, .int .i32 0, .int .i32 0]), (97, #[.int .u64 0, .int .u64 0, .int .u32 0, .int .u8 0, .int .u8 0, .int .u8 0, .int .u8 0, .nilFunc, .pointer none, .int .i32 0, .int .i32 0]), (98, #[.pointer none])]
theorem zer_all : zerTab.map (fun p => (fun t => zerT Try.prog t) p.1) = zerTab.map (fun p => some p.2) := by kernel_rfl
def appTab : List (Nat × Nat × Nat × Nat) := [(22, (67, 2, 32)), (28, (57, 2, 32)), (34, (9, 1, 16)), (80, (28, 1, 24))]
theorem app_all : appTab.map (fun p => (fun t => appT Try.prog t) p.1) = appTab.map (fun p => some p.2) := by kernel_rfl
def undTab : List (Nat × TypeDesc) := [(2, .int .i64), (3, .int .i64), (4, .bool), (5, .int .u8), (6, .int .u8), (9, .string), (10, .string), (11, .string), (12, .int .u64), (15, .pointer 84), (16, .pointer 87), (17, .pointer 97), (21, .int .i32), (22, .slice 67), (27, .int .u64), (28, .slice 57), (34, .slice 9), (36, .int .i64), (80, .slice 28), (85, .array 0 16), (89, .int .u32), (90, .int .u8), (91, .int .u8), (93, .pointer 5), (94, .int .i32), (95, .int .i32)]
theorem und_all : undTab.map (fun p => (fun t => Try.prog.underlying t) p.1) = undTab.map (fun p => some p.2) := by kernel_rfl
def ptrTab : List (Nat × Nat) := [(15, 84), (16, 87), (17, 97), (93, 5)]
theorem ptr_all : ptrTab.map (fun p => (fun t => some (Try.prog.pointee t)) p.1) = ptrTab.map (fun p => some p.2) := by kernel_rfl
def eqgTab : List (Nat × Bool) := [(8, false), (13, false), (14, false), (18, false), (19, false), (23, false), (24, false), (29, false), (30, false), (56, false), (57, false), (67, false), (83, false), (84, false), (85, false), (86, false), (87, false), (96, false), (97, false)]
theorem eqg_all : eqgTab.map (fun p => (fun t => some (Try.prog.eqGuardType Try.prog.depth t)) p.1) = eqgTab.map (fun p => some p.2) := by kernel_rfl
def stoTab : List (Nat × Bool) := [(24, false), (30, false), (57, false), (67, false)]
theorem sto_all : stoTab.map (fun p => (fun t => some (Try.prog.stoodInHeld t)) p.1) = stoTab.map (fun p => some p.2) := by kernel_rfl
theorem siz_of {t k : Nat} (h : tg sizTab t = some k) : sizT Try.prog t = some k := tg_ok (f := fun t => sizT Try.prog t) siz_all h
theorem one_of {t : Nat} (h : tg oneTab t = some true) : oneT Try.prog t = true := Option.some.inj (tg_ok (f := fun t => some (oneT Try.prog t)) one_all h)
theorem agg_of {t k : Nat} (h : tg aggTab t = some k) : aggT Try.prog t = some k := tg_ok (f := fun t => aggT Try.prog t) agg_all h
theorem fld_of {t i o : Nat} (h0 : Nat.blt i 100 = true) (h : tg fldTab (t * 100 + i) = some o) : fld Try.prog t i = some o := by
  have h1 := tg_ok (f := fun x => fld Try.prog (x / 100) (x % 100)) fld_all h
  have h2 : i < 100 := Nat.le_of_ble_eq_true h0
  have h3 : (t * 100 + i) / 100 = t := by omega
  have h4 : (t * 100 + i) % 100 = i := by omega
  simpa only [h3, h4] using h1
theorem zer_of {t : Nat} {k : Array Value} (h : tg zerTab t = some k) : zerT Try.prog t = some k := tg_ok (f := fun t => zerT Try.prog t) zer_all h
theorem app_of {t : Nat} {k : Nat × Nat × Nat} (h : tg appTab t = some k) : appT Try.prog t = some k := tg_ok (f := fun t => appT Try.prog t) app_all h
theorem und_of {t : Nat} {k : TypeDesc} (h : tg undTab t = some k) : Try.prog.underlying t = some k := tg_ok (f := fun t => Try.prog.underlying t) und_all h
theorem ptr_of {t e : Nat} (h : tg undTab t = some (.pointer e)) (h2 : tg ptrTab t = some e) : Try.prog.underlying t = some (.pointer (Try.prog.pointee t)) := by
  have h3 : Try.prog.pointee t = e := Option.some.inj (tg_ok (f := fun t => some (Try.prog.pointee t)) ptr_all h2)
  rw [h3]; exact und_of h
theorem eqg_of {t : Nat} (h : tg eqgTab t = some false) : Try.prog.eqGuardType Try.prog.depth t = false := Option.some.inj (tg_ok (f := fun t => some (Try.prog.eqGuardType Try.prog.depth t)) eqg_all h)
theorem sto_of {t : Nat} (h : tg stoTab t = some false) : Try.prog.stoodInHeld t = false := Option.some.inj (tg_ok (f := fun t => some (Try.prog.stoodInHeld t)) sto_all h)
theorem siz_7 : sizT Try.prog 7 = some 4 := siz_of rfl
theorem siz_8 : sizT Try.prog 8 = some 4 := siz_of rfl
theorem siz_13 : sizT Try.prog 13 = some 2 := siz_of rfl
theorem siz_14 : sizT Try.prog 14 = some 2 := siz_of rfl
theorem siz_18 : sizT Try.prog 18 = some 1 := siz_of rfl
theorem siz_19 : sizT Try.prog 19 = some 1 := siz_of rfl
theorem siz_23 : sizT Try.prog 23 = some 3 := siz_of rfl
theorem siz_24 : sizT Try.prog 24 = some 3 := siz_of rfl
theorem siz_29 : sizT Try.prog 29 = some 3 := siz_of rfl
theorem siz_30 : sizT Try.prog 30 = some 3 := siz_of rfl
theorem siz_56 : sizT Try.prog 56 = some 2 := siz_of rfl
theorem siz_57 : sizT Try.prog 57 = some 2 := siz_of rfl
theorem siz_67 : sizT Try.prog 67 = some 2 := siz_of rfl
theorem siz_83 : sizT Try.prog 83 = some 4 := siz_of rfl
theorem siz_84 : sizT Try.prog 84 = some 4 := siz_of rfl
theorem siz_85 : sizT Try.prog 85 = some 0 := siz_of rfl
theorem siz_86 : sizT Try.prog 86 = some 0 := siz_of rfl
theorem siz_87 : sizT Try.prog 87 = some 0 := siz_of rfl
theorem siz_96 : sizT Try.prog 96 = some 11 := siz_of rfl
theorem siz_97 : sizT Try.prog 97 = some 11 := siz_of rfl
theorem ent_3 : Enters Try.prog 3 := enters_of Try.func3 (by kernel_rfl) rfl
theorem ent_4 : Enters Try.prog 4 := enters_of Try.func4 (by kernel_rfl) rfl
theorem ent_5 : Enters Try.prog 5 := enters_of Try.func5 (by kernel_rfl) rfl
theorem ent_6 : Enters Try.prog 6 := enters_of Try.func6 (by kernel_rfl) rfl
theorem ent_7 : Enters Try.prog 7 := enters_of Try.func7 (by kernel_rfl) rfl
theorem ent_8 : Enters Try.prog 8 := enters_of Try.func8 (by kernel_rfl) rfl
theorem ent_9 : Enters Try.prog 9 := enters_of Try.func9 (by kernel_rfl) rfl
theorem ent_10 : Enters Try.prog 10 := enters_of Try.func10 (by kernel_rfl) rfl
theorem ent_11 : Enters Try.prog 11 := enters_of Try.func11 (by kernel_rfl) rfl
theorem ent_12 : Enters Try.prog 12 := enters_of Try.func12 (by kernel_rfl) rfl
theorem ent_13 : Enters Try.prog 13 := enters_of Try.func13 (by kernel_rfl) rfl
theorem ent_14 : Enters Try.prog 14 := enters_of Try.func14 (by kernel_rfl) rfl
theorem ent_15 : Enters Try.prog 15 := enters_of Try.func15 (by kernel_rfl) rfl
theorem ent_16 : Enters Try.prog 16 := enters_of Try.func16 (by kernel_rfl) rfl
theorem ent_17 : Enters Try.prog 17 := enters_of Try.func17 (by kernel_rfl) rfl
theorem ent_18 : Enters Try.prog 18 := enters_of Try.func18 (by kernel_rfl) rfl
theorem ent_19 : Enters Try.prog 19 := enters_of Try.func19 (by kernel_rfl) rfl
theorem ent_20 : Enters Try.prog 20 := enters_of Try.func20 (by kernel_rfl) rfl
theorem ent_21 : Enters Try.prog 21 := enters_of Try.func21 (by kernel_rfl) rfl
theorem ent_22 : Enters Try.prog 22 := enters_of Try.func22 (by kernel_rfl) rfl
theorem ent_23 : Enters Try.prog 23 := enters_of Try.func23 (by kernel_rfl) rfl
theorem ent_24 : Enters Try.prog 24 := enters_of Try.func24 (by kernel_rfl) rfl
theorem ent_25 : Enters Try.prog 25 := enters_of Try.func25 (by kernel_rfl) rfl
theorem ent_26 : Enters Try.prog 26 := enters_of Try.func26 (by kernel_rfl) rfl
theorem ent_27 : Enters Try.prog 27 := enters_of Try.func27 (by kernel_rfl) rfl
theorem ent_28 : Enters Try.prog 28 := enters_of Try.func28 (by kernel_rfl) rfl
theorem ent_29 : Enters Try.prog 29 := enters_of Try.func29 (by kernel_rfl) rfl
theorem ent_30 : Enters Try.prog 30 := enters_of Try.func30 (by kernel_rfl) rfl
theorem ent_31 : Enters Try.prog 31 := enters_of Try.func31 (by kernel_rfl) rfl
theorem ent_32 : Enters Try.prog 32 := enters_of Try.func32 (by kernel_rfl) rfl
theorem ent_33 : Enters Try.prog 33 := enters_of Try.func33 (by kernel_rfl) rfl
theorem ent_34 : Enters Try.prog 34 := enters_of Try.func34 (by kernel_rfl) rfl
theorem ent_35 : Enters Try.prog 35 := enters_of Try.func35 (by kernel_rfl) rfl
theorem ent_36 : Enters Try.prog 36 := enters_of Try.func36 (by kernel_rfl) rfl
theorem ent_37 : Enters Try.prog 37 := enters_of Try.func37 (by kernel_rfl) rfl
theorem ent_38 : Enters Try.prog 38 := enters_of Try.func38 (by kernel_rfl) rfl
theorem ent_39 : Enters Try.prog 39 := enters_of Try.func39 (by kernel_rfl) rfl
theorem ent_40 : Enters Try.prog 40 := enters_of Try.func40 (by kernel_rfl) rfl
theorem ent_41 : Enters Try.prog 41 := enters_of Try.func41 (by kernel_rfl) rfl
theorem ent_42 : Enters Try.prog 42 := enters_of Try.func42 (by kernel_rfl) rfl
theorem ent_43 : Enters Try.prog 43 := enters_of Try.func43 (by kernel_rfl) rfl
theorem ent_44 : Enters Try.prog 44 := enters_of Try.func44 (by kernel_rfl) rfl
theorem ent_45 : Enters Try.prog 45 := enters_of Try.func45 (by kernel_rfl) rfl
theorem ent_46 : Enters Try.prog 46 := enters_of Try.func46 (by kernel_rfl) rfl
theorem ent_47 : Enters Try.prog 47 := enters_of Try.func47 (by kernel_rfl) rfl
theorem ent_48 : Enters Try.prog 48 := enters_of Try.func48 (by kernel_rfl) rfl
end Go.Proofs.Ytimmabejfigleaa
