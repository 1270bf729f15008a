/- Closed facts on this seat's types and functions: printed by my gen_facts.py. -/
import Derived.Test.YtegaejbfhpigjaaFunc
import Derived.Test.YtegaejbfhpigjaaProg
namespace Go.Proofs.Ytegaejbfhpigjaa
open Go.Shelf
theorem mixd : Try.prog.follows .mixedOrders = true := by kernel_rfl
theorem agg_7 : aggT Try.prog 7 = some 4 := by kernel_rfl
theorem agg_8 : aggT Try.prog 8 = some 4 := by kernel_rfl
theorem agg_13 : aggT Try.prog 13 = some 2 := by kernel_rfl
theorem agg_14 : aggT Try.prog 14 = some 2 := by kernel_rfl
theorem agg_18 : aggT Try.prog 18 = some 1 := by kernel_rfl
theorem agg_19 : aggT Try.prog 19 = some 1 := by kernel_rfl
theorem agg_26 : aggT Try.prog 26 = some 5 := by kernel_rfl
theorem agg_27 : aggT Try.prog 27 = some 5 := by kernel_rfl
theorem str_27 : Try.prog.underlying 27 = some (.struct (Try.prog.fieldsOf 27)) := by kernel_rfl
theorem fls_27 : (Try.prog.fieldsOf 27).toList.map (fun f => (f.name != "_", f.type, f.offset)) = [(true, 3, 0), (true, 3, 1), (true, 3, 2), (true, 3, 3), (true, 25, 4)] := by kernel_rfl
theorem agg_28 : aggT Try.prog 28 = some 7 := by kernel_rfl
theorem agg_29 : aggT Try.prog 29 = some 7 := by kernel_rfl
theorem str_29 : Try.prog.underlying 29 = some (.struct (Try.prog.fieldsOf 29)) := by kernel_rfl
theorem fls_29 : (Try.prog.fieldsOf 29).toList.map (fun f => (f.name != "_", f.type, f.offset)) = [(true, 3, 0), (true, 3, 1), (true, 27, 2)] := by kernel_rfl
theorem agg_35 : aggT Try.prog 35 = some 2 := by kernel_rfl
theorem agg_36 : aggT Try.prog 36 = some 2 := by kernel_rfl
theorem str_36 : Try.prog.underlying 36 = some (.struct (Try.prog.fieldsOf 36)) := by kernel_rfl
theorem fls_36 : (Try.prog.fieldsOf 36).toList.map (fun f => (f.name != "_", f.type, f.offset)) = [(true, 24, 0), (true, 3, 1)] := by kernel_rfl
theorem agg_49 : aggT Try.prog 49 = some 3 := by kernel_rfl
theorem agg_50 : aggT Try.prog 50 = some 3 := by kernel_rfl
theorem str_50 : Try.prog.underlying 50 = some (.struct (Try.prog.fieldsOf 50)) := by kernel_rfl
theorem fls_50 : (Try.prog.fieldsOf 50).toList.map (fun f => (f.name != "_", f.type, f.offset)) = [(true, 4, 0), (true, 24, 1), (true, 3, 2)] := by kernel_rfl
theorem agg_76 : aggT Try.prog 76 = some 4 := by kernel_rfl
theorem agg_77 : aggT Try.prog 77 = some 4 := by kernel_rfl
theorem agg_78 : aggT Try.prog 78 = some 0 := by kernel_rfl
theorem agg_79 : aggT Try.prog 79 = some 0 := by kernel_rfl
theorem agg_80 : aggT Try.prog 80 = some 0 := by kernel_rfl
theorem agg_88 : aggT Try.prog 88 = some 11 := by kernel_rfl
theorem agg_89 : aggT Try.prog 89 = some 11 := by kernel_rfl
def sizTab : List (Nat × Nat) := [(1, 1), (2, 1), (3, 1), (4, 1), (5, 1), (6, 1), (7, 4), (8, 4), (9, 1), (10, 1), (11, 1), (12, 1), (13, 2), (14, 2), (15, 1), (16, 1), (17, 1), (18, 1), (19, 1), (20, 1), (21, 1), (22, 1), (23, 1), (24, 1), (25, 1), (26, 5), (27, 5), (28, 7), (29, 7), (30, 1), (31, 1), (32, 1), (33, 1), (34, 1), (35, 2), (36, 2), (37, 1), (38, 1), (39, 1), (41, 1), (42, 1), (43, 1), (44, 1), (45, 1), (46, 1), (47, 1), (48, 1), (49, 3), (50, 3), (51, 1), (52, 1), (53, 1), (54, 1), (55, 1), (56, 1), (57, 1), (58, 1), (59, 1), (60, 1), (61, 1), (62, 1), (63, 1), (64, 1), (65, 1), (66, 1), (67, 1), (68, 1), (69, 1), (70, 1), (71, 1), (72, 1), (73, 1), (74, 1), (75, 1), (76, 4), (77, 4), (78, 0), (79, 0), (80, 0), (81, 1), (82, 1), (83, 1), (84, 1), (85, 1), (86, 1), (87, 1), (88, 11), (89, 11), (90, 1)]
theorem siz_all : sizTab.map (fun p => (fun t => sizT Try.prog t) p.1) = sizTab.map (fun p => some p.2) := by kernel_rfl
def oneTab : List (Nat × Bool) := [(1, true), (2, true), (3, true), (4, true), (5, true), (6, true), (9, true), (10, true), (11, true), (12, true), (15, true), (16, true), (17, true), (20, true), (21, true), (22, true), (23, true), (24, true), (25, true), (30, true), (31, true), (32, true), (33, true), (34, true), (37, true), (38, true), (39, true), (41, true), (42, true), (43, true), (44, true), (45, true), (46, true), (47, true), (48, true), (51, true), (52, true), (53, true), (54, true), (55, true), (56, true), (57, true), (58, true), (59, true), (60, true), (61, true), (62, true), (63, true), (64, true), (65, true), (66, true), (67, true), (68, true), (69, true), (70, true), (71, true), (72, true), (73, true), (74, true), (75, true), (81, true), (82, true), (83, true), (84, true), (85, true), (86, true), (87, true), (90, true)]
theorem one_all : oneTab.map (fun p => (fun t => some (oneT Try.prog t)) p.1) = oneTab.map (fun p => some p.2) := by kernel_rfl
def aggTab : List (Nat × Nat) := [(7, 4), (8, 4), (13, 2), (14, 2), (18, 1), (19, 1), (26, 5), (27, 5), (28, 7), (29, 7), (35, 2), (36, 2), (49, 3), (50, 3), (76, 4), (77, 4), (78, 0), (79, 0), (80, 0), (88, 11), (89, 11)]
theorem agg_all : aggTab.map (fun p => (fun t => aggT Try.prog t) p.1) = aggTab.map (fun p => some p.2) := by kernel_rfl
def fldTab : List (Nat × Nat) := [(700, 0), (701, 1), (702, 2), (703, 3), (800, 0), (801, 1), (802, 2), (803, 3), (1300, 0), (1301, 1), (1400, 0), (1401, 1), (1800, 0), (1900, 0), (2600, 0), (2601, 1), (2602, 2), (2603, 3), (2604, 4), (2700, 0), (2701, 1), (2702, 2), (2703, 3), (2704, 4), (2800, 0), (2801, 1), (2802, 2), (2900, 0), (2901, 1), (2902, 2), (3500, 0), (3501, 1), (3600, 0), (3601, 1), (4900, 0), (4901, 1), (4902, 2), (5000, 0), (5001, 1), (5002, 2), (7600, 0), (7601, 1), (7602, 2), (7603, 3), (7700, 0), (7701, 1), (7702, 2), (7703, 3), (8800, 0), (8801, 1), (8802, 2), (8803, 3), (8804, 4), (8805, 5), (8806, 6), (8807, 7), (8808, 8), (8809, 9), (8810, 10), (8900, 0), (8901, 1), (8902, 2), (8903, 3), (8904, 4), (8905, 5), (8906, 6), (8907, 7), (8908, 8), (8909, 9), (8910, 10)]
theorem fld_all : fldTab.map (fun p => (fun x => fld Try.prog (x / 100) (x % 100)) p.1) = fldTab.map (fun p => some p.2) := by kernel_rfl
def zerTab : List (Nat × Array Value) := [(1, #[.nilFunc]), (2, #[.int .i64 0]), (3, #[.int .i64 0]), (4, #[.bool false]), (5, #[.int .u8 0]), (6, #[.int .u8 0]), (7, #[.int .i64 0, .int .i64 0, .bool false, .int .u8 0]), (8, #[.int .i64 0, .int .i64 0, .bool false, .int .u8 0]), (9, #[.string ByteArray.empty]), (10, #[.string ByteArray.empty]), (11, #[.string ByteArray.empty]), (12, #[.int .u64 0]), (13, #[.string ByteArray.empty, .int .u64 0]), (14, #[.string ByteArray.empty, .int .u64 0]), (15, #[.pointer none]), (16, #[.pointer none]), (17, #[.pointer none]), (18, #[.pointer none]), (19, #[.pointer none]), (20, #[.nilIface]), (21, #[.int .i32 0]), (22, #[.slice none 0 0]), (23, #[.nilFunc]), (24, #[.slice none 0 0]), (25, #[.slice none 0 0]), (26, #[.int .i64 0, .int .i64 0, .int .i64 0, .int .i64 0, .slice none 0 0]), (27, #[.int .i64 0, .int .i64 0, .int .i64 0, .int .i64 0, .slice none 0 0]), (28, #[.int .i64 0, .int .i64 0, .int .i64 0, .int .i64 0, .int .i64 0, .int .i64 0, .slice none 0 0]), (29, #[.int .i64 0, .int .i64 0, .int .i64 0, .int .i64 0, .int .i64 0, .int .i64 0, .slice none 0 0]), (30, #[.nilFunc]), (31, #[.nilFunc]), (32, #[.pointer none]), (33, #[.nilFunc]), (34, #[.pointer none]), (35, #[.slice none 0 0, .int .i64 0]), (36, #[.slice none 0 0, .int .i64 0]), (37, #[.nilFunc]), (38, #[.nilFunc]), (39, #[.nilFunc]), (41, #[.nilFunc]), (42, #[.nilFunc]), (43, #[.nilFunc]), (44, #[.nilFunc]), (45, #[.nilFunc]), (46, #[.int .i64 0]), (47, #[.nilFunc]), (48, #[.nilFunc]), (49, #[.bool false, .slice none 0 0, .int .i64 0]), (50, #[.bool false, .slice none 0 0, .int .i64 0]), (51, #[.slice none 0 0]), (52, #[.nilFunc]), (53, #[.nilFunc]), (54, #[.nilFunc]), (55, #[.nilFunc]), (56, #[.nilFunc]), (57, #[.nilFunc]), (58, #[.nilFunc]), (59, #[.nilFunc]), (60, #[.nilFunc]), (61, #[.nilFunc]), (62, #[.nilFunc]), (63, #[.nilFunc]), (64, #[.nilFunc]), (65, #[.nilFunc]), (66, #[.nilFunc]), (67, #[.nilFunc]), (68, #[.nilFunc]), (69, #[.nilFunc]), (70, #[.nilFunc]), (71, #[.nilFunc]), (72, #[.nilFunc]), (73, #[.nilFunc]), (74, #[.nilFunc]), (75, #[.nilFunc]), (76, #[.pointer none, .pointer none, .pointer none, .string ByteArray.empty]), (77, #[.pointer none, .pointer none, .pointer none, .string ByteArray.empty]), (78, #[]), (79, #[]), (80, #[]), (81, #[.int .u32 0]), (82, #[.int .u8 0]), (83, #[.int .u8 0]), (84, #[.nilFunc]), (85, #[.pointer none]), (86, #[.int .i32 0]), (87, #[.int .i32 0]), (88, #[.int .u64 0, .int .u64 0, .int .u32 0, .int .u8 0, .int .u8 0, .int .u8 0, .int .u8 0, .nilFunc, .pointer none, .int .i32 0, .int .i32 0]), (89, #[.int .u64 0, .int .u64 0, .int .u32 0, .int .u8 0, .int .u8 0, .int .u8 0, .int .u8 0, .nilFunc, .pointer none, .int .i32 0, .int .i32 0]), (90, #[.pointer none])]
theorem zer_all : zerTab.map (fun p => (fun t => zerT Try.prog t) p.1) = zerTab.map (fun p => some p.2) := by kernel_rfl
def appTab : List (Nat × Nat × Nat × Nat) := [(22, (29, 7, 72)), (24, (27, 5, 56)), (25, (5, 1, 1)), (51, (32, 1, 8))]
theorem app_all : appTab.map (fun p => (fun t => appT Try.prog t) p.1) = appTab.map (fun p => some p.2) := by kernel_rfl
def undTab : List (Nat × TypeDesc) := [(2, .int .i64), (3, .int .i64), (4, .bool), (5, .int .u8), (6, .int .u8), (9, .string), (10, .string), (11, .string), (12, .int .u64), (15, .pointer 77), (16, .pointer 80), (17, .pointer 89), (21, .int .i32), (22, .slice 29), (24, .slice 27), (25, .slice 5), (32, .pointer 50), (34, .pointer 36), (46, .int .i64), (51, .slice 32), (78, .array 0 16), (81, .int .u32), (82, .int .u8), (83, .int .u8), (85, .pointer 5), (86, .int .i32), (87, .int .i32)]
theorem und_all : undTab.map (fun p => (fun t => Try.prog.underlying t) p.1) = undTab.map (fun p => some p.2) := by kernel_rfl
def ptrTab : List (Nat × Nat) := [(15, 77), (16, 80), (17, 89), (32, 50), (34, 36), (85, 5)]
theorem ptr_all : ptrTab.map (fun p => (fun t => some (Try.prog.pointee t)) p.1) = ptrTab.map (fun p => some p.2) := by kernel_rfl
def eqgTab : List (Nat × Bool) := [(8, false), (13, false), (14, false), (18, false), (19, false), (26, false), (27, false), (28, false), (29, false), (35, false), (36, false), (49, false), (50, false), (76, false), (77, false), (78, false), (79, false), (80, false), (88, false), (89, false)]
theorem eqg_all : eqgTab.map (fun p => (fun t => some (Try.prog.eqGuardType Try.prog.depth t)) p.1) = eqgTab.map (fun p => some p.2) := by kernel_rfl
def stoTab : List (Nat × Bool) := [(27, false), (29, false), (36, false), (50, false)]
theorem sto_all : stoTab.map (fun p => (fun t => some (Try.prog.stoodInHeld t)) p.1) = stoTab.map (fun p => some p.2) := by kernel_rfl
theorem siz_of {t k : Nat} (h : tg sizTab t = some k) : sizT Try.prog t = some k := tg_ok (f := fun t => sizT Try.prog t) siz_all h
theorem one_of {t : Nat} (h : tg oneTab t = some true) : oneT Try.prog t = true := Option.some.inj (tg_ok (f := fun t => some (oneT Try.prog t)) one_all h)
theorem agg_of {t k : Nat} (h : tg aggTab t = some k) : aggT Try.prog t = some k := tg_ok (f := fun t => aggT Try.prog t) agg_all h
theorem fld_of {t i o : Nat} (h0 : Nat.blt i 100 = true) (h : tg fldTab (t * 100 + i) = some o) : fld Try.prog t i = some o := by
  have h1 := tg_ok (f := fun x => fld Try.prog (x / 100) (x % 100)) fld_all h
  have h2 : i < 100 := Nat.le_of_ble_eq_true h0
  have h3 : (t * 100 + i) / 100 = t := by omega
  have h4 : (t * 100 + i) % 100 = i := by omega
  simpa only [h3, h4] using h1
theorem zer_of {t : Nat} {k : Array Value} (h : tg zerTab t = some k) : zerT Try.prog t = some k := tg_ok (f := fun t => zerT Try.prog t) zer_all h
theorem app_of {t : Nat} {k : Nat × Nat × Nat} (h : tg appTab t = some k) : appT Try.prog t = some k := tg_ok (f := fun t => appT Try.prog t) app_all h
theorem und_of {t : Nat} {k : TypeDesc} (h : tg undTab t = some k) : Try.prog.underlying t = some k := tg_ok (f := fun t => Try.prog.underlying t) und_all h
theorem ptr_of {t e : Nat} (h : tg undTab t = some (.pointer e)) (h2 : tg ptrTab t = some e) : Try.prog.underlying t = some (.pointer (Try.prog.pointee t)) := by
  have h3 : Try.prog.pointee t = e := Option.some.inj (tg_ok (f := fun t => some (Try.prog.pointee t)) ptr_all h2)
  rw [h3]; exact und_of h
theorem eqg_of {t : Nat} (h : tg eqgTab t = some false) : Try.prog.eqGuardType Try.prog.depth t = false := Option.some.inj (tg_ok (f := fun t => some (Try.prog.eqGuardType Try.prog.depth t)) eqg_all h)
theorem sto_of {t : Nat} (h : tg stoTab t = some false) : Try.prog.stoodInHeld t = false := Option.some.inj (tg_ok (f := fun t => some (Try.prog.stoodInHeld t)) sto_all h)
theorem siz_7 : sizT Try.prog 7 = some 4 := siz_of rfl
theorem siz_8 : sizT Try.prog 8 = some 4 := siz_of rfl
theorem siz_13 : sizT Try.prog 13 = some 2 := siz_of rfl
theorem siz_14 : sizT Try.prog 14 = some 2 := siz_of rfl
theorem siz_18 : sizT Try.prog 18 = some 1 := siz_of rfl
theorem siz_19 : sizT Try.prog 19 = some 1 := siz_of rfl
theorem siz_26 : sizT Try.prog 26 = some 5 := siz_of rfl
theorem siz_27 : sizT Try.prog 27 = some 5 := siz_of rfl
theorem siz_28 : sizT Try.prog 28 = some 7 := siz_of rfl
theorem siz_29 : sizT Try.prog 29 = some 7 := siz_of rfl
theorem siz_35 : sizT Try.prog 35 = some 2 := siz_of rfl
theorem siz_36 : sizT Try.prog 36 = some 2 := siz_of rfl
theorem siz_49 : sizT Try.prog 49 = some 3 := siz_of rfl
theorem siz_50 : sizT Try.prog 50 = some 3 := siz_of rfl
theorem siz_76 : sizT Try.prog 76 = some 4 := siz_of rfl
theorem siz_77 : sizT Try.prog 77 = some 4 := siz_of rfl
theorem siz_78 : sizT Try.prog 78 = some 0 := siz_of rfl
theorem siz_79 : sizT Try.prog 79 = some 0 := siz_of rfl
theorem siz_80 : sizT Try.prog 80 = some 0 := siz_of rfl
theorem siz_88 : sizT Try.prog 88 = some 11 := siz_of rfl
theorem siz_89 : sizT Try.prog 89 = some 11 := siz_of rfl
theorem ent_3 : Enters Try.prog 3 := enters_of Try.func3 (by kernel_rfl) rfl
theorem ent_4 : Enters Try.prog 4 := enters_of Try.func4 (by kernel_rfl) rfl
theorem ent_5 : Enters Try.prog 5 := enters_of Try.func5 (by kernel_rfl) rfl
theorem ent_6 : Enters Try.prog 6 := enters_of Try.func6 (by kernel_rfl) rfl
theorem ent_7 : Enters Try.prog 7 := enters_of Try.func7 (by kernel_rfl) rfl
theorem ent_8 : Enters Try.prog 8 := enters_of Try.func8 (by kernel_rfl) rfl
theorem ent_9 : Enters Try.prog 9 := enters_of Try.func9 (by kernel_rfl) rfl
theorem ent_10 : Enters Try.prog 10 := enters_of Try.func10 (by kernel_rfl) rfl
theorem ent_11 : Enters Try.prog 11 := enters_of Try.func11 (by kernel_rfl) rfl
theorem ent_12 : Enters Try.prog 12 := enters_of Try.func12 (by kernel_rfl) rfl
theorem ent_13 : Enters Try.prog 13 := enters_of Try.func13 (by kernel_rfl) rfl
theorem ent_14 : Enters Try.prog 14 := enters_of Try.func14 (by kernel_rfl) rfl
theorem ent_15 : Enters Try.prog 15 := enters_of Try.func15 (by kernel_rfl) rfl
theorem ent_16 : Enters Try.prog 16 := enters_of Try.func16 (by kernel_rfl) rfl
theorem ent_17 : Enters Try.prog 17 := enters_of Try.func17 (by kernel_rfl) rfl
theorem ent_18 : Enters Try.prog 18 := enters_of Try.func18 (by kernel_rfl) rfl
theorem ent_19 : Enters Try.prog 19 := enters_of Try.func19 (by kernel_rfl) rfl
theorem ent_20 : Enters Try.prog 20 := enters_of Try.func20 (by kernel_rfl) rfl
theorem ent_21 : Enters Try.prog 21 := enters_of Try.func21 (by kernel_rfl) rfl
theorem ent_22 : Enters Try.prog 22 := enters_of Try.func22 (by kernel_rfl) rfl
theorem ent_23 : Enters Try.prog 23 := enters_of Try.func23 (by kernel_rfl) rfl
theorem ent_24 : Enters Try.prog 24 := enters_of Try.func24 (by kernel_rfl) rfl
theorem ent_25 : Enters Try.prog 25 := enters_of Try.func25 (by kernel_rfl) rfl
theorem ent_26 : Enters Try.prog 26 := enters_of Try.func26 (by kernel_rfl) rfl
theorem ent_27 : Enters Try.prog 27 := enters_of Try.func27 (by kernel_rfl) rfl
theorem ent_28 : Enters Try.prog 28 := enters_of Try.func28 (by kernel_rfl) rfl
theorem ent_29 : Enters Try.prog 29 := enters_of Try.func29 (by kernel_rfl) rfl
theorem ent_30 : Enters Try.prog 30 := enters_of Try.func30 (by kernel_rfl) rfl
theorem ent_31 : Enters Try.prog 31 := enters_of Try.func31 (by kernel_rfl) rfl
theorem ent_32 : Enters Try.prog 32 := enters_of Try.func32 (by kernel_rfl) rfl
theorem ent_33 : Enters Try.prog 33 := enters_of Try.func33 (by kernel_rfl) rfl
theorem ent_34 : Enters Try.prog 34 := enters_of Try.func34 (by kernel_rfl) rfl
theorem ent_35 : Enters Try.prog 35 := enters_of Try.func35 (by kernel_rfl) rfl
theorem ent_36 : Enters Try.prog 36 := enters_of Try.func36 (by kernel_rfl) rfl
theorem ent_37 : Enters Try.prog 37 := enters_of Try.func37 (by kernel_rfl) rfl
theorem ent_38 : Enters Try.prog 38 := enters_of Try.func38 (by kernel_rfl) rfl
theorem ent_39 : Enters Try.prog 39 := enters_of Try.func39 (by kernel_rfl) rfl
theorem ent_40 : Enters Try.prog 40 := enters_of Try.func40 (by kernel_rfl) rfl
theorem ent_41 : Enters Try.prog 41 := enters_of Try.func41 (by kernel_rfl) rfl
theorem ent_42 : Enters Try.prog 42 := enters_of Try.func42 (by kernel_rfl) rfl
theorem ent_43 : Enters Try.prog 43 := enters_of Try.func43 (by kernel_rfl) rfl
theorem ent_44 : Enters Try.prog 44 := enters_of Try.func44 (by kernel_rfl) rfl
theorem ent_45 : Enters Try.prog 45 := enters_of Try.func45 (by kernel_rfl) rfl
theorem ent_46 : Enters Try.prog 46 := enters_of Try.func46 (by kernel_rfl) rfl
theorem ent_47 : Enters Try.prog 47 := enters_of Try.func47 (by kernel_rfl) rfl
theorem ent_48 : Enters Try.prog 48 := enters_of Try.func48 (by kernel_rfl) rfl
theorem ent_49 : Enters Try.prog 49 := enters_of Try.func49 (by kernel_rfl) rfl
theorem ent_50 : Enters Try.prog 50 := enters_of Try.func50 (by kernel_rfl) rfl
theorem ent_51 : Enters Try.prog 51 := enters_of Try.func51 (by kernel_rfl) rfl
end Go.Proofs.Ytegaejbfhpigjaa
