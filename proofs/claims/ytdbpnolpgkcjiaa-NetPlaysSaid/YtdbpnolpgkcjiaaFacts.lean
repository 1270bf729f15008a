/- Closed facts on this seat's types and functions: printed by my gen_facts.py. -/
import Derived.Test.YtdbpnolpgkcjiaaFunc
import Derived.Test.YtdbpnolpgkcjiaaProg
namespace Go.Proofs.Ytdbpnolpgkcjiaa
open Go.Shelf
theorem mixd : Try.prog.follows .mixedOrders = true := by kernel_rfl
theorem agg_7 : aggT Try.prog 7 = some 4 := by kernel_rfl
theorem agg_8 : aggT Try.prog 8 = some 4 := by kernel_rfl
theorem agg_13 : aggT Try.prog 13 = some 2 := by kernel_rfl
theorem agg_14 : aggT Try.prog 14 = some 2 := by kernel_rfl
theorem agg_18 : aggT Try.prog 18 = some 1 := by kernel_rfl
theorem agg_19 : aggT Try.prog 19 = some 1 := by kernel_rfl
theorem agg_30 : aggT Try.prog 30 = some 3 := by kernel_rfl
theorem agg_31 : aggT Try.prog 31 = some 3 := by kernel_rfl
theorem str_31 : Try.prog.underlying 31 = some (.struct (Try.prog.fieldsOf 31)) := by kernel_rfl
theorem fls_31 : (Try.prog.fieldsOf 31).toList.map (fun f => (f.name != "_", f.type, f.offset)) = [(true, 3, 0), (true, 3, 1), (true, 29, 2)] := by kernel_rfl
theorem agg_35 : aggT Try.prog 35 = some 1 := by kernel_rfl
theorem agg_36 : aggT Try.prog 36 = some 1 := by kernel_rfl
theorem str_36 : Try.prog.underlying 36 = some (.struct (Try.prog.fieldsOf 36)) := by kernel_rfl
theorem fls_36 : (Try.prog.fieldsOf 36).toList.map (fun f => (f.name != "_", f.type, f.offset)) = [(true, 34, 0)] := by kernel_rfl
theorem agg_44 : aggT Try.prog 44 = some 1 := by kernel_rfl
theorem agg_45 : aggT Try.prog 45 = some 1 := by kernel_rfl
theorem str_45 : Try.prog.underlying 45 = some (.struct (Try.prog.fieldsOf 45)) := by kernel_rfl
theorem fls_45 : (Try.prog.fieldsOf 45).toList.map (fun f => (f.name != "_", f.type, f.offset)) = [(true, 29, 0)] := by kernel_rfl
theorem agg_67 : aggT Try.prog 67 = some 4 := by kernel_rfl
theorem agg_68 : aggT Try.prog 68 = some 4 := by kernel_rfl
theorem agg_69 : aggT Try.prog 69 = some 0 := by kernel_rfl
theorem agg_70 : aggT Try.prog 70 = some 0 := by kernel_rfl
theorem agg_71 : aggT Try.prog 71 = some 0 := by kernel_rfl
theorem agg_79 : aggT Try.prog 79 = some 11 := by kernel_rfl
theorem agg_80 : aggT Try.prog 80 = some 11 := by kernel_rfl
def sizTab : List (Nat × Nat) := [(1, 1), (2, 1), (3, 1), (4, 1), (5, 1), (6, 1), (7, 4), (8, 4), (9, 1), (10, 1), (11, 1), (12, 1), (13, 2), (14, 2), (15, 1), (16, 1), (17, 1), (18, 1), (19, 1), (20, 1), (21, 1), (22, 1), (23, 1), (24, 1), (25, 1), (26, 1), (27, 1), (28, 1), (29, 1), (30, 3), (31, 3), (32, 1), (33, 1), (34, 1), (35, 1), (36, 1), (37, 1), (38, 1), (40, 1), (41, 1), (42, 1), (43, 1), (44, 1), (45, 1), (46, 1), (47, 1), (48, 1), (49, 1), (50, 1), (51, 1), (52, 1), (53, 1), (54, 1), (55, 1), (56, 1), (57, 1), (59, 1), (60, 1), (62, 1), (63, 1), (64, 1), (65, 1), (66, 1), (67, 4), (68, 4), (69, 0), (70, 0), (71, 0), (72, 1), (73, 1), (74, 1), (75, 1), (76, 1), (77, 1), (78, 1), (79, 11), (80, 11), (81, 1)]
theorem siz_all : sizTab.map (fun p => (fun t => sizT Try.prog t) p.1) = sizTab.map (fun p => some p.2) := by kernel_rfl
def oneTab : List (Nat × Bool) := [(1, true), (2, true), (3, true), (4, true), (5, true), (6, true), (9, true), (10, true), (11, true), (12, true), (15, true), (16, true), (17, true), (20, true), (21, true), (22, true), (23, true), (24, true), (25, true), (26, true), (27, true), (28, true), (29, true), (32, true), (33, true), (34, true), (37, true), (38, true), (40, true), (41, true), (42, true), (43, true), (46, true), (47, true), (48, true), (49, true), (50, true), (51, true), (52, true), (53, true), (54, true), (55, true), (56, true), (57, true), (59, true), (60, true), (62, true), (63, true), (64, true), (65, true), (66, true), (72, true), (73, true), (74, true), (75, true), (76, true), (77, true), (78, true), (81, true)]
theorem one_all : oneTab.map (fun p => (fun t => some (oneT Try.prog t)) p.1) = oneTab.map (fun p => some p.2) := by kernel_rfl
def aggTab : List (Nat × Nat) := [(7, 4), (8, 4), (13, 2), (14, 2), (18, 1), (19, 1), (30, 3), (31, 3), (35, 1), (36, 1), (44, 1), (45, 1), (67, 4), (68, 4), (69, 0), (70, 0), (71, 0), (79, 11), (80, 11)]
theorem agg_all : aggTab.map (fun p => (fun t => aggT Try.prog t) p.1) = aggTab.map (fun p => some p.2) := by kernel_rfl
def fldTab : List (Nat × Nat) := [(700, 0), (701, 1), (702, 2), (703, 3), (800, 0), (801, 1), (802, 2), (803, 3), (1300, 0), (1301, 1), (1400, 0), (1401, 1), (1800, 0), (1900, 0), (3000, 0), (3001, 1), (3002, 2), (3100, 0), (3101, 1), (3102, 2), (3500, 0), (3600, 0), (4400, 0), (4500, 0), (6700, 0), (6701, 1), (6702, 2), (6703, 3), (6800, 0), (6801, 1), (6802, 2), (6803, 3), (7900, 0), (7901, 1), (7902, 2), (7903, 3), (7904, 4), (7905, 5), (7906, 6), (7907, 7), (7908, 8), (7909, 9), (7910, 10), (8000, 0), (8001, 1), (8002, 2), (8003, 3), (8004, 4), (8005, 5), (8006, 6), (8007, 7), (8008, 8), (8009, 9), (8010, 10)]
theorem fld_all : fldTab.map (fun p => (fun x => fld Try.prog (x / 100) (x % 100)) p.1) = fldTab.map (fun p => some p.2) := by kernel_rfl
def zerTab : List (Nat × Array Value) := [(1, #[.nilFunc]), (2, #[.int .i64 0]), (3, #[.int .i64 0]), (4, #[.bool false]), (5, #[.int .u8 0]), (6, #[.int .u8 0]), (7, #[.int .i64 0, .int .i64 0, .bool false, .int .u8 0]), (8, #[.int .i64 0, .int .i64 0, .bool false, .int .u8 0]), (9, #[.string ByteArray.empty]), (10, #[.string ByteArray.empty]), (11, #[.string ByteArray.empty]), (12, #[.int .u64 0]), (13, #[.string ByteArray.empty, .int .u64 0]), (14, #[.string ByteArray.empty, .int .u64 0]), (15, #[.pointer none]), (16, #[.pointer none]), (17, #[.pointer none]), (18, #[.pointer none]), (19, #[.pointer none]), (20, #[.nilIface]), (21, #[.int .i32 0]), (22, #[.pointer none]), (23, #[.nilFunc]), (24, #[.int .i64 0]), (25, #[.nilFunc]), (26, #[.nilFunc]), (27, #[.nilFunc]), (28, #[.nilFunc]), (29, #[.slice none 0 0]), (30, #[.int .i64 0, .int .i64 0, .slice none 0 0]), (31, #[.int .i64 0, .int .i64 0, .slice none 0 0]), (32, #[.nilFunc]), (33, #[.slice none 0 0]), (34, #[.chan none]), (35, #[.chan none]), (36, #[.chan none]), (37, #[.slice none 0 0]), (38, #[.slice none 0 0]), (40, #[.nilFunc]), (41, #[.nilFunc]), (42, #[.nilFunc]), (43, #[.pointer none]), (44, #[.slice none 0 0]), (45, #[.slice none 0 0]), (46, #[.nilFunc]), (47, #[.nilFunc]), (48, #[.nilFunc]), (49, #[.nilFunc]), (50, #[.nilFunc]), (51, #[.slice none 0 0]), (52, #[.int .u64 0]), (53, #[.nilFunc]), (54, #[.nilFunc]), (55, #[.nilFunc]), (56, #[.nilFunc]), (57, #[.nilFunc]), (59, #[.nilFunc]), (60, #[.nilFunc]), (62, #[.nilFunc]), (63, #[.nilFunc]), (64, #[.nilFunc]), (65, #[.nilFunc]), (66, #[.nilFunc]), (67, #[.pointer none, .pointer none, .pointer none, .string ByteArray.empty]), (68, #[.pointer none, .pointer none, .pointer none, .string ByteArray.empty]), (69, #[]), (70, #[]), (71, #[]), (72, #[.int .u32 0]), (73, #[.int .u8 0]), (74, #[.int .u8 0]), (75, #[.nilFunc]), (76, #[.pointer none]), (77, #[.int .i32 0]), (78, #[.int .i32 0]), (79, #[.int .u64 0, .int .u64 0, .int .u32 0, .int .u8 0, .int .u8 0, .int .u8 0, .int .u8 0, .nilFunc, .pointer none, .int .i32 0, .int .i32 0]), (80, #[.int .u64 0, .int .u64 0, .int .u32 0, .int .u8 0, .int .u8 0, .int .u8 0, .int .u8 0, .nilFunc, .pointer none, .int .i32 0, .int .i32 0]), (81, #[.pointer none])]
theorem zer_all : zerTab.map (fun p => (fun t => zerT Try.prog t) p.1) = zerTab.map (fun p => some p.2) := by kernel_rfl
def appTab : List (Nat × Nat × Nat × Nat) := [(29, (38, 1, 24)), (33, (31, 3, 40)), (37, (22, 1, 8)), (38, (5, 1, 1)), (51, (3, 1, 8))]
theorem app_all : appTab.map (fun p => (fun t => appT Try.prog t) p.1) = appTab.map (fun p => some p.2) := by kernel_rfl
def undTab : List (Nat × TypeDesc) := [(2, .int .i64), (3, .int .i64), (4, .bool), (5, .int .u8), (6, .int .u8), (9, .string), (10, .string), (11, .string), (12, .int .u64), (15, .pointer 68), (16, .pointer 71), (17, .pointer 80), (21, .int .i32), (22, .pointer 36), (24, .int .i64), (29, .slice 38), (33, .slice 31), (37, .slice 22), (38, .slice 5), (43, .pointer 45), (51, .slice 3), (52, .int .u64), (69, .array 0 16), (72, .int .u32), (73, .int .u8), (74, .int .u8), (76, .pointer 5), (77, .int .i32), (78, .int .i32)]
theorem und_all : undTab.map (fun p => (fun t => Try.prog.underlying t) p.1) = undTab.map (fun p => some p.2) := by kernel_rfl
def ptrTab : List (Nat × Nat) := [(15, 68), (16, 71), (17, 80), (22, 36), (43, 45), (76, 5)]
theorem ptr_all : ptrTab.map (fun p => (fun t => some (Try.prog.pointee t)) p.1) = ptrTab.map (fun p => some p.2) := by kernel_rfl
def eqgTab : List (Nat × Bool) := [(8, false), (13, false), (14, false), (18, false), (19, false), (30, false), (31, false), (35, false), (36, false), (44, false), (45, false), (67, false), (68, false), (69, false), (70, false), (71, false), (79, false), (80, false)]
theorem eqg_all : eqgTab.map (fun p => (fun t => some (Try.prog.eqGuardType Try.prog.depth t)) p.1) = eqgTab.map (fun p => some p.2) := by kernel_rfl
def stoTab : List (Nat × Bool) := [(31, false), (36, false), (45, false)]
theorem sto_all : stoTab.map (fun p => (fun t => some (Try.prog.stoodInHeld t)) p.1) = stoTab.map (fun p => some p.2) := by kernel_rfl
theorem siz_of {t k : Nat} (h : tg sizTab t = some k) : sizT Try.prog t = some k := tg_ok (f := fun t => sizT Try.prog t) siz_all h
theorem one_of {t : Nat} (h : tg oneTab t = some true) : oneT Try.prog t = true := Option.some.inj (tg_ok (f := fun t => some (oneT Try.prog t)) one_all h)
theorem agg_of {t k : Nat} (h : tg aggTab t = some k) : aggT Try.prog t = some k := tg_ok (f := fun t => aggT Try.prog t) agg_all h
theorem fld_of {t i o : Nat} (h0 : Nat.blt i 100 = true) (h : tg fldTab (t * 100 + i) = some o) : fld Try.prog t i = some o := by
  have h1 := tg_ok (f := fun x => fld Try.prog (x / 100) (x % 100)) fld_all h
  have h2 : i < 100 := Nat.le_of_ble_eq_true h0
  have h3 : (t * 100 + i) / 100 = t := by omega
  have h4 : (t * 100 + i) % 100 = i := by omega
  simpa only [h3, h4] using h1
theorem zer_of {t : Nat} {k : Array Value} (h : tg zerTab t = some k) : zerT Try.prog t = some k := tg_ok (f := fun t => zerT Try.prog t) zer_all h
theorem app_of {t : Nat} {k : Nat × Nat × Nat} (h : tg appTab t = some k) : appT Try.prog t = some k := tg_ok (f := fun t => appT Try.prog t) app_all h
theorem und_of {t : Nat} {k : TypeDesc} (h : tg undTab t = some k) : Try.prog.underlying t = some k := tg_ok (f := fun t => Try.prog.underlying t) und_all h
theorem ptr_of {t e : Nat} (h : tg undTab t = some (.pointer e)) (h2 : tg ptrTab t = some e) : Try.prog.underlying t = some (.pointer (Try.prog.pointee t)) := by
  have h3 : Try.prog.pointee t = e := Option.some.inj (tg_ok (f := fun t => some (Try.prog.pointee t)) ptr_all h2)
  rw [h3]; exact und_of h
theorem eqg_of {t : Nat} (h : tg eqgTab t = some false) : Try.prog.eqGuardType Try.prog.depth t = false := Option.some.inj (tg_ok (f := fun t => some (Try.prog.eqGuardType Try.prog.depth t)) eqg_all h)
theorem sto_of {t : Nat} (h : tg stoTab t = some false) : Try.prog.stoodInHeld t = false := Option.some.inj (tg_ok (f := fun t => some (Try.prog.stoodInHeld t)) sto_all h)
theorem siz_7 : sizT Try.prog 7 = some 4 := siz_of rfl
theorem siz_8 : sizT Try.prog 8 = some 4 := siz_of rfl
theorem siz_13 : sizT Try.prog 13 = some 2 := siz_of rfl
theorem siz_14 : sizT Try.prog 14 = some 2 := siz_of rfl
theorem siz_18 : sizT Try.prog 18 = some 1 := siz_of rfl
theorem siz_19 : sizT Try.prog 19 = some 1 := siz_of rfl
theorem siz_30 : sizT Try.prog 30 = some 3 := siz_of rfl
theorem siz_31 : sizT Try.prog 31 = some 3 := siz_of rfl
theorem siz_35 : sizT Try.prog 35 = some 1 := siz_of rfl
theorem siz_36 : sizT Try.prog 36 = some 1 := siz_of rfl
theorem siz_44 : sizT Try.prog 44 = some 1 := siz_of rfl
theorem siz_45 : sizT Try.prog 45 = some 1 := siz_of rfl
theorem siz_67 : sizT Try.prog 67 = some 4 := siz_of rfl
theorem siz_68 : sizT Try.prog 68 = some 4 := siz_of rfl
theorem siz_69 : sizT Try.prog 69 = some 0 := siz_of rfl
theorem siz_70 : sizT Try.prog 70 = some 0 := siz_of rfl
theorem siz_71 : sizT Try.prog 71 = some 0 := siz_of rfl
theorem siz_79 : sizT Try.prog 79 = some 11 := siz_of rfl
theorem siz_80 : sizT Try.prog 80 = some 11 := siz_of rfl
theorem ent_3 : Enters Try.prog 3 := enters_of Try.func3 (by kernel_rfl) rfl
theorem ent_4 : Enters Try.prog 4 := enters_of Try.func4 (by kernel_rfl) rfl
theorem ent_5 : Enters Try.prog 5 := enters_of Try.func5 (by kernel_rfl) rfl
theorem ent_6 : Enters Try.prog 6 := enters_of Try.func6 (by kernel_rfl) rfl
theorem ent_7 : Enters Try.prog 7 := enters_of Try.func7 (by kernel_rfl) rfl
theorem ent_8 : Enters Try.prog 8 := enters_of Try.func8 (by kernel_rfl) rfl
theorem ent_9 : Enters Try.prog 9 := enters_of Try.func9 (by kernel_rfl) rfl
theorem ent_10 : Enters Try.prog 10 := enters_of Try.func10 (by kernel_rfl) rfl
theorem ent_11 : Enters Try.prog 11 := enters_of Try.func11 (by kernel_rfl) rfl
theorem ent_12 : Enters Try.prog 12 := enters_of Try.func12 (by kernel_rfl) rfl
theorem ent_13 : Enters Try.prog 13 := enters_of Try.func13 (by kernel_rfl) rfl
theorem ent_14 : Enters Try.prog 14 := enters_of Try.func14 (by kernel_rfl) rfl
theorem ent_15 : Enters Try.prog 15 := enters_of Try.func15 (by kernel_rfl) rfl
theorem ent_16 : Enters Try.prog 16 := enters_of Try.func16 (by kernel_rfl) rfl
theorem ent_17 : Enters Try.prog 17 := enters_of Try.func17 (by kernel_rfl) rfl
theorem ent_18 : Enters Try.prog 18 := enters_of Try.func18 (by kernel_rfl) rfl
theorem ent_19 : Enters Try.prog 19 := enters_of Try.func19 (by kernel_rfl) rfl
theorem ent_20 : Enters Try.prog 20 := enters_of Try.func20 (by kernel_rfl) rfl
theorem ent_21 : Enters Try.prog 21 := enters_of Try.func21 (by kernel_rfl) rfl
theorem ent_22 : Enters Try.prog 22 := enters_of Try.func22 (by kernel_rfl) rfl
theorem ent_23 : Enters Try.prog 23 := enters_of Try.func23 (by kernel_rfl) rfl
theorem ent_24 : Enters Try.prog 24 := enters_of Try.func24 (by kernel_rfl) rfl
theorem ent_25 : Enters Try.prog 25 := enters_of Try.func25 (by kernel_rfl) rfl
theorem ent_26 : Enters Try.prog 26 := enters_of Try.func26 (by kernel_rfl) rfl
theorem ent_27 : Enters Try.prog 27 := enters_of Try.func27 (by kernel_rfl) rfl
theorem ent_28 : Enters Try.prog 28 := enters_of Try.func28 (by kernel_rfl) rfl
theorem ent_29 : Enters Try.prog 29 := enters_of Try.func29 (by kernel_rfl) rfl
theorem ent_30 : Enters Try.prog 30 := enters_of Try.func30 (by kernel_rfl) rfl
theorem ent_31 : Enters Try.prog 31 := enters_of Try.func31 (by kernel_rfl) rfl
theorem ent_32 : Enters Try.prog 32 := enters_of Try.func32 (by kernel_rfl) rfl
theorem ent_33 : Enters Try.prog 33 := enters_of Try.func33 (by kernel_rfl) rfl
theorem ent_34 : Enters Try.prog 34 := enters_of Try.func34 (by kernel_rfl) rfl
end Go.Proofs.Ytdbpnolpgkcjiaa
