/- Closed facts on this seat's types and functions: printed by my gen_facts.py. -/
import Derived.Test.YtggbiklkigjegaaFunc
import Derived.Test.YtggbiklkigjegaaProg
namespace Go.Proofs.Ytggbiklkigjegaa
open Go.Shelf
theorem mixd : Try.prog.follows .mixedOrders = true := by kernel_rfl
theorem agg_7 : aggT Try.prog 7 = some 4 := by kernel_rfl
theorem agg_8 : aggT Try.prog 8 = some 4 := by kernel_rfl
theorem agg_13 : aggT Try.prog 13 = some 2 := by kernel_rfl
theorem agg_14 : aggT Try.prog 14 = some 2 := by kernel_rfl
theorem agg_18 : aggT Try.prog 18 = some 1 := by kernel_rfl
theorem agg_19 : aggT Try.prog 19 = some 1 := by kernel_rfl
theorem agg_22 : aggT Try.prog 22 = some 3 := by kernel_rfl
theorem agg_23 : aggT Try.prog 23 = some 3 := by kernel_rfl
theorem str_23 : Try.prog.underlying 23 = some (.struct (Try.prog.fieldsOf 23)) := by kernel_rfl
theorem fls_23 : (Try.prog.fieldsOf 23).toList.map (fun f => (f.name != "_", f.type, f.offset)) = [(true, 3, 0), (true, 3, 1), (true, 9, 2)] := by kernel_rfl
theorem agg_37 : aggT Try.prog 37 = some 2 := by kernel_rfl
theorem agg_38 : aggT Try.prog 38 = some 2 := by kernel_rfl
theorem str_38 : Try.prog.underlying 38 = some (.struct (Try.prog.fieldsOf 38)) := by kernel_rfl
theorem fls_38 : (Try.prog.fieldsOf 38).toList.map (fun f => (f.name != "_", f.type, f.offset)) = [(true, 3, 0), (true, 36, 1)] := by kernel_rfl
theorem agg_46 : aggT Try.prog 46 = some 3 := by kernel_rfl
theorem agg_47 : aggT Try.prog 47 = some 3 := by kernel_rfl
theorem str_47 : Try.prog.underlying 47 = some (.struct (Try.prog.fieldsOf 47)) := by kernel_rfl
theorem fls_47 : (Try.prog.fieldsOf 47).toList.map (fun f => (f.name != "_", f.type, f.offset)) = [(true, 3, 0), (true, 28, 1), (true, 45, 2)] := by kernel_rfl
theorem agg_52 : aggT Try.prog 52 = some 2 := by kernel_rfl
theorem agg_53 : aggT Try.prog 53 = some 2 := by kernel_rfl
theorem str_53 : Try.prog.underlying 53 = some (.struct (Try.prog.fieldsOf 53)) := by kernel_rfl
theorem fls_53 : (Try.prog.fieldsOf 53).toList.map (fun f => (f.name != "_", f.type, f.offset)) = [(true, 3, 0), (true, 9, 1)] := by kernel_rfl
theorem agg_56 : aggT Try.prog 56 = some 4 := by kernel_rfl
theorem agg_57 : aggT Try.prog 57 = some 4 := by kernel_rfl
theorem agg_58 : aggT Try.prog 58 = some 0 := by kernel_rfl
theorem agg_59 : aggT Try.prog 59 = some 0 := by kernel_rfl
theorem agg_60 : aggT Try.prog 60 = some 0 := by kernel_rfl
theorem agg_68 : aggT Try.prog 68 = some 11 := by kernel_rfl
theorem agg_69 : aggT Try.prog 69 = some 11 := by kernel_rfl
def sizTab : List (Nat × Nat) := [(1, 1), (2, 1), (3, 1), (4, 1), (5, 1), (6, 1), (7, 4), (8, 4), (9, 1), (10, 1), (11, 1), (12, 1), (13, 2), (14, 2), (15, 1), (16, 1), (17, 1), (18, 1), (19, 1), (20, 1), (21, 1), (22, 3), (23, 3), (24, 1), (26, 1), (27, 1), (28, 1), (29, 1), (30, 1), (31, 1), (32, 1), (33, 1), (34, 1), (35, 1), (36, 1), (37, 2), (38, 2), (39, 1), (40, 1), (41, 1), (42, 1), (43, 1), (44, 1), (45, 1), (46, 3), (47, 3), (48, 1), (49, 1), (50, 1), (51, 1), (52, 2), (53, 2), (54, 1), (55, 1), (56, 4), (57, 4), (58, 0), (59, 0), (60, 0), (61, 1), (62, 1), (63, 1), (64, 1), (65, 1), (66, 1), (67, 1), (68, 11), (69, 11), (70, 1)]
theorem siz_all : sizTab.map (fun p => (fun t => sizT Try.prog t) p.1) = sizTab.map (fun p => some p.2) := by kernel_rfl
def oneTab : List (Nat × Bool) := [(1, true), (2, true), (3, true), (4, true), (5, true), (6, true), (9, true), (10, true), (11, true), (12, true), (15, true), (16, true), (17, true), (20, true), (21, true), (24, true), (26, true), (27, true), (28, true), (29, true), (30, true), (31, true), (32, true), (33, true), (34, true), (35, true), (36, true), (39, true), (40, true), (41, true), (42, true), (43, true), (44, true), (45, true), (48, true), (49, true), (50, true), (51, true), (54, true), (55, true), (61, true), (62, true), (63, true), (64, true), (65, true), (66, true), (67, true), (70, true)]
theorem one_all : oneTab.map (fun p => (fun t => some (oneT Try.prog t)) p.1) = oneTab.map (fun p => some p.2) := by kernel_rfl
def aggTab : List (Nat × Nat) := [(7, 4), (8, 4), (13, 2), (14, 2), (18, 1), (19, 1), (22, 3), (23, 3), (37, 2), (38, 2), (46, 3), (47, 3), (52, 2), (53, 2), (56, 4), (57, 4), (58, 0), (59, 0), (60, 0), (68, 11), (69, 11)]
theorem agg_all : aggTab.map (fun p => (fun t => aggT Try.prog t) p.1) = aggTab.map (fun p => some p.2) := by kernel_rfl
def fldTab : List (Nat × Nat) := [(700, 0), (701, 1), (702, 2), (703, 3), (800, 0), (801, 1), (802, 2), (803, 3), (1300, 0), (1301, 1), (1400, 0), (1401, 1), (1800, 0), (1900, 0), (2200, 0), (2201, 1), (2202, 2), (2300, 0), (2301, 1), (2302, 2), (3700, 0), (3701, 1), (3800, 0), (3801, 1), (4600, 0), (4601, 1), (4602, 2), (4700, 0), (4701, 1), (4702, 2), (5200, 0), (5201, 1), (5300, 0), (5301, 1), (5600, 0), (5601, 1), (5602, 2), (5603, 3), (5700, 0), (5701, 1), (5702, 2), (5703, 3), (6800, 0), (6801, 1), (6802, 2), (6803, 3), (6804, 4), (6805, 5), (6806, 6), (6807, 7), (6808, 8), (6809, 9), (6810, 10), (6900, 0), (6901, 1), (6902, 2), (6903, 3), (6904, 4), (6905, 5), (6906, 6), (6907, 7), (6908, 8), (6909, 9), (6910, 10)]
theorem fld_all : fldTab.map (fun p => (fun x => fld Try.prog (x / 100) (x % 100)) p.1) = fldTab.map (fun p => some p.2) := by kernel_rfl
def zerTab : List (Nat × Array Value) := [(1, #[.nilFunc]), (2, #[.int .i64 0]), (3, #[.int .i64 0]), (4, #[.bool false]), (5, #[.int .u8 0]), (6, #[.int .u8 0]), (7, #[.int .i64 0, .int .i64 0, .bool false, .int .u8 0]), (8, #[.int .i64 0, .int .i64 0, .bool false, .int .u8 0]), (9, #[.string ByteArray.empty]), (10, #[.string ByteArray.empty]), (11, #[.string ByteArray.empty]), (12, #[.int .u64 0]), (13, #[.string ByteArray.empty, .int .u64 0]), (14, #[.string ByteArray.empty, .int .u64 0]), (15, #[.pointer none]), (16, #[.pointer none]), (17, #[.pointer none]), (18, #[.pointer none]), (19, #[.pointer none]), (20, #[.nilIface]), (21, #[.int .i32 0]), (22, #[.int .i64 0, .int .i64 0, .string ByteArray.empty]), (23, #[.int .i64 0, .int .i64 0, .string ByteArray.empty]), (24, #[.pointer none]), (26, #[.nilFunc]), (27, #[.nilFunc]), (28, #[.slice none 0 0]), (29, #[.nilFunc]), (30, #[.nilFunc]), (31, #[.nilFunc]), (32, #[.nilFunc]), (33, #[.slice none 0 0]), (34, #[.nilFunc]), (35, #[.pointer none]), (36, #[.slice none 0 0]), (37, #[.int .i64 0, .slice none 0 0]), (38, #[.int .i64 0, .slice none 0 0]), (39, #[.nilFunc]), (40, #[.nilFunc]), (41, #[.nilFunc]), (42, #[.nilFunc]), (43, #[.nilFunc]), (44, #[.nilFunc]), (45, #[.map none]), (46, #[.int .i64 0, .slice none 0 0, .map none]), (47, #[.int .i64 0, .slice none 0 0, .map none]), (48, #[.nilFunc]), (49, #[.nilFunc]), (50, #[.nilFunc]), (51, #[.nilFunc]), (52, #[.int .i64 0, .string ByteArray.empty]), (53, #[.int .i64 0, .string ByteArray.empty]), (54, #[.nilFunc]), (55, #[.nilFunc]), (56, #[.pointer none, .pointer none, .pointer none, .string ByteArray.empty]), (57, #[.pointer none, .pointer none, .pointer none, .string ByteArray.empty]), (58, #[]), (59, #[]), (60, #[]), (61, #[.int .u32 0]), (62, #[.int .u8 0]), (63, #[.int .u8 0]), (64, #[.nilFunc]), (65, #[.pointer none]), (66, #[.int .i32 0]), (67, #[.int .i32 0]), (68, #[.int .u64 0, .int .u64 0, .int .u32 0, .int .u8 0, .int .u8 0, .int .u8 0, .int .u8 0, .nilFunc, .pointer none, .int .i32 0, .int .i32 0]), (69, #[.int .u64 0, .int .u64 0, .int .u32 0, .int .u8 0, .int .u8 0, .int .u8 0, .int .u8 0, .nilFunc, .pointer none, .int .i32 0, .int .i32 0]), (70, #[.pointer none])]
theorem zer_all : zerTab.map (fun p => (fun t => zerT Try.prog t) p.1) = zerTab.map (fun p => some p.2) := by kernel_rfl
def appTab : List (Nat × Nat × Nat × Nat) := [(28, (3, 1, 8)), (33, (23, 3, 32)), (36, (53, 2, 24))]
theorem app_all : appTab.map (fun p => (fun t => appT Try.prog t) p.1) = appTab.map (fun p => some p.2) := by kernel_rfl
def undTab : List (Nat × TypeDesc) := [(2, .int .i64), (3, .int .i64), (4, .bool), (5, .int .u8), (6, .int .u8), (9, .string), (10, .string), (11, .string), (12, .int .u64), (15, .pointer 57), (16, .pointer 60), (17, .pointer 69), (21, .int .i32), (24, .pointer 47), (28, .slice 3), (33, .slice 23), (35, .pointer 38), (36, .slice 53), (45, .map 3 9), (58, .array 0 16), (61, .int .u32), (62, .int .u8), (63, .int .u8), (65, .pointer 5), (66, .int .i32), (67, .int .i32)]
theorem und_all : undTab.map (fun p => (fun t => Try.prog.underlying t) p.1) = undTab.map (fun p => some p.2) := by kernel_rfl
def ptrTab : List (Nat × Nat) := [(15, 57), (16, 60), (17, 69), (24, 47), (35, 38), (65, 5)]
theorem ptr_all : ptrTab.map (fun p => (fun t => some (Try.prog.pointee t)) p.1) = ptrTab.map (fun p => some p.2) := by kernel_rfl
def eqgTab : List (Nat × Bool) := [(8, false), (13, false), (14, false), (18, false), (19, false), (22, false), (23, false), (37, false), (38, false), (46, false), (47, false), (52, false), (53, false), (56, false), (57, false), (58, false), (59, false), (60, false), (68, false), (69, false)]
theorem eqg_all : eqgTab.map (fun p => (fun t => some (Try.prog.eqGuardType Try.prog.depth t)) p.1) = eqgTab.map (fun p => some p.2) := by kernel_rfl
def stoTab : List (Nat × Bool) := [(23, false), (38, false), (47, false), (53, false)]
theorem sto_all : stoTab.map (fun p => (fun t => some (Try.prog.stoodInHeld t)) p.1) = stoTab.map (fun p => some p.2) := by kernel_rfl
theorem siz_of {t k : Nat} (h : tg sizTab t = some k) : sizT Try.prog t = some k := tg_ok (f := fun t => sizT Try.prog t) siz_all h
theorem one_of {t : Nat} (h : tg oneTab t = some true) : oneT Try.prog t = true := Option.some.inj (tg_ok (f := fun t => some (oneT Try.prog t)) one_all h)
theorem agg_of {t k : Nat} (h : tg aggTab t = some k) : aggT Try.prog t = some k := tg_ok (f := fun t => aggT Try.prog t) agg_all h
theorem fld_of {t i o : Nat} (h0 : Nat.blt i 100 = true) (h : tg fldTab (t * 100 + i) = some o) : fld Try.prog t i = some o := by
  have h1 := tg_ok (f := fun x => fld Try.prog (x / 100) (x % 100)) fld_all h
  have h2 : i < 100 := Nat.le_of_ble_eq_true h0
  have h3 : (t * 100 + i) / 100 = t := by omega
  have h4 : (t * 100 + i) % 100 = i := by omega
  simpa only [h3, h4] using h1
theorem zer_of {t : Nat} {k : Array Value} (h : tg zerTab t = some k) : zerT Try.prog t = some k := tg_ok (f := fun t => zerT Try.prog t) zer_all h
theorem app_of {t : Nat} {k : Nat × Nat × Nat} (h : tg appTab t = some k) : appT Try.prog t = some k := tg_ok (f := fun t => appT Try.prog t) app_all h
theorem und_of {t : Nat} {k : TypeDesc} (h : tg undTab t = some k) : Try.prog.underlying t = some k := tg_ok (f := fun t => Try.prog.underlying t) und_all h
theorem ptr_of {t e : Nat} (h : tg undTab t = some (.pointer e)) (h2 : tg ptrTab t = some e) : Try.prog.underlying t = some (.pointer (Try.prog.pointee t)) := by
  have h3 : Try.prog.pointee t = e := Option.some.inj (tg_ok (f := fun t => some (Try.prog.pointee t)) ptr_all h2)
  rw [h3]; exact und_of h
theorem eqg_of {t : Nat} (h : tg eqgTab t = some false) : Try.prog.eqGuardType Try.prog.depth t = false := Option.some.inj (tg_ok (f := fun t => some (Try.prog.eqGuardType Try.prog.depth t)) eqg_all h)
theorem sto_of {t : Nat} (h : tg stoTab t = some false) : Try.prog.stoodInHeld t = false := Option.some.inj (tg_ok (f := fun t => some (Try.prog.stoodInHeld t)) sto_all h)
theorem siz_7 : sizT Try.prog 7 = some 4 := siz_of rfl
theorem siz_8 : sizT Try.prog 8 = some 4 := siz_of rfl
theorem siz_13 : sizT Try.prog 13 = some 2 := siz_of rfl
theorem siz_14 : sizT Try.prog 14 = some 2 := siz_of rfl
theorem siz_18 : sizT Try.prog 18 = some 1 := siz_of rfl
theorem siz_19 : sizT Try.prog 19 = some 1 := siz_of rfl
theorem siz_22 : sizT Try.prog 22 = some 3 := siz_of rfl
theorem siz_23 : sizT Try.prog 23 = some 3 := siz_of rfl
theorem siz_37 : sizT Try.prog 37 = some 2 := siz_of rfl
theorem siz_38 : sizT Try.prog 38 = some 2 := siz_of rfl
theorem siz_46 : sizT Try.prog 46 = some 3 := siz_of rfl
theorem siz_47 : sizT Try.prog 47 = some 3 := siz_of rfl
theorem siz_52 : sizT Try.prog 52 = some 2 := siz_of rfl
theorem siz_53 : sizT Try.prog 53 = some 2 := siz_of rfl
theorem siz_56 : sizT Try.prog 56 = some 4 := siz_of rfl
theorem siz_57 : sizT Try.prog 57 = some 4 := siz_of rfl
theorem siz_58 : sizT Try.prog 58 = some 0 := siz_of rfl
theorem siz_59 : sizT Try.prog 59 = some 0 := siz_of rfl
theorem siz_60 : sizT Try.prog 60 = some 0 := siz_of rfl
theorem siz_68 : sizT Try.prog 68 = some 11 := siz_of rfl
theorem siz_69 : sizT Try.prog 69 = some 11 := siz_of rfl
theorem ent_3 : Enters Try.prog 3 := enters_of Try.func3 (by kernel_rfl) rfl
theorem ent_4 : Enters Try.prog 4 := enters_of Try.func4 (by kernel_rfl) rfl
theorem ent_5 : Enters Try.prog 5 := enters_of Try.func5 (by kernel_rfl) rfl
theorem ent_6 : Enters Try.prog 6 := enters_of Try.func6 (by kernel_rfl) rfl
theorem ent_7 : Enters Try.prog 7 := enters_of Try.func7 (by kernel_rfl) rfl
theorem ent_8 : Enters Try.prog 8 := enters_of Try.func8 (by kernel_rfl) rfl
theorem ent_9 : Enters Try.prog 9 := enters_of Try.func9 (by kernel_rfl) rfl
theorem ent_10 : Enters Try.prog 10 := enters_of Try.func10 (by kernel_rfl) rfl
theorem ent_11 : Enters Try.prog 11 := enters_of Try.func11 (by kernel_rfl) rfl
theorem ent_12 : Enters Try.prog 12 := enters_of Try.func12 (by kernel_rfl) rfl
theorem ent_13 : Enters Try.prog 13 := enters_of Try.func13 (by kernel_rfl) rfl
theorem ent_14 : Enters Try.prog 14 := enters_of Try.func14 (by kernel_rfl) rfl
theorem ent_15 : Enters Try.prog 15 := enters_of Try.func15 (by kernel_rfl) rfl
theorem ent_16 : Enters Try.prog 16 := enters_of Try.func16 (by kernel_rfl) rfl
theorem ent_17 : Enters Try.prog 17 := enters_of Try.func17 (by kernel_rfl) rfl
theorem ent_18 : Enters Try.prog 18 := enters_of Try.func18 (by kernel_rfl) rfl
theorem ent_19 : Enters Try.prog 19 := enters_of Try.func19 (by kernel_rfl) rfl
theorem ent_20 : Enters Try.prog 20 := enters_of Try.func20 (by kernel_rfl) rfl
theorem ent_21 : Enters Try.prog 21 := enters_of Try.func21 (by kernel_rfl) rfl
theorem ent_22 : Enters Try.prog 22 := enters_of Try.func22 (by kernel_rfl) rfl
theorem ent_23 : Enters Try.prog 23 := enters_of Try.func23 (by kernel_rfl) rfl
theorem ent_24 : Enters Try.prog 24 := enters_of Try.func24 (by kernel_rfl) rfl
theorem ent_25 : Enters Try.prog 25 := enters_of Try.func25 (by kernel_rfl) rfl
theorem ent_26 : Enters Try.prog 26 := enters_of Try.func26 (by kernel_rfl) rfl
theorem ent_27 : Enters Try.prog 27 := enters_of Try.func27 (by kernel_rfl) rfl
theorem ent_28 : Enters Try.prog 28 := enters_of Try.func28 (by kernel_rfl) rfl
theorem ent_29 : Enters Try.prog 29 := enters_of Try.func29 (by kernel_rfl) rfl
end Go.Proofs.Ytggbiklkigjegaa
