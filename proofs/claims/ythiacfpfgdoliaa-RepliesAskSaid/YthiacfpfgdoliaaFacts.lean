/- Closed facts on this seat's types and functions: printed by my gen_facts.py. -/
import Derived.Test.YthiacfpfgdoliaaFunc
import Derived.Test.YthiacfpfgdoliaaProg
namespace Go.Proofs.Ythiacfpfgdoliaa
open Go.Shelf
theorem mixd : Try.prog.follows .mixedOrders = true := by kernel_rfl
theorem agg_7 : aggT Try.prog 7 = some 4 := by kernel_rfl
theorem agg_8 : aggT Try.prog 8 = some 4 := by kernel_rfl
theorem agg_13 : aggT Try.prog 13 = some 2 := by kernel_rfl
theorem agg_14 : aggT Try.prog 14 = some 2 := by kernel_rfl
theorem agg_18 : aggT Try.prog 18 = some 1 := by kernel_rfl
theorem agg_19 : aggT Try.prog 19 = some 1 := by kernel_rfl
theorem agg_25 : aggT Try.prog 25 = some 32 := by kernel_rfl
theorem agg_26 : aggT Try.prog 26 = some 32 := by kernel_rfl
theorem agg_27 : aggT Try.prog 27 = some 71 := by kernel_rfl
theorem agg_28 : aggT Try.prog 28 = some 71 := by kernel_rfl
theorem str_28 : Try.prog.underlying 28 = some (.struct (Try.prog.fieldsOf 28)) := by kernel_rfl
theorem fls_28 : (Try.prog.fieldsOf 28).toList.map (fun f => (f.name != "_", f.type, f.offset)) = [(true, 3, 0), (true, 3, 1), (true, 5, 2), (true, 3, 3), (true, 3, 4), (true, 3, 5), (true, 3, 6), (true, 26, 7), (true, 26, 39)] := by kernel_rfl
theorem agg_29 : aggT Try.prog 29 = some 75 := by kernel_rfl
theorem agg_30 : aggT Try.prog 30 = some 75 := by kernel_rfl
theorem str_30 : Try.prog.underlying 30 = some (.struct (Try.prog.fieldsOf 30)) := by kernel_rfl
theorem fls_30 : (Try.prog.fieldsOf 30).toList.map (fun f => (f.name != "_", f.type, f.offset)) = [(true, 23, 0), (true, 9, 1), (true, 24, 2), (true, 3, 3), (true, 28, 4)] := by kernel_rfl
theorem agg_43 : aggT Try.prog 43 = some 77 := by kernel_rfl
theorem agg_44 : aggT Try.prog 44 = some 77 := by kernel_rfl
theorem str_44 : Try.prog.underlying 44 = some (.struct (Try.prog.fieldsOf 44)) := by kernel_rfl
theorem fls_44 : (Try.prog.fieldsOf 44).toList.map (fun f => (f.name != "_", f.type, f.offset)) = [(true, 3, 0), (true, 3, 1), (true, 30, 2)] := by kernel_rfl
theorem agg_55 : aggT Try.prog 55 = some 77 := by kernel_rfl
theorem str_55 : Try.prog.underlying 55 = some (.struct (Try.prog.fieldsOf 55)) := by kernel_rfl
theorem fls_55 : (Try.prog.fieldsOf 55).toList.map (fun f => (f.name != "_", f.type, f.offset)) = [(true, 3, 0), (true, 3, 1), (true, 30, 2)] := by kernel_rfl
theorem agg_59 : aggT Try.prog 59 = some 4 := by kernel_rfl
theorem agg_60 : aggT Try.prog 60 = some 77 := by kernel_rfl
theorem str_60 : Try.prog.underlying 60 = some (.struct (Try.prog.fieldsOf 60)) := by kernel_rfl
theorem fls_60 : (Try.prog.fieldsOf 60).toList.map (fun f => (f.name != "_", f.type, f.offset)) = [(true, 3, 0), (true, 3, 1), (true, 30, 2)] := by kernel_rfl
theorem agg_74 : aggT Try.prog 74 = some 4 := by kernel_rfl
theorem agg_75 : aggT Try.prog 75 = some 4 := by kernel_rfl
theorem agg_76 : aggT Try.prog 76 = some 0 := by kernel_rfl
theorem agg_77 : aggT Try.prog 77 = some 0 := by kernel_rfl
theorem agg_78 : aggT Try.prog 78 = some 0 := by kernel_rfl
theorem agg_87 : aggT Try.prog 87 = some 11 := by kernel_rfl
theorem agg_88 : aggT Try.prog 88 = some 11 := by kernel_rfl
def sizTab : List (Nat × Nat) := [(1, 1), (2, 1), (3, 1), (4, 1), (5, 1), (6, 1), (7, 4), (8, 4), (9, 1), (10, 1), (11, 1), (12, 1), (13, 2), (14, 2), (15, 1), (16, 1), (17, 1), (18, 1), (19, 1), (20, 1), (21, 1), (22, 1), (23, 1), (24, 1), (25, 32), (26, 32), (27, 71), (28, 71), (29, 75), (30, 75), (31, 1), (32, 1), (33, 1), (34, 1), (35, 1), (36, 1), (37, 1), (38, 1), (40, 1), (42, 1), (43, 77), (44, 77), (46, 1), (47, 1), (48, 1), (49, 1), (50, 1), (52, 1), (54, 1), (55, 77), (56, 1), (57, 1), (58, 1), (59, 4), (60, 77), (61, 1), (62, 1), (63, 1), (64, 1), (65, 1), (66, 1), (67, 1), (68, 1), (69, 1), (70, 1), (71, 1), (72, 1), (73, 1), (74, 4), (75, 4), (76, 0), (77, 0), (78, 0), (79, 1), (80, 1), (81, 1), (82, 1), (83, 1), (84, 1), (85, 1), (86, 1), (87, 11), (88, 11), (89, 1)]
theorem siz_all : sizTab.map (fun p => (fun t => sizT Try.prog t) p.1) = sizTab.map (fun p => some p.2) := by kernel_rfl
def oneTab : List (Nat × Bool) := [(1, true), (2, true), (3, true), (4, true), (5, true), (6, true), (9, true), (10, true), (11, true), (12, true), (15, true), (16, true), (17, true), (20, true), (21, true), (22, true), (23, true), (24, true), (31, true), (32, true), (33, true), (34, true), (35, true), (36, true), (37, true), (38, true), (40, true), (42, true), (46, true), (47, true), (48, true), (49, true), (50, true), (52, true), (54, true), (56, true), (57, true), (58, true), (61, true), (62, true), (63, true), (64, true), (65, true), (66, true), (67, true), (68, true), (69, true), (70, true), (71, true), (72, true), (73, true), (79, true), (80, true), (81, true), (82, true), (83, true), (84, true), (85, true), (86, true), (89, true)]
theorem one_all : oneTab.map (fun p => (fun t => some (oneT Try.prog t)) p.1) = oneTab.map (fun p => some p.2) := by kernel_rfl
def aggTab : List (Nat × Nat) := [(7, 4), (8, 4), (13, 2), (14, 2), (18, 1), (19, 1), (25, 32), (26, 32), (27, 71), (28, 71), (29, 75), (30, 75), (43, 77), (44, 77), (55, 77), (59, 4), (60, 77), (74, 4), (75, 4), (76, 0), (77, 0), (78, 0), (87, 11), (88, 11)]
theorem agg_all : aggTab.map (fun p => (fun t => aggT Try.prog t) p.1) = aggTab.map (fun p => some p.2) := by kernel_rfl
def fldTab : List (Nat × Nat) := [(700, 0), (701, 1), (702, 2), (703, 3), (800, 0), (801, 1), (802, 2), (803, 3), (1300, 0), (1301, 1), (1400, 0), (1401, 1), (1800, 0), (1900, 0), (2700, 0), (2701, 1), (2702, 2), (2703, 3), (2704, 4), (2705, 5), (2706, 6), (2707, 7), (2708, 39), (2800, 0), (2801, 1), (2802, 2), (2803, 3), (2804, 4), (2805, 5), (2806, 6), (2807, 7), (2808, 39), (2900, 0), (2901, 1), (2902, 2), (2903, 3), (2904, 4), (3000, 0), (3001, 1), (3002, 2), (3003, 3), (3004, 4), (4300, 0), (4301, 1), (4302, 2), (4400, 0), (4401, 1), (4402, 2), (5500, 0), (5501, 1), (5502, 2), (6000, 0), (6001, 1), (6002, 2), (7400, 0), (7401, 1), (7402, 2), (7403, 3), (7500, 0), (7501, 1), (7502, 2), (7503, 3), (8700, 0), (8701, 1), (8702, 2), (8703, 3), (8704, 4), (8705, 5), (8706, 6), (8707, 7), (8708, 8), (8709, 9), (8710, 10), (8800, 0), (8801, 1), (8802, 2), (8803, 3), (8804, 4), (8805, 5), (8806, 6), (8807, 7), (8808, 8), (8809, 9), (8810, 10)]
theorem fld_all : fldTab.map (fun p => (fun x => fld Try.prog (x / 100) (x % 100)) p.1) = fldTab.map (fun p => some p.2) := by kernel_rfl
def zerTab : List (Nat × Array Value) := [(1, #[.nilFunc]), (2, #[.int .i64 0]), (3, #[.int .i64 0]), (4, #[.bool false]), (5, #[.int .u8 0]), (6, #[.int .u8 0]), (7, #[.int .i64 0, .int .i64 0, .bool false, .int .u8 0]), (8, #[.int .i64 0, .int .i64 0, .bool false, .int .u8 0]), (9, #[.string ByteArray.empty]), (10, #[.string ByteArray.empty]), (11, #[.string ByteArray.empty]), (12, #[.int .u64 0]), (13, #[.string ByteArray.empty, .int .u64 0]), (14, #[.string ByteArray.empty, .int .u64 0]), (15, #[.pointer none]), (16, #[.pointer none]), (17, #[.pointer none]), (18, #[.pointer none]), (19, #[.pointer none]), (20, #[.nilIface]), (21, #[.int .i32 0]), (22, #[.slice none 0 0]), (23, #[.int .i64 0]), (24, #[.slice none 0 0]), (25, #[.int .u8 0, .int .u8 0, .int .u8 0, .int .u8 0, .int .u8 0, .int .u8 0, .int .u8 0, .int .u8 0, .int .u8 0, .int .u8 0, .int .u8 0, .int .u8 0, .int .u8 0, .int .u8 0, .int .u8 0, .int .u8 0, .int .u8 0, .int .u8 0, .int .u8 0, .int .u8 0, .int .u8 0, .int .u8 0, .int .u8 0, .int .u8 0, .int .u8 0, .int .u8 0, .int .u8 0, .int .u8 0, .int .u8 0, .int .u8 0, .int .u8 0, .int .u8 0]), (26, #[.int .u8 0, .int .u8 0, .int .u8 0, .int .u8 0, .int .u8 0, .int .u8 0, .int .u8 0, .int .u8 0, .int .u8 0, .int .u8 0, .int .u8 0, .int .u8 0, .int .u8 0, .int .u8 0, .int .u8 0, .int .u8 0, .int .u8 0, .int .u8 0, .int .u8 0, .int .u8 0, .int .u8 0, .int .u8 0, .int .u8 0, .int .u8 0, .int .u8 0, .int .u8 0, .int .u8 0, .int .u8 0, .int .u8 0, .int .u8 0, .int .u8 0, .int .u8 0]), (27, #[.int .i64 0, .int .i64 0, .int .u8 0, .int .i64 0, .int .i64 0, .int .i64 0, .int .i64 0, .int .u8 0, .int .u8 0, .int .u8 0, .int .u8 0, .int .u8 0, .int .u8 0, .int .u8 0, .int .u8 0, .int .u8 0, .int .u8 0, .int .u8 0, .int .u8 0, .int .u8 0, .int .u8 0, .int .u8 0, .int .u8 0, .int .u8 0, .int .u8 0, .int .u8 0, .int .u8 0, .int .u8 0, .int .u8 0, .int .u8 0, .int .u8 0, .int .u8 0, .int .u8 0, .int .u8 0, .int .u8 0, .int .u8 0, .int .u8 0, .int .u8 0, .int .u8 0, .int .u8 0, .int .u8 0, .int .u8 0, .int .u8 0, .int .u8 0, .int .u8 0, .int .u8 0, .int .u8 0, .int .u8 0, .int .u8 0, .int .u8 0, .int .u8 0, .int .u8 0, .int .u8 0, .int .u8 0, .int .u8 0, .int .u8 0, .int .u8 0, .int .u8 0, .int .u8 0, .int .u8 0, .int .u8 0, .int .u8 0, .int .u8 0, .int .u8 0, .int .u8 0, .int .u8 0, .int .u8 0, .int .u8 0, .int .u8 0, .int .u8 0, .int .u8 0]), (28, #[.int .i64 0, .int .i64 0, .int .u8 0, .int .i64 0, .int .i64 0, .int .i64 0, .int .i64 0, .int .u8 0, .int .u8 0, .int .u8 0, .int .u8 0, .int .u8 0, .int .u8 0, .int .u8 0, .int .u8 0, .int .u8 0, .int .u8 0, .int .u8 0, .int .u8 0, .int .u8 0, .int .u8 0, .int .u8 0, .int .u8 0, .int .u8 0, .int .u8 0, .int .u8 0, .int .u8 0, .int .u8 0, .int .u8 0, .int .u8 0, .int .u8 0, .int .u8 0, .int .u8 0, .int .u8 0, .int .u8 0, .int .u8 0, .int .u8 0, .int .u8 0, .int .u8 0, .int .u8 0, .int .u8 0, .int .u8 0, .int .u8 0, .int .u8 0, .int .u8 0, .int .u8 0, .int .u8 0, .int .u8 0, .int .u8 0, .int .u8 0, .int .u8 0, .int .u8 0, .int .u8 0, .int .u8 0, .int .u8 0, .int .u8 0, .int .u8 0, .int .u8 0, .int .u8 0, .int .u8 0, .int .u8 0, .int .u8 0, .int .u8 0, .int .u8 0, .int .u8 0, .int .u8 0, .int .u8 0, .int .u8 0, .int .u8 0, .int .u8 0, .int .u8 0]), (29, #[.int .i64 0, .string ByteArray.empty, .slice none 0 0, .int .i64 0, .int .i64 0, .int .i64 0, .int .u8 0, .int .i64 0, .int .i64 0, .int .i64 0, .int .i64 0, .int .u8 0, .int .u8 0, .int .u8 0, .int .u8 0, .int .u8 0, .int .u8 0, .int .u8 0, .int .u8 0, .int .u8 0, .int .u8 0, .int .u8 0, .int .u8 0, .int .u8 0, .int .u8 0, .int .u8 0, .int .u8 0, .int .u8 0, .int .u8 0, .int .u8 0, .int .u8 0, .int .u8 0, .int .u8 0, .int .u8 0, .int .u8 0, .int .u8 0, .int .u8 0, .int .u8 0, .int .u8 0, .int .u8 0, .int .u8 0, .int .u8 0, .int .u8 0, .int .u8 0, .int .u8 0, .int .u8 0, .int .u8 0, .int .u8 0, .int .u8 0, .int .u8 0, .int .u8 0, .int .u8 0, .int .u8 0, .int .u8 0, .int .u8 0, .int .u8 0, .int .u8 0, .int .u8 0, .int .u8 0, .int .u8 0, .int .u8 0, .int .u8 0, .int .u8 0, .int .u8 0, .int .u8 0, .int .u8 0, .int .u8 0, .int .u8 0, .int .u8 0, .int .u8 0, .int .u8 0, .int .u8 0, .int .u8 0, .int .u8 0, .int .u8 0]), (30, #[.int .i64 0, .string ByteArray.empty, .slice none 0 0, .int .i64 0, .int .i64 0, .int .i64 0, .int .u8 0, .int .i64 0, .int .i64 0, .int .i64 0, .int .i64 0, .int .u8 0, .int .u8 0, .int .u8 0, .int .u8 0, .int .u8 0, .int .u8 0, .int .u8 0, .int .u8 0, .int .u8 0, .int .u8 0, .int .u8 0, .int .u8 0, .int .u8 0, .int .u8 0, .int .u8 0, .int .u8 0, .int .u8 0, .int .u8 0, .int .u8 0, .int .u8 0, .int .u8 0, .int .u8 0, .int .u8 0, .int .u8 0, .int .u8 0, .int .u8 0, .int .u8 0, .int .u8 0, .int .u8 0, .int .u8 0, .int .u8 0, .int .u8 0, .int .u8 0, .int .u8 0, .int .u8 0, .int .u8 0, .int .u8 0, .int .u8 0, .int .u8 0, .int .u8 0, .int .u8 0, .int .u8 0, .int .u8 0, .int .u8 0, .int .u8 0, .int .u8 0, .int .u8 0, .int .u8 0, .int .u8 0, .int .u8 0, .int .u8 0, .int .u8 0, .int .u8 0, .int .u8 0, .int .u8 0, .int .u8 0, .int .u8 0, .int .u8 0, .int .u8 0, .int .u8 0, .int .u8 0, .int .u8 0, .int .u8 0, .int .u8 0]), (31, #[.nilFunc]), (32, #[.nilFunc]), (33, #[.slice none 0 0]), (34, #[.nilFunc]), (35, #[.nilFunc]), (36, #[.nilFunc]), (37, #[.nilFunc]), (38, #[.nilFunc]), (40, #[.nilFunc]), (42, #[.nilFunc]), (43, #[.int .i64 0, .int .i64 0, .int .i64 0, .string ByteArray.empty, .slice none 0 0, .int .i64 0, .int .i64 0, .int .i64 0, .int .u8 0, .int .i64 0, .int .i64 0, .int .i64 0, .int .i64 0, .int .u8 0, .int .u8 0, .int .u8 0, .int .u8 0, .int .u8 0, .int .u8 0, .int .u8 0, .int .u8 0, .int .u8 0, .int .u8 0, .int .u8 0, .int .u8 0, .int .u8 0, .int .u8 0, .int .u8 0, .int .u8 0, .int .u8 0, .int .u8 0, .int .u8 0, .int .u8 0, .int .u8 0, .int .u8 0, .int .u8 0, .int .u8 0, .int .u8 0, .int .u8 0, .int .u8 0, .int .u8 0, .int .u8 0, .int .u8 0, .int .u8 0, .int .u8 0, .int .u8 0, .int .u8 0, .int .u8 0, .int .u8 0, .int .u8 0, .int .u8 0, .int .u8 0, .int .u8 0, .int .u8 0, .int .u8 0, .int .u8 0, .int .u8 0, .int .u8 0, .int .u8 0, .int .u8 0, .int .u8 0, .int .u8 0, .int .u8 0, .int .u8 0, .int .u8 0, .int .u8 0, .int .u8 0, .int .u8 0, .int .u8 0, .int .u8 0, .int .u8 0, .int .u8 0, .int .u8 0, .int .u8 0, .int .u8 0, .int .u8 0, .int .u8 0]), (44, #[.int .i64 0, .int .i64 0, .int .i64 0, .string ByteArray.empty, .slice none 0 0, .int .i64 0, .int .i64 0, .int .i64 0, .int .u8 0, .int .i64 0, .int .i64 0, .int .i64 0, .int .i64 0, .int .u8 0, .int .u8 0, .int .u8 0, .int .u8 0, .int .u8 0, .int .u8 0, .int .u8 0, .int .u8 0, .int .u8 0, .int .u8 0, .int .u8 0, .int .u8 0, .int .u8 0, .int .u8 0, .int .u8 0, .int .u8 0, .int .u8 0, .int .u8 0, .int .u8 0, .int .u8 0, .int .u8 0, .int .u8 0, .int .u8 0, .int .u8 0, .int .u8 0, .int .u8 0, .int .u8 0, .int .u8 0, .int .u8 0, .int .u8 0, .int .u8 0, .int .u8 0, .int .u8 0, .int .u8 0, .int .u8 0, .int .u8 0, .int .u8 0, .int .u8 0, .int .u8 0, .int .u8 0, .int .u8 0, .int .u8 0, .int .u8 0, .int .u8 0, .int .u8 0, .int .u8 0, .int .u8 0, .int .u8 0, .int .u8 0, .int .u8 0, .int .u8 0, .int .u8 0, .int .u8 0, .int .u8 0, .int .u8 0, .int .u8 0, .int .u8 0, .int .u8 0, .int .u8 0, .int .u8 0, .int .u8 0, .int .u8 0, .int .u8 0, .int .u8 0]), (46, #[.nilFunc]), (47, #[.nilFunc]), (48, #[.nilFunc]), (49, #[.nilFunc]), (50, #[.nilFunc]), (52, #[.nilFunc]), (54, #[.nilFunc]), (55, #[.int .i64 0, .int .i64 0, .int .i64 0, .string ByteArray.empty, .slice none 0 0, .int .i64 0, .int .i64 0, .int .i64 0, .int .u8 0, .int .i64 0, .int .i64 0, .int .i64 0, .int .i64 0, .int .u8 0, .int .u8 0, .int .u8 0, .int .u8 0, .int .u8 0, .int .u8 0, .int .u8 0, .int .u8 0, .int .u8 0, .int .u8 0, .int .u8 0, .int .u8 0, .int .u8 0, .int .u8 0, .int .u8 0, .int .u8 0, .int .u8 0, .int .u8 0, .int .u8 0, .int .u8 0, .int .u8 0, .int .u8 0, .int .u8 0, .int .u8 0, .int .u8 0, .int .u8 0, .int .u8 0, .int .u8 0, .int .u8 0, .int .u8 0, .int .u8 0, .int .u8 0, .int .u8 0, .int .u8 0, .int .u8 0, .int .u8 0, .int .u8 0, .int .u8 0, .int .u8 0, .int .u8 0, .int .u8 0, .int .u8 0, .int .u8 0, .int .u8 0, .int .u8 0, .int .u8 0, .int .u8 0, .int .u8 0, .int .u8 0, .int .u8 0, .int .u8 0, .int .u8 0, .int .u8 0, .int .u8 0, .int .u8 0, .int .u8 0, .int .u8 0, .int .u8 0, .int .u8 0, .int .u8 0, .int .u8 0, .int .u8 0, .int .u8 0, .int .u8 0]), (56, #[.nilFunc]), (57, #[.int .u64 0]), (58, #[.slice none 0 0]), (59, #[.int .i64 0, .int .i64 0, .int .i64 0, .int .i64 0]), (60, #[.int .i64 0, .int .i64 0, .int .i64 0, .string ByteArray.empty, .slice none 0 0, .int .i64 0, .int .i64 0, .int .i64 0, .int .u8 0, .int .i64 0, .int .i64 0, .int .i64 0, .int .i64 0, .int .u8 0, .int .u8 0, .int .u8 0, .int .u8 0, .int .u8 0, .int .u8 0, .int .u8 0, .int .u8 0, .int .u8 0, .int .u8 0, .int .u8 0, .int .u8 0, .int .u8 0, .int .u8 0, .int .u8 0, .int .u8 0, .int .u8 0, .int .u8 0, .int .u8 0, .int .u8 0, .int .u8 0, .int .u8 0, .int .u8 0, .int .u8 0, .int .u8 0, .int .u8 0, .int .u8 0, .int .u8 0, .int .u8 0, .int .u8 0, .int .u8 0, .int .u8 0, .int .u8 0, .int .u8 0, .int .u8 0, .int .u8 0, .int .u8 0, .int .u8 0, .int .u8 0, .int .u8 0, .int .u8 0, .int .u8 0, .int .u8 0, .int .u8 0, .int .u8 0, .int .u8 0, .int .u8 0, .int .u8 0, .int .u8 0, .int .u8 0, .int .u8 0, .int .u8 0, .int .u8 0, .int .u8 0, .int .u8 0, .int .u8 0, .int .u8 0, .int .u8 0, .int .u8 0, .int .u8 0, .int .u8 0, .int .u8 0, .int .u8 0, .int .u8 0]), (61, #[.nilFunc]), (62, #[.nilFunc]), (63, #[.nilFunc]), (64, #[.nilFunc]), (65, #[.nilFunc]), (66, #[.nilFunc]), (67, #[.nilFunc]), (68, #[.nilFunc]), (69, #[.nilFunc]), (70, #[.nilFunc]), (71, #[.nilFunc]), (72, #[.nilFunc]), (73, #[.nilFunc]), (74, #[.pointer none, .pointer none, .pointer none, .string ByteArray.empty]), (75, #[.pointer none, .pointer none, .pointer none, .string ByteArray.empty]), (76, #[]), (77, #[]), (78, #[]), (79, #[.nilFunc]), (80, #[.int .u32 0]), (81, #[.int .u8 0]), (82, #[.int .u8 0]), (83, #[.nilFunc]), (84, #[.pointer none]), (85, #[.int .i32 0]), (86, #[.int .i32 0]), (87, #[.int .u64 0, .int .u64 0, .int .u32 0, .int .u8 0, .int .u8 0, .int .u8 0, .int .u8 0, .nilFunc, .pointer none, .int .i32 0, .int .i32 0]), (88, #[.int .u64 0, .int .u64 0, .int .u32 0, .int .u8 0, .int .u8 0, .int .u8 0, .int .u8 0, .nilFunc, .pointer none, .int .i32 0, .int .i32 0]), (89, #[.pointer none])]
theorem zer_all : zerTab.map (fun p => (fun t => zerT Try.prog t) p.1) = zerTab.map (fun p => some p.2) := by kernel_rfl
def appTab : List (Nat × Nat × Nat × Nat) := [(22, (44, 77, 192)), (24, (9, 1, 16)), (33, (55, 77, 192)), (58, (60, 77, 192))]
theorem app_all : appTab.map (fun p => (fun t => appT Try.prog t) p.1) = appTab.map (fun p => some p.2) := by kernel_rfl
def undTab : List (Nat × TypeDesc) := [(2, .int .i64), (3, .int .i64), (4, .bool), (5, .int .u8), (6, .int .u8), (9, .string), (10, .string), (11, .string), (12, .int .u64), (15, .pointer 75), (16, .pointer 78), (17, .pointer 88), (21, .int .i32), (22, .slice 44), (23, .int .i64), (24, .slice 9), (25, .array 32 5), (26, .array 32 5), (33, .slice 55), (57, .int .u64), (58, .slice 60), (59, .array 4 3), (76, .array 0 16), (80, .int .u32), (81, .int .u8), (82, .int .u8), (84, .pointer 5), (85, .int .i32), (86, .int .i32)]
theorem und_all : undTab.map (fun p => (fun t => Try.prog.underlying t) p.1) = undTab.map (fun p => some p.2) := by kernel_rfl
def ptrTab : List (Nat × Nat) := [(15, 75), (16, 78), (17, 88), (84, 5)]
theorem ptr_all : ptrTab.map (fun p => (fun t => some (Try.prog.pointee t)) p.1) = ptrTab.map (fun p => some p.2) := by kernel_rfl
def eqgTab : List (Nat × Bool) := [(8, false), (13, false), (14, false), (18, false), (19, false), (25, false), (26, false), (27, false), (28, false), (29, false), (30, false), (43, false), (44, false), (55, false), (59, false), (60, false), (74, false), (75, false), (76, false), (77, false), (78, false), (87, false), (88, false)]
theorem eqg_all : eqgTab.map (fun p => (fun t => some (Try.prog.eqGuardType Try.prog.depth t)) p.1) = eqgTab.map (fun p => some p.2) := by kernel_rfl
def stoTab : List (Nat × Bool) := [(28, false), (30, false), (44, false), (55, false), (60, false)]
theorem sto_all : stoTab.map (fun p => (fun t => some (Try.prog.stoodInHeld t)) p.1) = stoTab.map (fun p => some p.2) := by kernel_rfl
theorem siz_of {t k : Nat} (h : tg sizTab t = some k) : sizT Try.prog t = some k := tg_ok (f := fun t => sizT Try.prog t) siz_all h
theorem one_of {t : Nat} (h : tg oneTab t = some true) : oneT Try.prog t = true := Option.some.inj (tg_ok (f := fun t => some (oneT Try.prog t)) one_all h)
theorem agg_of {t k : Nat} (h : tg aggTab t = some k) : aggT Try.prog t = some k := tg_ok (f := fun t => aggT Try.prog t) agg_all h
theorem fld_of {t i o : Nat} (h0 : Nat.blt i 100 = true) (h : tg fldTab (t * 100 + i) = some o) : fld Try.prog t i = some o := by
  have h1 := tg_ok (f := fun x => fld Try.prog (x / 100) (x % 100)) fld_all h
  have h2 : i < 100 := Nat.le_of_ble_eq_true h0
  have h3 : (t * 100 + i) / 100 = t := by omega
  have h4 : (t * 100 + i) % 100 = i := by omega
  simpa only [h3, h4] using h1
theorem zer_of {t : Nat} {k : Array Value} (h : tg zerTab t = some k) : zerT Try.prog t = some k := tg_ok (f := fun t => zerT Try.prog t) zer_all h
theorem app_of {t : Nat} {k : Nat × Nat × Nat} (h : tg appTab t = some k) : appT Try.prog t = some k := tg_ok (f := fun t => appT Try.prog t) app_all h
theorem und_of {t : Nat} {k : TypeDesc} (h : tg undTab t = some k) : Try.prog.underlying t = some k := tg_ok (f := fun t => Try.prog.underlying t) und_all h
theorem ptr_of {t e : Nat} (h : tg undTab t = some (.pointer e)) (h2 : tg ptrTab t = some e) : Try.prog.underlying t = some (.pointer (Try.prog.pointee t)) := by
  have h3 : Try.prog.pointee t = e := Option.some.inj (tg_ok (f := fun t => some (Try.prog.pointee t)) ptr_all h2)
  rw [h3]; exact und_of h
theorem eqg_of {t : Nat} (h : tg eqgTab t = some false) : Try.prog.eqGuardType Try.prog.depth t = false := Option.some.inj (tg_ok (f := fun t => some (Try.prog.eqGuardType Try.prog.depth t)) eqg_all h)
theorem sto_of {t : Nat} (h : tg stoTab t = some false) : Try.prog.stoodInHeld t = false := Option.some.inj (tg_ok (f := fun t => some (Try.prog.stoodInHeld t)) sto_all h)
theorem siz_7 : sizT Try.prog 7 = some 4 := siz_of rfl
theorem siz_8 : sizT Try.prog 8 = some 4 := siz_of rfl
theorem siz_13 : sizT Try.prog 13 = some 2 := siz_of rfl
theorem siz_14 : sizT Try.prog 14 = some 2 := siz_of rfl
theorem siz_18 : sizT Try.prog 18 = some 1 := siz_of rfl
theorem siz_19 : sizT Try.prog 19 = some 1 := siz_of rfl
theorem siz_25 : sizT Try.prog 25 = some 32 := siz_of rfl
theorem siz_26 : sizT Try.prog 26 = some 32 := siz_of rfl
theorem siz_27 : sizT Try.prog 27 = some 71 := siz_of rfl
theorem siz_28 : sizT Try.prog 28 = some 71 := siz_of rfl
theorem siz_29 : sizT Try.prog 29 = some 75 := siz_of rfl
theorem siz_30 : sizT Try.prog 30 = some 75 := siz_of rfl
theorem siz_43 : sizT Try.prog 43 = some 77 := siz_of rfl
theorem siz_44 : sizT Try.prog 44 = some 77 := siz_of rfl
theorem siz_55 : sizT Try.prog 55 = some 77 := siz_of rfl
theorem siz_59 : sizT Try.prog 59 = some 4 := siz_of rfl
theorem siz_60 : sizT Try.prog 60 = some 77 := siz_of rfl
theorem siz_74 : sizT Try.prog 74 = some 4 := siz_of rfl
theorem siz_75 : sizT Try.prog 75 = some 4 := siz_of rfl
theorem siz_76 : sizT Try.prog 76 = some 0 := siz_of rfl
theorem siz_77 : sizT Try.prog 77 = some 0 := siz_of rfl
theorem siz_78 : sizT Try.prog 78 = some 0 := siz_of rfl
theorem siz_87 : sizT Try.prog 87 = some 11 := siz_of rfl
theorem siz_88 : sizT Try.prog 88 = some 11 := siz_of rfl
theorem ent_3 : Enters Try.prog 3 := enters_of Try.func3 (by kernel_rfl) rfl
theorem ent_4 : Enters Try.prog 4 := enters_of Try.func4 (by kernel_rfl) rfl
theorem ent_5 : Enters Try.prog 5 := enters_of Try.func5 (by kernel_rfl) rfl
theorem ent_6 : Enters Try.prog 6 := enters_of Try.func6 (by kernel_rfl) rfl
theorem ent_7 : Enters Try.prog 7 := enters_of Try.func7 (by kernel_rfl) rfl
theorem ent_8 : Enters Try.prog 8 := enters_of Try.func8 (by kernel_rfl) rfl
theorem ent_9 : Enters Try.prog 9 := enters_of Try.func9 (by kernel_rfl) rfl
theorem ent_10 : Enters Try.prog 10 := enters_of Try.func10 (by kernel_rfl) rfl
theorem ent_11 : Enters Try.prog 11 := enters_of Try.func11 (by kernel_rfl) rfl
theorem ent_12 : Enters Try.prog 12 := enters_of Try.func12 (by kernel_rfl) rfl
theorem ent_13 : Enters Try.prog 13 := enters_of Try.func13 (by kernel_rfl) rfl
theorem ent_14 : Enters Try.prog 14 := enters_of Try.func14 (by kernel_rfl) rfl
theorem ent_15 : Enters Try.prog 15 := enters_of Try.func15 (by kernel_rfl) rfl
theorem ent_16 : Enters Try.prog 16 := enters_of Try.func16 (by kernel_rfl) rfl
theorem ent_17 : Enters Try.prog 17 := enters_of Try.func17 (by kernel_rfl) rfl
theorem ent_18 : Enters Try.prog 18 := enters_of Try.func18 (by kernel_rfl) rfl
theorem ent_19 : Enters Try.prog 19 := enters_of Try.func19 (by kernel_rfl) rfl
theorem ent_20 : Enters Try.prog 20 := enters_of Try.func20 (by kernel_rfl) rfl
theorem ent_21 : Enters Try.prog 21 := enters_of Try.func21 (by kernel_rfl) rfl
theorem ent_22 : Enters Try.prog 22 := enters_of Try.func22 (by kernel_rfl) rfl
theorem ent_23 : Enters Try.prog 23 := enters_of Try.func23 (by kernel_rfl) rfl
theorem ent_24 : Enters Try.prog 24 := enters_of Try.func24 (by kernel_rfl) rfl
theorem ent_25 : Enters Try.prog 25 := enters_of Try.func25 (by kernel_rfl) rfl
theorem ent_26 : Enters Try.prog 26 := enters_of Try.func26 (by kernel_rfl) rfl
theorem ent_27 : Enters Try.prog 27 := enters_of Try.func27 (by kernel_rfl) rfl
theorem ent_28 : Enters Try.prog 28 := enters_of Try.func28 (by kernel_rfl) rfl
theorem ent_29 : Enters Try.prog 29 := enters_of Try.func29 (by kernel_rfl) rfl
theorem ent_30 : Enters Try.prog 30 := enters_of Try.func30 (by kernel_rfl) rfl
theorem ent_31 : Enters Try.prog 31 := enters_of Try.func31 (by kernel_rfl) rfl
theorem ent_32 : Enters Try.prog 32 := enters_of Try.func32 (by kernel_rfl) rfl
theorem ent_33 : Enters Try.prog 33 := enters_of Try.func33 (by kernel_rfl) rfl
theorem ent_34 : Enters Try.prog 34 := enters_of Try.func34 (by kernel_rfl) rfl
theorem ent_35 : Enters Try.prog 35 := enters_of Try.func35 (by kernel_rfl) rfl
theorem ent_37 : Enters Try.prog 37 := enters_of Try.func37 (by kernel_rfl) rfl
theorem ent_38 : Enters Try.prog 38 := enters_of Try.func38 (by kernel_rfl) rfl
theorem ent_39 : Enters Try.prog 39 := enters_of Try.func39 (by kernel_rfl) rfl
end Go.Proofs.Ythiacfpfgdoliaa
