/- What the program's types are, as the machine reads them. -/
import Derived.Test.YthmjpfooffbhhaaGreatDoorVc3
import Derived.Test.YthmjpfooffbhhaaGreatDoorProg
import Derived.KernelRfl
namespace Go.Proofs.YthmjpfooffbhhaaGreatDoor
open Go.Vc
theorem ti_0 : tiP Tryz.prog 0 = some ⟨false, 1, [.tuple #[]], .other⟩ := by kernel_rfl
theorem kd_0 : kindP Tryz.prog 0 = .other := by kernel_rfl
theorem ti_1 : tiP Tryz.prog 1 = some ⟨false, 1, [.nilFunc], .other⟩ := by kernel_rfl
theorem kd_1 : kindP Tryz.prog 1 = .other := by kernel_rfl
theorem ti_2 : tiP Tryz.prog 2 = some ⟨false, 1, [.int .i64 0], .int .i64⟩ := by kernel_rfl
theorem kd_2 : kindP Tryz.prog 2 = .int .i64 := by kernel_rfl
theorem ti_3 : tiP Tryz.prog 3 = some ⟨false, 1, [.int .i64 0], .int .i64⟩ := by kernel_rfl
theorem kd_3 : kindP Tryz.prog 3 = .int .i64 := by kernel_rfl
theorem ti_4 : tiP Tryz.prog 4 = some ⟨false, 1, [.bool false], .bool⟩ := by kernel_rfl
theorem kd_4 : kindP Tryz.prog 4 = .bool := by kernel_rfl
theorem ti_5 : tiP Tryz.prog 5 = some ⟨false, 1, [.int .u8 0], .int .u8⟩ := by kernel_rfl
theorem kd_5 : kindP Tryz.prog 5 = .int .u8 := by kernel_rfl
theorem ti_6 : tiP Tryz.prog 6 = some ⟨false, 1, [.int .u8 0], .int .u8⟩ := by kernel_rfl
theorem kd_6 : kindP Tryz.prog 6 = .int .u8 := by kernel_rfl
theorem ti_7 : tiP Tryz.prog 7 = some ⟨true, 4, [.int .i64 0, .int .i64 0, .bool false, .int .u8 0], .struct [(0, 1, false), (1, 1, false), (2, 1, false), (3, 1, false)]⟩ := by kernel_rfl
theorem kd_7 : kindP Tryz.prog 7 = .struct [(0, 1, false), (1, 1, false), (2, 1, false), (3, 1, false)] := by kernel_rfl
theorem ti_8 : tiP Tryz.prog 8 = some ⟨true, 4, [.int .i64 0, .int .i64 0, .bool false, .int .u8 0], .struct [(0, 1, false), (1, 1, false), (2, 1, false), (3, 1, false)]⟩ := by kernel_rfl
theorem kd_8 : kindP Tryz.prog 8 = .struct [(0, 1, false), (1, 1, false), (2, 1, false), (3, 1, false)] := by kernel_rfl
theorem ti_9 : tiP Tryz.prog 9 = some ⟨false, 1, [.string ⟨#[]⟩], .str⟩ := by kernel_rfl
theorem kd_9 : kindP Tryz.prog 9 = .str := by kernel_rfl
theorem ti_10 : tiP Tryz.prog 10 = some ⟨false, 1, [.string ⟨#[]⟩], .str⟩ := by kernel_rfl
theorem kd_10 : kindP Tryz.prog 10 = .str := by kernel_rfl
theorem ti_11 : tiP Tryz.prog 11 = some ⟨false, 1, [.string ⟨#[]⟩], .str⟩ := by kernel_rfl
theorem kd_11 : kindP Tryz.prog 11 = .str := by kernel_rfl
theorem ti_12 : tiP Tryz.prog 12 = some ⟨false, 1, [.int .u64 0], .int .u64⟩ := by kernel_rfl
theorem kd_12 : kindP Tryz.prog 12 = .int .u64 := by kernel_rfl
theorem ti_13 : tiP Tryz.prog 13 = some ⟨true, 2, [.string ⟨#[]⟩, .int .u64 0], .struct [(0, 1, false), (1, 1, false)]⟩ := by kernel_rfl
theorem kd_13 : kindP Tryz.prog 13 = .struct [(0, 1, false), (1, 1, false)] := by kernel_rfl
theorem ti_14 : tiP Tryz.prog 14 = some ⟨true, 2, [.string ⟨#[]⟩, .int .u64 0], .struct [(0, 1, false), (1, 1, false)]⟩ := by kernel_rfl
theorem kd_14 : kindP Tryz.prog 14 = .struct [(0, 1, false), (1, 1, false)] := by kernel_rfl
theorem ti_15 : tiP Tryz.prog 15 = some ⟨false, 1, [.pointer none], .ptr 205⟩ := by kernel_rfl
theorem kd_15 : kindP Tryz.prog 15 = .ptr 205 := by kernel_rfl
theorem ti_16 : tiP Tryz.prog 16 = some ⟨false, 1, [.pointer none], .ptr 208⟩ := by kernel_rfl
theorem kd_16 : kindP Tryz.prog 16 = .ptr 208 := by kernel_rfl
theorem ti_17 : tiP Tryz.prog 17 = some ⟨false, 1, [.pointer none], .ptr 216⟩ := by kernel_rfl
theorem kd_17 : kindP Tryz.prog 17 = .ptr 216 := by kernel_rfl
theorem ti_18 : tiP Tryz.prog 18 = some ⟨true, 1, [.pointer none], .struct [(0, 1, false)]⟩ := by kernel_rfl
theorem kd_18 : kindP Tryz.prog 18 = .struct [(0, 1, false)] := by kernel_rfl
theorem ti_19 : tiP Tryz.prog 19 = some ⟨true, 1, [.pointer none], .struct [(0, 1, false)]⟩ := by kernel_rfl
theorem kd_19 : kindP Tryz.prog 19 = .struct [(0, 1, false)] := by kernel_rfl
theorem ti_20 : tiP Tryz.prog 20 = some ⟨false, 1, [.nilIface], .other⟩ := by kernel_rfl
theorem kd_20 : kindP Tryz.prog 20 = .other := by kernel_rfl
theorem ti_21 : tiP Tryz.prog 21 = some ⟨false, 1, [.int .i32 0], .int .i32⟩ := by kernel_rfl
theorem kd_21 : kindP Tryz.prog 21 = .int .i32 := by kernel_rfl
theorem ti_22 : tiP Tryz.prog 22 = some ⟨false, 1, [.slice none 0 0], .slice 32 13 136 [.int .i64 0, .int .i64 0, .string ⟨#[]⟩, .int .i64 0, .int .i64 0, .int .i64 0, .string ⟨#[]⟩, .int .i64 0, .int .i64 0, .int .i64 0, .string ⟨#[]⟩, .int .i64 0, .string ⟨#[]⟩]⟩ := by kernel_rfl
theorem kd_22 : kindP Tryz.prog 22 = .slice 32 13 136 [.int .i64 0, .int .i64 0, .string ⟨#[]⟩, .int .i64 0, .int .i64 0, .int .i64 0, .string ⟨#[]⟩, .int .i64 0, .int .i64 0, .int .i64 0, .string ⟨#[]⟩, .int .i64 0, .string ⟨#[]⟩] := by kernel_rfl
theorem ti_23 : tiP Tryz.prog 23 = some ⟨false, 1, [.nilFunc], .other⟩ := by kernel_rfl
theorem kd_23 : kindP Tryz.prog 23 = .other := by kernel_rfl
theorem ti_24 : tiP Tryz.prog 24 = some ⟨false, 1, [.nilFunc], .other⟩ := by kernel_rfl
theorem kd_24 : kindP Tryz.prog 24 = .other := by kernel_rfl
theorem ti_25 : tiP Tryz.prog 25 = some ⟨false, 1, [.int .i64 0], .int .i64⟩ := by kernel_rfl
theorem kd_25 : kindP Tryz.prog 25 = .int .i64 := by kernel_rfl
theorem ti_27 : tiP Tryz.prog 27 = some ⟨false, 1, [.nilFunc], .other⟩ := by kernel_rfl
theorem kd_27 : kindP Tryz.prog 27 = .other := by kernel_rfl
theorem ti_28 : tiP Tryz.prog 28 = some ⟨false, 1, [.nilFunc], .other⟩ := by kernel_rfl
theorem kd_28 : kindP Tryz.prog 28 = .other := by kernel_rfl
theorem ti_30 : tiP Tryz.prog 30 = some ⟨true, 4, [.int .i64 0, .int .i64 0, .int .i64 0, .string ⟨#[]⟩], .struct [(0, 1, false), (1, 1, false), (2, 1, false), (3, 1, false)]⟩ := by kernel_rfl
theorem kd_30 : kindP Tryz.prog 30 = .struct [(0, 1, false), (1, 1, false), (2, 1, false), (3, 1, false)] := by kernel_rfl
theorem ti_31 : tiP Tryz.prog 31 = some ⟨true, 13, [.int .i64 0, .int .i64 0, .string ⟨#[]⟩, .int .i64 0, .int .i64 0, .int .i64 0, .string ⟨#[]⟩, .int .i64 0, .int .i64 0, .int .i64 0, .string ⟨#[]⟩, .int .i64 0, .string ⟨#[]⟩], .struct [(0, 1, false), (1, 1, false), (2, 1, false), (3, 4, true), (7, 4, true), (11, 1, false), (12, 1, false)]⟩ := by kernel_rfl
theorem kd_31 : kindP Tryz.prog 31 = .struct [(0, 1, false), (1, 1, false), (2, 1, false), (3, 4, true), (7, 4, true), (11, 1, false), (12, 1, false)] := by kernel_rfl
theorem ti_32 : tiP Tryz.prog 32 = some ⟨true, 13, [.int .i64 0, .int .i64 0, .string ⟨#[]⟩, .int .i64 0, .int .i64 0, .int .i64 0, .string ⟨#[]⟩, .int .i64 0, .int .i64 0, .int .i64 0, .string ⟨#[]⟩, .int .i64 0, .string ⟨#[]⟩], .struct [(0, 1, false), (1, 1, false), (2, 1, false), (3, 4, true), (7, 4, true), (11, 1, false), (12, 1, false)]⟩ := by kernel_rfl
theorem kd_32 : kindP Tryz.prog 32 = .struct [(0, 1, false), (1, 1, false), (2, 1, false), (3, 4, true), (7, 4, true), (11, 1, false), (12, 1, false)] := by kernel_rfl
theorem ti_33 : tiP Tryz.prog 33 = some ⟨false, 1, [.nilFunc], .other⟩ := by kernel_rfl
theorem kd_33 : kindP Tryz.prog 33 = .other := by kernel_rfl
theorem ti_34 : tiP Tryz.prog 34 = some ⟨false, 1, [.nilFunc], .other⟩ := by kernel_rfl
theorem kd_34 : kindP Tryz.prog 34 = .other := by kernel_rfl
theorem ti_35 : tiP Tryz.prog 35 = some ⟨false, 1, [.nilFunc], .other⟩ := by kernel_rfl
theorem kd_35 : kindP Tryz.prog 35 = .other := by kernel_rfl
theorem ti_36 : tiP Tryz.prog 36 = some ⟨false, 1, [.nilFunc], .other⟩ := by kernel_rfl
theorem kd_36 : kindP Tryz.prog 36 = .other := by kernel_rfl
theorem ti_37 : tiP Tryz.prog 37 = some ⟨false, 1, [.slice none 0 0], .slice 42 6 64 [.string ⟨#[]⟩, .int .i64 0, .int .i64 0, .int .i64 0, .string ⟨#[]⟩, .int .i64 0]⟩ := by kernel_rfl
theorem kd_37 : kindP Tryz.prog 37 = .slice 42 6 64 [.string ⟨#[]⟩, .int .i64 0, .int .i64 0, .int .i64 0, .string ⟨#[]⟩, .int .i64 0] := by kernel_rfl
theorem ti_39 : tiP Tryz.prog 39 = some ⟨false, 1, [.nilFunc], .other⟩ := by kernel_rfl
theorem kd_39 : kindP Tryz.prog 39 = .other := by kernel_rfl
theorem ti_40 : tiP Tryz.prog 40 = some ⟨false, 1, [.nilFunc], .other⟩ := by kernel_rfl
theorem kd_40 : kindP Tryz.prog 40 = .other := by kernel_rfl
theorem ti_41 : tiP Tryz.prog 41 = some ⟨true, 6, [.string ⟨#[]⟩, .int .i64 0, .int .i64 0, .int .i64 0, .string ⟨#[]⟩, .int .i64 0], .struct [(0, 1, false), (1, 4, true), (5, 1, false)]⟩ := by kernel_rfl
theorem kd_41 : kindP Tryz.prog 41 = .struct [(0, 1, false), (1, 4, true), (5, 1, false)] := by kernel_rfl
theorem ti_42 : tiP Tryz.prog 42 = some ⟨true, 6, [.string ⟨#[]⟩, .int .i64 0, .int .i64 0, .int .i64 0, .string ⟨#[]⟩, .int .i64 0], .struct [(0, 1, false), (1, 4, true), (5, 1, false)]⟩ := by kernel_rfl
theorem kd_42 : kindP Tryz.prog 42 = .struct [(0, 1, false), (1, 4, true), (5, 1, false)] := by kernel_rfl
theorem ti_43 : tiP Tryz.prog 43 = some ⟨false, 1, [.nilFunc], .other⟩ := by kernel_rfl
theorem kd_43 : kindP Tryz.prog 43 = .other := by kernel_rfl
theorem ti_44 : tiP Tryz.prog 44 = some ⟨false, 1, [.nilFunc], .other⟩ := by kernel_rfl
theorem kd_44 : kindP Tryz.prog 44 = .other := by kernel_rfl
theorem ti_46 : tiP Tryz.prog 46 = some ⟨false, 1, [.nilFunc], .other⟩ := by kernel_rfl
theorem kd_46 : kindP Tryz.prog 46 = .other := by kernel_rfl
theorem ti_47 : tiP Tryz.prog 47 = some ⟨false, 1, [.nilFunc], .other⟩ := by kernel_rfl
theorem kd_47 : kindP Tryz.prog 47 = .other := by kernel_rfl
theorem ti_48 : tiP Tryz.prog 48 = some ⟨false, 1, [.nilFunc], .other⟩ := by kernel_rfl
theorem kd_48 : kindP Tryz.prog 48 = .other := by kernel_rfl
theorem ti_49 : tiP Tryz.prog 49 = some ⟨false, 1, [.nilFunc], .other⟩ := by kernel_rfl
theorem kd_49 : kindP Tryz.prog 49 = .other := by kernel_rfl
theorem ti_50 : tiP Tryz.prog 50 = some ⟨false, 1, [.nilFunc], .other⟩ := by kernel_rfl
theorem kd_50 : kindP Tryz.prog 50 = .other := by kernel_rfl
theorem ti_51 : tiP Tryz.prog 51 = some ⟨false, 1, [.nilFunc], .other⟩ := by kernel_rfl
theorem kd_51 : kindP Tryz.prog 51 = .other := by kernel_rfl
theorem ti_52 : tiP Tryz.prog 52 = some ⟨false, 1, [.nilFunc], .other⟩ := by kernel_rfl
theorem kd_52 : kindP Tryz.prog 52 = .other := by kernel_rfl
theorem ti_53 : tiP Tryz.prog 53 = some ⟨true, 2, [.slice none 0 0, .slice none 0 0], .arr 2 22 1 false⟩ := by kernel_rfl
theorem kd_53 : kindP Tryz.prog 53 = .arr 2 22 1 false := by kernel_rfl
theorem ti_54 : tiP Tryz.prog 54 = some ⟨false, 1, [.nilFunc], .other⟩ := by kernel_rfl
theorem kd_54 : kindP Tryz.prog 54 = .other := by kernel_rfl
theorem ti_55 : tiP Tryz.prog 55 = some ⟨false, 1, [.map none], .map 9 42⟩ := by kernel_rfl
theorem kd_55 : kindP Tryz.prog 55 = .map 9 42 := by kernel_rfl
theorem ti_56 : tiP Tryz.prog 56 = some ⟨false, 1, [.nilFunc], .other⟩ := by kernel_rfl
theorem kd_56 : kindP Tryz.prog 56 = .other := by kernel_rfl
theorem ti_57 : tiP Tryz.prog 57 = some ⟨false, 1, [.nilFunc], .other⟩ := by kernel_rfl
theorem kd_57 : kindP Tryz.prog 57 = .other := by kernel_rfl
theorem ti_58 : tiP Tryz.prog 58 = some ⟨false, 1, [.pointer none], .ptr 81⟩ := by kernel_rfl
theorem kd_58 : kindP Tryz.prog 58 = .ptr 81 := by kernel_rfl
theorem ti_59 : tiP Tryz.prog 59 = some ⟨false, 1, [.nilFunc], .other⟩ := by kernel_rfl
theorem kd_59 : kindP Tryz.prog 59 = .other := by kernel_rfl
theorem ti_60 : tiP Tryz.prog 60 = some ⟨false, 1, [.nilFunc], .other⟩ := by kernel_rfl
theorem kd_60 : kindP Tryz.prog 60 = .other := by kernel_rfl
theorem ti_61 : tiP Tryz.prog 61 = some ⟨false, 1, [.slice none 0 0], .slice 9 1 16 [.string ⟨#[]⟩]⟩ := by kernel_rfl
theorem kd_61 : kindP Tryz.prog 61 = .slice 9 1 16 [.string ⟨#[]⟩] := by kernel_rfl
theorem ti_62 : tiP Tryz.prog 62 = some ⟨false, 1, [.nilFunc], .other⟩ := by kernel_rfl
theorem kd_62 : kindP Tryz.prog 62 = .other := by kernel_rfl
theorem ti_63 : tiP Tryz.prog 63 = some ⟨false, 1, [.nilFunc], .other⟩ := by kernel_rfl
theorem kd_63 : kindP Tryz.prog 63 = .other := by kernel_rfl
theorem ti_64 : tiP Tryz.prog 64 = some ⟨false, 1, [.map none], .map 9 66⟩ := by kernel_rfl
theorem kd_64 : kindP Tryz.prog 64 = .map 9 66 := by kernel_rfl
theorem ti_65 : tiP Tryz.prog 65 = some ⟨true, 2, [.int .i64 0, .int .i64 0], .struct [(0, 1, false), (1, 1, false)]⟩ := by kernel_rfl
theorem kd_65 : kindP Tryz.prog 65 = .struct [(0, 1, false), (1, 1, false)] := by kernel_rfl
theorem ti_66 : tiP Tryz.prog 66 = some ⟨true, 2, [.int .i64 0, .int .i64 0], .struct [(0, 1, false), (1, 1, false)]⟩ := by kernel_rfl
theorem kd_66 : kindP Tryz.prog 66 = .struct [(0, 1, false), (1, 1, false)] := by kernel_rfl
theorem ti_67 : tiP Tryz.prog 67 = some ⟨false, 1, [.nilFunc], .other⟩ := by kernel_rfl
theorem kd_67 : kindP Tryz.prog 67 = .other := by kernel_rfl
theorem ti_68 : tiP Tryz.prog 68 = some ⟨false, 1, [.pointer none], .ptr 71⟩ := by kernel_rfl
theorem kd_68 : kindP Tryz.prog 68 = .ptr 71 := by kernel_rfl
theorem ti_69 : tiP Tryz.prog 69 = some ⟨false, 1, [.slice none 0 0], .slice 5 1 1 [.int .u8 0]⟩ := by kernel_rfl
theorem kd_69 : kindP Tryz.prog 69 = .slice 5 1 1 [.int .u8 0] := by kernel_rfl
theorem ti_70 : tiP Tryz.prog 70 = some ⟨true, 2, [.pointer none, .slice none 0 0], .struct [(0, 1, false), (1, 1, false)]⟩ := by kernel_rfl
theorem kd_70 : kindP Tryz.prog 70 = .struct [(0, 1, false), (1, 1, false)] := by kernel_rfl
theorem ti_71 : tiP Tryz.prog 71 = some ⟨true, 2, [.pointer none, .slice none 0 0], .struct [(0, 1, false), (1, 1, false)]⟩ := by kernel_rfl
theorem kd_71 : kindP Tryz.prog 71 = .struct [(0, 1, false), (1, 1, false)] := by kernel_rfl
theorem ti_72 : tiP Tryz.prog 72 = some ⟨false, 1, [.nilFunc], .other⟩ := by kernel_rfl
theorem kd_72 : kindP Tryz.prog 72 = .other := by kernel_rfl
theorem ti_73 : tiP Tryz.prog 73 = some ⟨false, 1, [.nilFunc], .other⟩ := by kernel_rfl
theorem kd_73 : kindP Tryz.prog 73 = .other := by kernel_rfl
theorem ti_74 : tiP Tryz.prog 74 = some ⟨false, 1, [.nilFunc], .other⟩ := by kernel_rfl
theorem kd_74 : kindP Tryz.prog 74 = .other := by kernel_rfl
theorem ti_75 : tiP Tryz.prog 75 = some ⟨false, 1, [.nilFunc], .other⟩ := by kernel_rfl
theorem kd_75 : kindP Tryz.prog 75 = .other := by kernel_rfl
theorem ti_76 : tiP Tryz.prog 76 = some ⟨true, 5, [.int .i64 0, .int .i64 0, .int .i64 0, .string ⟨#[]⟩, .int .i64 0], .struct [(0, 4, true), (4, 1, false)]⟩ := by kernel_rfl
theorem kd_76 : kindP Tryz.prog 76 = .struct [(0, 4, true), (4, 1, false)] := by kernel_rfl
theorem ti_77 : tiP Tryz.prog 77 = some ⟨true, 5, [.int .i64 0, .int .i64 0, .int .i64 0, .string ⟨#[]⟩, .int .i64 0], .struct [(0, 4, true), (4, 1, false)]⟩ := by kernel_rfl
theorem kd_77 : kindP Tryz.prog 77 = .struct [(0, 4, true), (4, 1, false)] := by kernel_rfl
theorem ti_79 : tiP Tryz.prog 79 = some ⟨false, 1, [.map none], .map 9 77⟩ := by kernel_rfl
theorem kd_79 : kindP Tryz.prog 79 = .map 9 77 := by kernel_rfl
theorem ti_80 : tiP Tryz.prog 80 = some ⟨true, 2, [.map none, .int .i64 0], .struct [(0, 1, false), (1, 1, false)]⟩ := by kernel_rfl
theorem kd_80 : kindP Tryz.prog 80 = .struct [(0, 1, false), (1, 1, false)] := by kernel_rfl
theorem ti_81 : tiP Tryz.prog 81 = some ⟨true, 2, [.map none, .int .i64 0], .struct [(0, 1, false), (1, 1, false)]⟩ := by kernel_rfl
theorem kd_81 : kindP Tryz.prog 81 = .struct [(0, 1, false), (1, 1, false)] := by kernel_rfl
theorem ti_82 : tiP Tryz.prog 82 = some ⟨false, 1, [.nilFunc], .other⟩ := by kernel_rfl
theorem kd_82 : kindP Tryz.prog 82 = .other := by kernel_rfl
theorem ti_83 : tiP Tryz.prog 83 = some ⟨false, 1, [.nilIface], .other⟩ := by kernel_rfl
theorem kd_83 : kindP Tryz.prog 83 = .other := by kernel_rfl
theorem ti_84 : tiP Tryz.prog 84 = some ⟨false, 1, [.nilIface], .other⟩ := by kernel_rfl
theorem kd_84 : kindP Tryz.prog 84 = .other := by kernel_rfl
theorem ti_86 : tiP Tryz.prog 86 = some ⟨false, 1, [.nilFunc], .other⟩ := by kernel_rfl
theorem kd_86 : kindP Tryz.prog 86 = .other := by kernel_rfl
theorem ti_88 : tiP Tryz.prog 88 = some ⟨false, 1, [.nilFunc], .other⟩ := by kernel_rfl
theorem kd_88 : kindP Tryz.prog 88 = .other := by kernel_rfl
theorem ti_89 : tiP Tryz.prog 89 = some ⟨false, 1, [.map none], .map 9 3⟩ := by kernel_rfl
theorem kd_89 : kindP Tryz.prog 89 = .map 9 3 := by kernel_rfl
theorem ti_90 : tiP Tryz.prog 90 = some ⟨false, 1, [.nilFunc], .other⟩ := by kernel_rfl
theorem kd_90 : kindP Tryz.prog 90 = .other := by kernel_rfl
theorem ti_92 : tiP Tryz.prog 92 = some ⟨false, 1, [.nilFunc], .other⟩ := by kernel_rfl
theorem kd_92 : kindP Tryz.prog 92 = .other := by kernel_rfl
theorem ti_93 : tiP Tryz.prog 93 = some ⟨false, 1, [.nilFunc], .other⟩ := by kernel_rfl
theorem kd_93 : kindP Tryz.prog 93 = .other := by kernel_rfl
theorem ti_94 : tiP Tryz.prog 94 = some ⟨false, 1, [.nilFunc], .other⟩ := by kernel_rfl
theorem kd_94 : kindP Tryz.prog 94 = .other := by kernel_rfl
theorem ti_95 : tiP Tryz.prog 95 = some ⟨false, 1, [.nilFunc], .other⟩ := by kernel_rfl
theorem kd_95 : kindP Tryz.prog 95 = .other := by kernel_rfl
theorem ti_96 : tiP Tryz.prog 96 = some ⟨false, 1, [.nilFunc], .other⟩ := by kernel_rfl
theorem kd_96 : kindP Tryz.prog 96 = .other := by kernel_rfl
theorem ti_97 : tiP Tryz.prog 97 = some ⟨false, 1, [.nilFunc], .other⟩ := by kernel_rfl
theorem kd_97 : kindP Tryz.prog 97 = .other := by kernel_rfl
theorem ti_98 : tiP Tryz.prog 98 = some ⟨false, 1, [.nilFunc], .other⟩ := by kernel_rfl
theorem kd_98 : kindP Tryz.prog 98 = .other := by kernel_rfl
theorem ti_99 : tiP Tryz.prog 99 = some ⟨false, 1, [.nilFunc], .other⟩ := by kernel_rfl
theorem kd_99 : kindP Tryz.prog 99 = .other := by kernel_rfl
theorem ti_100 : tiP Tryz.prog 100 = some ⟨false, 1, [.nilFunc], .other⟩ := by kernel_rfl
theorem kd_100 : kindP Tryz.prog 100 = .other := by kernel_rfl
theorem ti_101 : tiP Tryz.prog 101 = some ⟨false, 1, [.slice none 0 0], .slice 25 1 8 [.int .i64 0]⟩ := by kernel_rfl
theorem kd_101 : kindP Tryz.prog 101 = .slice 25 1 8 [.int .i64 0] := by kernel_rfl
theorem ti_103 : tiP Tryz.prog 103 = some ⟨false, 1, [.nilFunc], .other⟩ := by kernel_rfl
theorem kd_103 : kindP Tryz.prog 103 = .other := by kernel_rfl
theorem ti_104 : tiP Tryz.prog 104 = some ⟨false, 1, [.nilFunc], .other⟩ := by kernel_rfl
theorem kd_104 : kindP Tryz.prog 104 = .other := by kernel_rfl
theorem ti_105 : tiP Tryz.prog 105 = some ⟨false, 1, [.nilFunc], .other⟩ := by kernel_rfl
theorem kd_105 : kindP Tryz.prog 105 = .other := by kernel_rfl
theorem ti_106 : tiP Tryz.prog 106 = some ⟨false, 1, [.nilFunc], .other⟩ := by kernel_rfl
theorem kd_106 : kindP Tryz.prog 106 = .other := by kernel_rfl
theorem ti_108 : tiP Tryz.prog 108 = some ⟨false, 1, [.nilFunc], .other⟩ := by kernel_rfl
theorem kd_108 : kindP Tryz.prog 108 = .other := by kernel_rfl
theorem ti_109 : tiP Tryz.prog 109 = some ⟨false, 1, [.nilFunc], .other⟩ := by kernel_rfl
theorem kd_109 : kindP Tryz.prog 109 = .other := by kernel_rfl
theorem ti_110 : tiP Tryz.prog 110 = some ⟨false, 1, [.nilFunc], .other⟩ := by kernel_rfl
theorem kd_110 : kindP Tryz.prog 110 = .other := by kernel_rfl
theorem ti_111 : tiP Tryz.prog 111 = some ⟨false, 1, [.pointer none], .ptr 5⟩ := by kernel_rfl
theorem kd_111 : kindP Tryz.prog 111 = .ptr 5 := by kernel_rfl
theorem ti_112 : tiP Tryz.prog 112 = some ⟨false, 1, [.nilFunc], .other⟩ := by kernel_rfl
theorem kd_112 : kindP Tryz.prog 112 = .other := by kernel_rfl
theorem ti_113 : tiP Tryz.prog 113 = some ⟨false, 1, [.nilFunc], .other⟩ := by kernel_rfl
theorem kd_113 : kindP Tryz.prog 113 = .other := by kernel_rfl
theorem ti_114 : tiP Tryz.prog 114 = some ⟨false, 1, [.nilFunc], .other⟩ := by kernel_rfl
theorem kd_114 : kindP Tryz.prog 114 = .other := by kernel_rfl
theorem ti_115 : tiP Tryz.prog 115 = some ⟨false, 1, [.nilFunc], .other⟩ := by kernel_rfl
theorem kd_115 : kindP Tryz.prog 115 = .other := by kernel_rfl
theorem ti_116 : tiP Tryz.prog 116 = some ⟨false, 1, [.slice none 0 0], .slice 30 4 40 [.int .i64 0, .int .i64 0, .int .i64 0, .string ⟨#[]⟩]⟩ := by kernel_rfl
theorem kd_116 : kindP Tryz.prog 116 = .slice 30 4 40 [.int .i64 0, .int .i64 0, .int .i64 0, .string ⟨#[]⟩] := by kernel_rfl
theorem ti_117 : tiP Tryz.prog 117 = some ⟨false, 1, [.slice none 0 0], .slice 3 1 8 [.int .i64 0]⟩ := by kernel_rfl
theorem kd_117 : kindP Tryz.prog 117 = .slice 3 1 8 [.int .i64 0] := by kernel_rfl
theorem ti_118 : tiP Tryz.prog 118 = some ⟨false, 1, [.nilFunc], .other⟩ := by kernel_rfl
theorem kd_118 : kindP Tryz.prog 118 = .other := by kernel_rfl
theorem ti_119 : tiP Tryz.prog 119 = some ⟨false, 1, [.nilFunc], .other⟩ := by kernel_rfl
theorem kd_119 : kindP Tryz.prog 119 = .other := by kernel_rfl
theorem ti_120 : tiP Tryz.prog 120 = some ⟨false, 1, [.nilFunc], .other⟩ := by kernel_rfl
theorem kd_120 : kindP Tryz.prog 120 = .other := by kernel_rfl
theorem ti_121 : tiP Tryz.prog 121 = some ⟨false, 1, [.nilFunc], .other⟩ := by kernel_rfl
theorem kd_121 : kindP Tryz.prog 121 = .other := by kernel_rfl
theorem ti_122 : tiP Tryz.prog 122 = some ⟨false, 1, [.nilFunc], .other⟩ := by kernel_rfl
theorem kd_122 : kindP Tryz.prog 122 = .other := by kernel_rfl
theorem ti_123 : tiP Tryz.prog 123 = some ⟨true, 8, [.int .i64 0, .int .i64 0, .int .i64 0, .string ⟨#[]⟩, .int .i64 0, .int .i64 0, .int .i64 0, .string ⟨#[]⟩], .arr 2 30 4 true⟩ := by kernel_rfl
theorem kd_123 : kindP Tryz.prog 123 = .arr 2 30 4 true := by kernel_rfl
theorem ti_125 : tiP Tryz.prog 125 = some ⟨false, 1, [.nilFunc], .other⟩ := by kernel_rfl
theorem kd_125 : kindP Tryz.prog 125 = .other := by kernel_rfl
theorem ti_126 : tiP Tryz.prog 126 = some ⟨false, 1, [.nilFunc], .other⟩ := by kernel_rfl
theorem kd_126 : kindP Tryz.prog 126 = .other := by kernel_rfl
theorem ti_127 : tiP Tryz.prog 127 = some ⟨false, 1, [.nilFunc], .other⟩ := by kernel_rfl
theorem kd_127 : kindP Tryz.prog 127 = .other := by kernel_rfl
theorem ti_128 : tiP Tryz.prog 128 = some ⟨false, 1, [.int .u64 0], .int .u64⟩ := by kernel_rfl
theorem kd_128 : kindP Tryz.prog 128 = .int .u64 := by kernel_rfl
theorem ti_129 : tiP Tryz.prog 129 = some ⟨false, 1, [.nilFunc], .other⟩ := by kernel_rfl
theorem kd_129 : kindP Tryz.prog 129 = .other := by kernel_rfl
theorem ti_130 : tiP Tryz.prog 130 = some ⟨true, 3, [.int .i64 0, .int .i64 0, .int .i64 0], .arr 3 3 1 false⟩ := by kernel_rfl
theorem kd_130 : kindP Tryz.prog 130 = .arr 3 3 1 false := by kernel_rfl
theorem ti_131 : tiP Tryz.prog 131 = some ⟨false, 1, [.pointer none], .other⟩ := by kernel_rfl
theorem kd_131 : kindP Tryz.prog 131 = .other := by kernel_rfl
theorem ti_135 : tiP Tryz.prog 135 = some ⟨false, 1, [.nilFunc], .other⟩ := by kernel_rfl
theorem kd_135 : kindP Tryz.prog 135 = .other := by kernel_rfl
theorem ti_136 : tiP Tryz.prog 136 = some ⟨false, 1, [.nilFunc], .other⟩ := by kernel_rfl
theorem kd_136 : kindP Tryz.prog 136 = .other := by kernel_rfl
theorem ti_143 : tiP Tryz.prog 143 = some ⟨false, 1, [.nilFunc], .other⟩ := by kernel_rfl
theorem kd_143 : kindP Tryz.prog 143 = .other := by kernel_rfl
theorem ti_145 : tiP Tryz.prog 145 = some ⟨false, 1, [.int .u32 0], .int .u32⟩ := by kernel_rfl
theorem kd_145 : kindP Tryz.prog 145 = .int .u32 := by kernel_rfl
theorem ti_147 : tiP Tryz.prog 147 = some ⟨false, 1, [.int .u64 0], .int .u64⟩ := by kernel_rfl
theorem kd_147 : kindP Tryz.prog 147 = .int .u64 := by kernel_rfl
theorem ti_149 : tiP Tryz.prog 149 = some ⟨false, 1, [.nilFunc], .other⟩ := by kernel_rfl
theorem kd_149 : kindP Tryz.prog 149 = .other := by kernel_rfl
theorem ti_152 : tiP Tryz.prog 152 = some ⟨false, 1, [.nilFunc], .other⟩ := by kernel_rfl
theorem kd_152 : kindP Tryz.prog 152 = .other := by kernel_rfl
theorem ti_154 : tiP Tryz.prog 154 = some ⟨true, 256, [.bool false, .bool false, .bool false, .bool false, .bool false, .bool false, .bool false, .bool false, .bool false, .bool false, .bool false, .bool false, .bool false, .bool false, .bool false, .bool false, .bool false, .bool false, .bool false, .bool false, .bool false, .bool false, .bool false, .bool false, .bool false, .bool false, .bool false, .bool false, .bool false, .bool false, .bool false, .bool false, .bool false, .bool false, .bool false, .bool false, .bool false, .bool false, .bool false, .bool false, .bool false, .bool false, .bool false, .bool false, .bool false, .bool false, .bool false, .bool false, .bool false, .bool false, .bool false, .bool false, .bool false, .bool false, .bool false, .bool false, .bool false, .bool false, .bool false, .bool false, .bool false, .bool false, .bool false, .bool false, .bool false, .bool false, .bool false, .bool false, .bool false, .bool false, .bool false, .bool false, .bool false, .bool false, .bool false, .bool false, .bool false, .bool false, .bool false, .bool false, .bool false, .bool false, .bool false, .bool false, .bool false, .bool false, .bool false, .bool false, .bool false, .bool false, .bool false, .bool false, .bool false, .bool false, .bool false, .bool false, .bool false, .bool false, .bool false, .bool false, .bool false, .bool false, .bool false, .bool false, .bool false, .bool false, .bool false, .bool false, .bool false, .bool false, .bool false, .bool false, .bool false, .bool false, .bool false, .bool false, .bool false, .bool false, .bool false, .bool false, .bool false, .bool false, .bool false, .bool false, .bool false, .bool false, .bool false, .bool false, .bool false, .bool false, .bool false, .bool false, .bool false, .bool false, .bool false, .bool false, .bool false, .bool false, .bool false, .bool false, .bool false, .bool false, .bool false, .bool false, .bool false, .bool false, .bool false, .bool false, .bool false, .bool false, .bool false, .bool false, .bool false, .bool false, .bool false, .bool false, .bool false, .bool false, .bool false, .bool false, .bool false, .bool false, .bool false, .bool false, .bool false, .bool false, .bool false, .bool false, .bool false, .bool false, .bool false, .bool false, .bool false, .bool false, .bool false, .bool false, .bool false, .bool false, .bool false, .bool false, .bool false, .bool false, .bool false, .bool false, .bool false, .bool false, .bool false, .bool false, .bool false, .bool false, .bool false, .bool false, .bool false, .bool false, .bool false, .bool false, .bool false, .bool false, .bool false, .bool false, .bool false, .bool false, .bool false, .bool false, .bool false, .bool false, .bool false, .bool false, .bool false, .bool false, .bool false, .bool false, .bool false, .bool false, .bool false, .bool false, .bool false, .bool false, .bool false, .bool false, .bool false, .bool false, .bool false, .bool false, .bool false, .bool false, .bool false, .bool false, .bool false, .bool false, .bool false, .bool false, .bool false, .bool false, .bool false, .bool false, .bool false, .bool false, .bool false, .bool false, .bool false, .bool false, .bool false, .bool false, .bool false, .bool false, .bool false, .bool false, .bool false, .bool false, .bool false, .bool false, .bool false, .bool false, .bool false, .bool false], .arr 256 4 1 false⟩ := by kernel_rfl
theorem kd_154 : kindP Tryz.prog 154 = .arr 256 4 1 false := by kernel_rfl
theorem ti_155 : tiP Tryz.prog 155 = some ⟨true, 256, [.bool false, .bool false, .bool false, .bool false, .bool false, .bool false, .bool false, .bool false, .bool false, .bool false, .bool false, .bool false, .bool false, .bool false, .bool false, .bool false, .bool false, .bool false, .bool false, .bool false, .bool false, .bool false, .bool false, .bool false, .bool false, .bool false, .bool false, .bool false, .bool false, .bool false, .bool false, .bool false, .bool false, .bool false, .bool false, .bool false, .bool false, .bool false, .bool false, .bool false, .bool false, .bool false, .bool false, .bool false, .bool false, .bool false, .bool false, .bool false, .bool false, .bool false, .bool false, .bool false, .bool false, .bool false, .bool false, .bool false, .bool false, .bool false, .bool false, .bool false, .bool false, .bool false, .bool false, .bool false, .bool false, .bool false, .bool false, .bool false, .bool false, .bool false, .bool false, .bool false, .bool false, .bool false, .bool false, .bool false, .bool false, .bool false, .bool false, .bool false, .bool false, .bool false, .bool false, .bool false, .bool false, .bool false, .bool false, .bool false, .bool false, .bool false, .bool false, .bool false, .bool false, .bool false, .bool false, .bool false, .bool false, .bool false, .bool false, .bool false, .bool false, .bool false, .bool false, .bool false, .bool false, .bool false, .bool false, .bool false, .bool false, .bool false, .bool false, .bool false, .bool false, .bool false, .bool false, .bool false, .bool false, .bool false, .bool false, .bool false, .bool false, .bool false, .bool false, .bool false, .bool false, .bool false, .bool false, .bool false, .bool false, .bool false, .bool false, .bool false, .bool false, .bool false, .bool false, .bool false, .bool false, .bool false, .bool false, .bool false, .bool false, .bool false, .bool false, .bool false, .bool false, .bool false, .bool false, .bool false, .bool false, .bool false, .bool false, .bool false, .bool false, .bool false, .bool false, .bool false, .bool false, .bool false, .bool false, .bool false, .bool false, .bool false, .bool false, .bool false, .bool false, .bool false, .bool false, .bool false, .bool false, .bool false, .bool false, .bool false, .bool false, .bool false, .bool false, .bool false, .bool false, .bool false, .bool false, .bool false, .bool false, .bool false, .bool false, .bool false, .bool false, .bool false, .bool false, .bool false, .bool false, .bool false, .bool false, .bool false, .bool false, .bool false, .bool false, .bool false, .bool false, .bool false, .bool false, .bool false, .bool false, .bool false, .bool false, .bool false, .bool false, .bool false, .bool false, .bool false, .bool false, .bool false, .bool false, .bool false, .bool false, .bool false, .bool false, .bool false, .bool false, .bool false, .bool false, .bool false, .bool false, .bool false, .bool false, .bool false, .bool false, .bool false, .bool false, .bool false, .bool false, .bool false, .bool false, .bool false, .bool false, .bool false, .bool false, .bool false, .bool false, .bool false, .bool false, .bool false, .bool false, .bool false, .bool false, .bool false, .bool false, .bool false, .bool false, .bool false, .bool false, .bool false, .bool false, .bool false, .bool false, .bool false, .bool false, .bool false], .arr 256 4 1 false⟩ := by kernel_rfl
theorem kd_155 : kindP Tryz.prog 155 = .arr 256 4 1 false := by kernel_rfl
theorem ti_159 : tiP Tryz.prog 159 = some ⟨false, 1, [.pointer none], .ptr 155⟩ := by kernel_rfl
theorem kd_159 : kindP Tryz.prog 159 = .ptr 155 := by kernel_rfl
theorem ti_163 : tiP Tryz.prog 163 = some ⟨false, 1, [.nilFunc], .other⟩ := by kernel_rfl
theorem kd_163 : kindP Tryz.prog 163 = .other := by kernel_rfl
theorem ti_164 : tiP Tryz.prog 164 = some ⟨false, 1, [.pointer none], .ptr 185⟩ := by kernel_rfl
theorem kd_164 : kindP Tryz.prog 164 = .ptr 185 := by kernel_rfl
theorem ti_166 : tiP Tryz.prog 166 = some ⟨false, 1, [.nilFunc], .other⟩ := by kernel_rfl
theorem kd_166 : kindP Tryz.prog 166 = .other := by kernel_rfl
theorem ti_167 : tiP Tryz.prog 167 = some ⟨false, 1, [.int .u64 0], .int .u64⟩ := by kernel_rfl
theorem kd_167 : kindP Tryz.prog 167 = .int .u64 := by kernel_rfl
theorem ti_168 : tiP Tryz.prog 168 = some ⟨false, 1, [.nilFunc], .other⟩ := by kernel_rfl
theorem kd_168 : kindP Tryz.prog 168 = .other := by kernel_rfl
theorem ti_171 : tiP Tryz.prog 171 = some ⟨false, 1, [.pointer none], .ptr 3⟩ := by kernel_rfl
theorem kd_171 : kindP Tryz.prog 171 = .ptr 3 := by kernel_rfl
theorem ti_172 : tiP Tryz.prog 172 = some ⟨false, 1, [.nilFunc], .other⟩ := by kernel_rfl
theorem kd_172 : kindP Tryz.prog 172 = .other := by kernel_rfl
theorem ti_180 : tiP Tryz.prog 180 = some ⟨false, 1, [.nilFunc], .other⟩ := by kernel_rfl
theorem kd_180 : kindP Tryz.prog 180 = .other := by kernel_rfl
theorem ti_184 : tiP Tryz.prog 184 = some ⟨true, 3, [.string ⟨#[]⟩, .string ⟨#[]⟩, .nilIface], .struct [(0, 1, false), (1, 1, false), (2, 1, false)]⟩ := by kernel_rfl
theorem kd_184 : kindP Tryz.prog 184 = .struct [(0, 1, false), (1, 1, false), (2, 1, false)] := by kernel_rfl
theorem ti_189 : tiP Tryz.prog 189 = some ⟨false, 1, [.nilFunc], .other⟩ := by kernel_rfl
theorem kd_189 : kindP Tryz.prog 189 = .other := by kernel_rfl
theorem ti_190 : tiP Tryz.prog 190 = some ⟨false, 1, [.nilFunc], .other⟩ := by kernel_rfl
theorem kd_190 : kindP Tryz.prog 190 = .other := by kernel_rfl
theorem ti_207 : tiP Tryz.prog 207 = some ⟨true, 0, [], .struct [(0, 0, true)]⟩ := by kernel_rfl
theorem kd_207 : kindP Tryz.prog 207 = .struct [(0, 0, true)] := by kernel_rfl
theorem ti_216 : tiP Tryz.prog 216 = some ⟨true, 11, [.int .u64 0, .int .u64 0, .int .u32 0, .int .u8 0, .int .u8 0, .int .u8 0, .int .u8 0, .nilFunc, .pointer none, .int .i32 0, .int .i32 0], .struct [(0, 1, false), (1, 1, false), (2, 1, false), (3, 1, false), (4, 1, false), (5, 1, false), (6, 1, false), (7, 1, false), (8, 1, false), (9, 1, false), (10, 1, false)]⟩ := by kernel_rfl
theorem kd_216 : kindP Tryz.prog 216 = .struct [(0, 1, false), (1, 1, false), (2, 1, false), (3, 1, false), (4, 1, false), (5, 1, false), (6, 1, false), (7, 1, false), (8, 1, false), (9, 1, false), (10, 1, false)] := by kernel_rfl
theorem zf_0 : zfP Tryz.prog 0 = false := by kernel_rfl
theorem zf_1 : zfP Tryz.prog 1 = false := by kernel_rfl
theorem zf_2 : zfP Tryz.prog 2 = false := by kernel_rfl
theorem zf_3 : zfP Tryz.prog 3 = false := by kernel_rfl
theorem zf_4 : zfP Tryz.prog 4 = false := by kernel_rfl
theorem zf_5 : zfP Tryz.prog 5 = false := by kernel_rfl
theorem zf_6 : zfP Tryz.prog 6 = false := by kernel_rfl
theorem zf_7 : zfP Tryz.prog 7 = true := by kernel_rfl
theorem zf_8 : zfP Tryz.prog 8 = true := by kernel_rfl
theorem zf_9 : zfP Tryz.prog 9 = false := by kernel_rfl
theorem zf_10 : zfP Tryz.prog 10 = false := by kernel_rfl
theorem zf_11 : zfP Tryz.prog 11 = false := by kernel_rfl
theorem zf_12 : zfP Tryz.prog 12 = false := by kernel_rfl
theorem zf_13 : zfP Tryz.prog 13 = true := by kernel_rfl
theorem zf_14 : zfP Tryz.prog 14 = true := by kernel_rfl
theorem zf_15 : zfP Tryz.prog 15 = false := by kernel_rfl
theorem zf_16 : zfP Tryz.prog 16 = false := by kernel_rfl
theorem zf_17 : zfP Tryz.prog 17 = false := by kernel_rfl
theorem zf_18 : zfP Tryz.prog 18 = true := by kernel_rfl
theorem zf_19 : zfP Tryz.prog 19 = true := by kernel_rfl
theorem zf_20 : zfP Tryz.prog 20 = false := by kernel_rfl
theorem zf_21 : zfP Tryz.prog 21 = false := by kernel_rfl
theorem zf_22 : zfP Tryz.prog 22 = false := by kernel_rfl
theorem zf_23 : zfP Tryz.prog 23 = false := by kernel_rfl
theorem zf_24 : zfP Tryz.prog 24 = false := by kernel_rfl
theorem zf_25 : zfP Tryz.prog 25 = false := by kernel_rfl
theorem zf_26 : zfP Tryz.prog 26 = false := by kernel_rfl
theorem zf_27 : zfP Tryz.prog 27 = false := by kernel_rfl
theorem zf_28 : zfP Tryz.prog 28 = false := by kernel_rfl
theorem zf_30 : zfP Tryz.prog 30 = true := by kernel_rfl
theorem zf_31 : zfP Tryz.prog 31 = true := by kernel_rfl
theorem zf_32 : zfP Tryz.prog 32 = true := by kernel_rfl
theorem zf_33 : zfP Tryz.prog 33 = false := by kernel_rfl
theorem zf_34 : zfP Tryz.prog 34 = false := by kernel_rfl
theorem zf_35 : zfP Tryz.prog 35 = false := by kernel_rfl
theorem zf_36 : zfP Tryz.prog 36 = false := by kernel_rfl
theorem zf_37 : zfP Tryz.prog 37 = false := by kernel_rfl
theorem zf_38 : zfP Tryz.prog 38 = false := by kernel_rfl
theorem zf_39 : zfP Tryz.prog 39 = false := by kernel_rfl
theorem zf_40 : zfP Tryz.prog 40 = false := by kernel_rfl
theorem zf_41 : zfP Tryz.prog 41 = true := by kernel_rfl
theorem zf_42 : zfP Tryz.prog 42 = true := by kernel_rfl
theorem zf_43 : zfP Tryz.prog 43 = false := by kernel_rfl
theorem zf_44 : zfP Tryz.prog 44 = false := by kernel_rfl
theorem zf_45 : zfP Tryz.prog 45 = false := by kernel_rfl
theorem zf_46 : zfP Tryz.prog 46 = false := by kernel_rfl
theorem zf_47 : zfP Tryz.prog 47 = false := by kernel_rfl
theorem zf_48 : zfP Tryz.prog 48 = false := by kernel_rfl
theorem zf_49 : zfP Tryz.prog 49 = false := by kernel_rfl
theorem zf_50 : zfP Tryz.prog 50 = false := by kernel_rfl
theorem zf_51 : zfP Tryz.prog 51 = false := by kernel_rfl
theorem zf_52 : zfP Tryz.prog 52 = false := by kernel_rfl
theorem zf_53 : zfP Tryz.prog 53 = true := by kernel_rfl
theorem zf_54 : zfP Tryz.prog 54 = false := by kernel_rfl
theorem zf_55 : zfP Tryz.prog 55 = false := by kernel_rfl
theorem zf_56 : zfP Tryz.prog 56 = false := by kernel_rfl
theorem zf_57 : zfP Tryz.prog 57 = false := by kernel_rfl
theorem zf_58 : zfP Tryz.prog 58 = false := by kernel_rfl
theorem zf_59 : zfP Tryz.prog 59 = false := by kernel_rfl
theorem zf_60 : zfP Tryz.prog 60 = false := by kernel_rfl
theorem zf_61 : zfP Tryz.prog 61 = false := by kernel_rfl
theorem zf_62 : zfP Tryz.prog 62 = false := by kernel_rfl
theorem zf_63 : zfP Tryz.prog 63 = false := by kernel_rfl
theorem zf_64 : zfP Tryz.prog 64 = false := by kernel_rfl
theorem zf_65 : zfP Tryz.prog 65 = true := by kernel_rfl
theorem zf_66 : zfP Tryz.prog 66 = true := by kernel_rfl
theorem zf_67 : zfP Tryz.prog 67 = false := by kernel_rfl
theorem zf_68 : zfP Tryz.prog 68 = false := by kernel_rfl
theorem zf_69 : zfP Tryz.prog 69 = false := by kernel_rfl
theorem zf_70 : zfP Tryz.prog 70 = true := by kernel_rfl
theorem zf_71 : zfP Tryz.prog 71 = true := by kernel_rfl
theorem zf_72 : zfP Tryz.prog 72 = false := by kernel_rfl
theorem zf_73 : zfP Tryz.prog 73 = false := by kernel_rfl
theorem zf_74 : zfP Tryz.prog 74 = false := by kernel_rfl
theorem zf_75 : zfP Tryz.prog 75 = false := by kernel_rfl
theorem zf_76 : zfP Tryz.prog 76 = true := by kernel_rfl
theorem zf_77 : zfP Tryz.prog 77 = true := by kernel_rfl
theorem zf_78 : zfP Tryz.prog 78 = false := by kernel_rfl
theorem zf_79 : zfP Tryz.prog 79 = false := by kernel_rfl
theorem zf_80 : zfP Tryz.prog 80 = true := by kernel_rfl
theorem zf_81 : zfP Tryz.prog 81 = true := by kernel_rfl
theorem zf_82 : zfP Tryz.prog 82 = false := by kernel_rfl
theorem zf_83 : zfP Tryz.prog 83 = false := by kernel_rfl
theorem zf_84 : zfP Tryz.prog 84 = false := by kernel_rfl
theorem zf_85 : zfP Tryz.prog 85 = false := by kernel_rfl
theorem zf_86 : zfP Tryz.prog 86 = false := by kernel_rfl
theorem zf_88 : zfP Tryz.prog 88 = false := by kernel_rfl
theorem zf_89 : zfP Tryz.prog 89 = false := by kernel_rfl
theorem zf_90 : zfP Tryz.prog 90 = false := by kernel_rfl
theorem zf_92 : zfP Tryz.prog 92 = false := by kernel_rfl
theorem zf_93 : zfP Tryz.prog 93 = false := by kernel_rfl
theorem zf_94 : zfP Tryz.prog 94 = false := by kernel_rfl
theorem zf_95 : zfP Tryz.prog 95 = false := by kernel_rfl
theorem zf_96 : zfP Tryz.prog 96 = false := by kernel_rfl
theorem zf_97 : zfP Tryz.prog 97 = false := by kernel_rfl
theorem zf_98 : zfP Tryz.prog 98 = false := by kernel_rfl
theorem zf_99 : zfP Tryz.prog 99 = false := by kernel_rfl
theorem zf_100 : zfP Tryz.prog 100 = false := by kernel_rfl
theorem zf_101 : zfP Tryz.prog 101 = false := by kernel_rfl
theorem zf_102 : zfP Tryz.prog 102 = false := by kernel_rfl
theorem zf_103 : zfP Tryz.prog 103 = false := by kernel_rfl
theorem zf_104 : zfP Tryz.prog 104 = false := by kernel_rfl
theorem zf_105 : zfP Tryz.prog 105 = false := by kernel_rfl
theorem zf_106 : zfP Tryz.prog 106 = false := by kernel_rfl
theorem zf_107 : zfP Tryz.prog 107 = false := by kernel_rfl
theorem zf_108 : zfP Tryz.prog 108 = false := by kernel_rfl
theorem zf_109 : zfP Tryz.prog 109 = false := by kernel_rfl
theorem zf_110 : zfP Tryz.prog 110 = false := by kernel_rfl
theorem zf_111 : zfP Tryz.prog 111 = false := by kernel_rfl
theorem zf_112 : zfP Tryz.prog 112 = false := by kernel_rfl
theorem zf_113 : zfP Tryz.prog 113 = false := by kernel_rfl
theorem zf_114 : zfP Tryz.prog 114 = false := by kernel_rfl
theorem zf_115 : zfP Tryz.prog 115 = false := by kernel_rfl
theorem zf_116 : zfP Tryz.prog 116 = false := by kernel_rfl
theorem zf_117 : zfP Tryz.prog 117 = false := by kernel_rfl
theorem zf_118 : zfP Tryz.prog 118 = false := by kernel_rfl
theorem zf_119 : zfP Tryz.prog 119 = false := by kernel_rfl
theorem zf_120 : zfP Tryz.prog 120 = false := by kernel_rfl
theorem zf_121 : zfP Tryz.prog 121 = false := by kernel_rfl
theorem zf_122 : zfP Tryz.prog 122 = false := by kernel_rfl
theorem zf_123 : zfP Tryz.prog 123 = true := by kernel_rfl
theorem zf_124 : zfP Tryz.prog 124 = false := by kernel_rfl
theorem zf_125 : zfP Tryz.prog 125 = false := by kernel_rfl
theorem zf_126 : zfP Tryz.prog 126 = false := by kernel_rfl
theorem zf_127 : zfP Tryz.prog 127 = false := by kernel_rfl
theorem zf_128 : zfP Tryz.prog 128 = false := by kernel_rfl
theorem zf_129 : zfP Tryz.prog 129 = false := by kernel_rfl
theorem zf_130 : zfP Tryz.prog 130 = true := by kernel_rfl
theorem zf_131 : zfP Tryz.prog 131 = false := by kernel_rfl
theorem zf_135 : zfP Tryz.prog 135 = false := by kernel_rfl
theorem zf_136 : zfP Tryz.prog 136 = false := by kernel_rfl
theorem zf_143 : zfP Tryz.prog 143 = false := by kernel_rfl
theorem zf_145 : zfP Tryz.prog 145 = false := by kernel_rfl
theorem zf_147 : zfP Tryz.prog 147 = false := by kernel_rfl
theorem zf_149 : zfP Tryz.prog 149 = false := by kernel_rfl
theorem zf_150 : zfP Tryz.prog 150 = false := by kernel_rfl
theorem zf_152 : zfP Tryz.prog 152 = false := by kernel_rfl
theorem zf_154 : zfP Tryz.prog 154 = true := by kernel_rfl
theorem zf_155 : zfP Tryz.prog 155 = true := by kernel_rfl
theorem zf_156 : zfP Tryz.prog 156 = false := by kernel_rfl
theorem zf_159 : zfP Tryz.prog 159 = false := by kernel_rfl
theorem zf_162 : zfP Tryz.prog 162 = false := by kernel_rfl
theorem zf_163 : zfP Tryz.prog 163 = false := by kernel_rfl
theorem zf_164 : zfP Tryz.prog 164 = false := by kernel_rfl
theorem zf_166 : zfP Tryz.prog 166 = false := by kernel_rfl
theorem zf_167 : zfP Tryz.prog 167 = false := by kernel_rfl
theorem zf_168 : zfP Tryz.prog 168 = false := by kernel_rfl
theorem zf_171 : zfP Tryz.prog 171 = false := by kernel_rfl
theorem zf_172 : zfP Tryz.prog 172 = false := by kernel_rfl
theorem zf_180 : zfP Tryz.prog 180 = false := by kernel_rfl
theorem zf_184 : zfP Tryz.prog 184 = true := by kernel_rfl
theorem zf_189 : zfP Tryz.prog 189 = false := by kernel_rfl
theorem zf_190 : zfP Tryz.prog 190 = false := by kernel_rfl
theorem zf_207 : zfP Tryz.prog 207 = true := by kernel_rfl
theorem zf_216 : zfP Tryz.prog 216 = true := by kernel_rfl
theorem zf_220 : zfP Tryz.prog 220 = false := by kernel_rfl
theorem zf_246 : zfP Tryz.prog 246 = false := by kernel_rfl
theorem zf_254 : zfP Tryz.prog 254 = false := by kernel_rfl
theorem zf_284 : zfP Tryz.prog 284 = false := by kernel_rfl
theorem zf_300 : zfP Tryz.prog 300 = false := by kernel_rfl
theorem zf_333 : zfP Tryz.prog 333 = false := by kernel_rfl
theorem zf_342 : zfP Tryz.prog 342 = false := by kernel_rfl
theorem zf_357 : zfP Tryz.prog 357 = false := by kernel_rfl
theorem zf_363 : zfP Tryz.prog 363 = false := by kernel_rfl
theorem zf_458 : zfP Tryz.prog 458 = false := by kernel_rfl
theorem zf_479 : zfP Tryz.prog 479 = false := by kernel_rfl
theorem eq_7 : eqTyP Tryz.prog 7 = some [.i .i64, .i .i64, .b, .i .u8] := by kernel_rfl
theorem ag_7 : aggP Tryz.prog 7 = true := by kernel_rfl
theorem eq_8 : eqTyP Tryz.prog 8 = some [.i .i64, .i .i64, .b, .i .u8] := by kernel_rfl
theorem ag_8 : aggP Tryz.prog 8 = true := by kernel_rfl
theorem eq_30 : eqTyP Tryz.prog 30 = some [.i .i64, .i .i64, .i .i64, .s] := by kernel_rfl
theorem ag_30 : aggP Tryz.prog 30 = true := by kernel_rfl
theorem eq_31 : eqTyP Tryz.prog 31 = some [.i .i64, .i .i64, .s, .i .i64, .i .i64, .i .i64, .s, .i .i64, .i .i64, .i .i64, .s, .i .i64, .s] := by kernel_rfl
theorem ag_31 : aggP Tryz.prog 31 = true := by kernel_rfl
theorem eq_32 : eqTyP Tryz.prog 32 = some [.i .i64, .i .i64, .s, .i .i64, .i .i64, .i .i64, .s, .i .i64, .i .i64, .i .i64, .s, .i .i64, .s] := by kernel_rfl
theorem ag_32 : aggP Tryz.prog 32 = true := by kernel_rfl
theorem eq_41 : eqTyP Tryz.prog 41 = some [.s, .i .i64, .i .i64, .i .i64, .s, .i .i64] := by kernel_rfl
theorem ag_41 : aggP Tryz.prog 41 = true := by kernel_rfl
theorem eq_42 : eqTyP Tryz.prog 42 = some [.s, .i .i64, .i .i64, .i .i64, .s, .i .i64] := by kernel_rfl
theorem ag_42 : aggP Tryz.prog 42 = true := by kernel_rfl
theorem eq_65 : eqTyP Tryz.prog 65 = some [.i .i64, .i .i64] := by kernel_rfl
theorem ag_65 : aggP Tryz.prog 65 = true := by kernel_rfl
theorem eq_66 : eqTyP Tryz.prog 66 = some [.i .i64, .i .i64] := by kernel_rfl
theorem ag_66 : aggP Tryz.prog 66 = true := by kernel_rfl
theorem eq_76 : eqTyP Tryz.prog 76 = some [.i .i64, .i .i64, .i .i64, .s, .i .i64] := by kernel_rfl
theorem ag_76 : aggP Tryz.prog 76 = true := by kernel_rfl
theorem eq_77 : eqTyP Tryz.prog 77 = some [.i .i64, .i .i64, .i .i64, .s, .i .i64] := by kernel_rfl
theorem ag_77 : aggP Tryz.prog 77 = true := by kernel_rfl
attribute [go_sem] ti_0 kd_0 ti_1 kd_1 ti_2 kd_2 ti_3 kd_3 ti_4 kd_4 ti_5 kd_5 ti_6 kd_6 ti_7 kd_7 ti_8 kd_8 ti_9 kd_9 ti_10 kd_10 ti_11 kd_11 ti_12 kd_12 ti_13 kd_13 ti_14 kd_14 ti_15 kd_15 ti_16 kd_16 ti_17 kd_17 ti_18 kd_18 ti_19 kd_19
attribute [go_sem] ti_20 kd_20 ti_21 kd_21 ti_22 kd_22 ti_23 kd_23 ti_24 kd_24 ti_25 kd_25 ti_27 kd_27 ti_28 kd_28 ti_30 kd_30 ti_31 kd_31 ti_32 kd_32 ti_33 kd_33 ti_34 kd_34 ti_35 kd_35 ti_36 kd_36 ti_37 kd_37 ti_39 kd_39 ti_40 kd_40 ti_41 kd_41
attribute [go_sem] ti_42 kd_42 ti_43 kd_43 ti_44 kd_44 ti_46 kd_46 ti_47 kd_47 ti_48 kd_48 ti_49 kd_49 ti_50 kd_50 ti_51 kd_51 ti_52 kd_52 ti_53 kd_53 ti_54 kd_54 ti_55 kd_55 ti_56 kd_56 ti_57 kd_57 ti_58 kd_58 ti_59 kd_59 ti_60 kd_60 ti_61 kd_61 ti_62 kd_62
attribute [go_sem] ti_63 kd_63 ti_64 kd_64 ti_65 kd_65 ti_66 kd_66 ti_67 kd_67 ti_68 kd_68 ti_69 kd_69 ti_70 kd_70 ti_71 kd_71 ti_72 kd_72 ti_73 kd_73 ti_74 kd_74 ti_75 kd_75 ti_76 kd_76 ti_77 kd_77 ti_79 kd_79 ti_80 kd_80 ti_81 kd_81 ti_82 kd_82 ti_83 kd_83
attribute [go_sem] ti_84 kd_84 ti_86 kd_86 ti_88 kd_88 ti_89 kd_89 ti_90 kd_90 ti_92 kd_92 ti_93 kd_93 ti_94 kd_94 ti_95 kd_95 ti_96 kd_96 ti_97 kd_97 ti_98 kd_98 ti_99 kd_99 ti_100 kd_100 ti_101 kd_101 ti_103 kd_103 ti_104 kd_104 ti_105 kd_105
attribute [go_sem] ti_106 kd_106 ti_108 kd_108 ti_109 kd_109 ti_110 kd_110 ti_111 kd_111 ti_112 kd_112 ti_113 kd_113 ti_114 kd_114 ti_115 kd_115 ti_116 kd_116 ti_117 kd_117 ti_118 kd_118 ti_119 kd_119 ti_120 kd_120 ti_121 kd_121 ti_122 kd_122 ti_123 kd_123 ti_125 kd_125 ti_126 kd_126 ti_127 kd_127
attribute [go_sem] ti_128 kd_128 ti_129 kd_129 ti_130 kd_130 ti_131 kd_131 ti_135 kd_135 ti_136 kd_136 ti_143 kd_143 ti_145 kd_145 ti_147 kd_147
attribute [go_sem] ti_149 kd_149 ti_152 kd_152 ti_154 kd_154 ti_155 kd_155 ti_159 kd_159 ti_163 kd_163 ti_164 kd_164 ti_166 kd_166 ti_167 kd_167 ti_168 kd_168 ti_171 kd_171
attribute [go_sem] ti_172 kd_172 ti_180 kd_180 ti_184 kd_184 ti_189 kd_189 ti_190 kd_190
attribute [go_sem] ti_207 kd_207
attribute [go_sem] ti_216 kd_216 zf_0 zf_1 zf_2 zf_3 zf_4 zf_5 zf_6 zf_7 zf_8 zf_9 zf_10 zf_11 zf_12 zf_13 zf_14 zf_15 zf_16 zf_17 zf_18 zf_19 zf_20 zf_21 zf_22 zf_23 zf_24 zf_25 zf_26 zf_27 zf_28 zf_30 zf_31 zf_32 zf_33 zf_34 zf_35 zf_36 zf_37
attribute [go_sem] zf_38 zf_39 zf_40 zf_41 zf_42 zf_43 zf_44 zf_45 zf_46 zf_47 zf_48 zf_49 zf_50 zf_51 zf_52 zf_53 zf_54 zf_55 zf_56 zf_57 zf_58 zf_59 zf_60 zf_61 zf_62 zf_63 zf_64 zf_65 zf_66 zf_67 zf_68 zf_69 zf_70 zf_71 zf_72 zf_73 zf_74 zf_75 zf_76 zf_77
attribute [go_sem] zf_78 zf_79 zf_80 zf_81 zf_82 zf_83 zf_84 zf_85 zf_86 zf_88 zf_89 zf_90 zf_92 zf_93 zf_94 zf_95 zf_96 zf_97 zf_98 zf_99 zf_100 zf_101 zf_102 zf_103 zf_104 zf_105 zf_106 zf_107 zf_108 zf_109 zf_110 zf_111 zf_112 zf_113 zf_114 zf_115 zf_116 zf_117
attribute [go_sem] zf_118 zf_119 zf_120 zf_121 zf_122 zf_123 zf_124 zf_125 zf_126 zf_127 zf_128 zf_129 zf_130 zf_131 zf_135 zf_136 zf_143 zf_145 zf_147 zf_149 zf_150 zf_152 zf_154 zf_155 zf_156
attribute [go_sem] zf_159 zf_162 zf_163 zf_164 zf_166 zf_167 zf_168 zf_171 zf_172 zf_180 zf_184 zf_189 zf_190
attribute [go_sem] zf_207 zf_216 zf_220
attribute [go_sem] zf_246 zf_254
attribute [go_sem] zf_284 zf_300
attribute [go_sem] zf_333 zf_342 zf_357
attribute [go_sem] zf_363
attribute [go_sem] zf_458
attribute [go_sem] zf_479 eq_7 ag_7 eq_8 ag_8 eq_30 ag_30 eq_31 ag_31 eq_32 ag_32 eq_41 ag_41 eq_42 ag_42 eq_65 ag_65
attribute [go_sem] eq_66 ag_66 eq_76 ag_76 eq_77 ag_77
end Go.Proofs.YthmjpfooffbhhaaGreatDoor
