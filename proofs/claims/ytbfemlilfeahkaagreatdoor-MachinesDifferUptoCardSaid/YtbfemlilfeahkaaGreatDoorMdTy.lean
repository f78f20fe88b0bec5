/- What the program's types are, as the machine reads them. -/
import Derived.Test.YtbfemlilfeahkaaGreatDoorVc3
import Derived.Test.YtbfemlilfeahkaaGreatDoorProg
import Derived.KernelRfl
namespace Go.Proofs.YtbfemlilfeahkaaGreatDoor
open Go.Vc
theorem ti_0 : tiP Tryz.prog 0 = some ⟨false, 1, [.tuple #[]], .other⟩ := by kernel_rfl
theorem kd_0 : kindP Tryz.prog 0 = .other := by kernel_rfl
theorem ti_1 : tiP Tryz.prog 1 = some ⟨false, 1, [.nilFunc], .other⟩ := by kernel_rfl
theorem kd_1 : kindP Tryz.prog 1 = .other := by kernel_rfl
theorem ti_2 : tiP Tryz.prog 2 = some ⟨false, 1, [.int .i64 0], .int .i64⟩ := by kernel_rfl
theorem kd_2 : kindP Tryz.prog 2 = .int .i64 := by kernel_rfl
theorem ti_3 : tiP Tryz.prog 3 = some ⟨false, 1, [.int .i64 0], .int .i64⟩ := by kernel_rfl
theorem kd_3 : kindP Tryz.prog 3 = .int .i64 := by kernel_rfl
theorem ti_4 : tiP Tryz.prog 4 = some ⟨false, 1, [.bool false], .bool⟩ := by kernel_rfl
theorem kd_4 : kindP Tryz.prog 4 = .bool := by kernel_rfl
theorem ti_5 : tiP Tryz.prog 5 = some ⟨false, 1, [.int .u8 0], .int .u8⟩ := by kernel_rfl
theorem kd_5 : kindP Tryz.prog 5 = .int .u8 := by kernel_rfl
theorem ti_6 : tiP Tryz.prog 6 = some ⟨false, 1, [.int .u8 0], .int .u8⟩ := by kernel_rfl
theorem kd_6 : kindP Tryz.prog 6 = .int .u8 := by kernel_rfl
theorem ti_7 : tiP Tryz.prog 7 = some ⟨true, 4, [.int .i64 0, .int .i64 0, .bool false, .int .u8 0], .struct [(0, 1, false), (1, 1, false), (2, 1, false), (3, 1, false)]⟩ := by kernel_rfl
theorem kd_7 : kindP Tryz.prog 7 = .struct [(0, 1, false), (1, 1, false), (2, 1, false), (3, 1, false)] := by kernel_rfl
theorem ti_8 : tiP Tryz.prog 8 = some ⟨true, 4, [.int .i64 0, .int .i64 0, .bool false, .int .u8 0], .struct [(0, 1, false), (1, 1, false), (2, 1, false), (3, 1, false)]⟩ := by kernel_rfl
theorem kd_8 : kindP Tryz.prog 8 = .struct [(0, 1, false), (1, 1, false), (2, 1, false), (3, 1, false)] := by kernel_rfl
theorem ti_9 : tiP Tryz.prog 9 = some ⟨false, 1, [.string ⟨#[]⟩], .str⟩ := by kernel_rfl
theorem kd_9 : kindP Tryz.prog 9 = .str := by kernel_rfl
theorem ti_10 : tiP Tryz.prog 10 = some ⟨false, 1, [.string ⟨#[]⟩], .str⟩ := by kernel_rfl
theorem kd_10 : kindP Tryz.prog 10 = .str := by kernel_rfl
theorem ti_11 : tiP Tryz.prog 11 = some ⟨false, 1, [.string ⟨#[]⟩], .str⟩ := by kernel_rfl
theorem kd_11 : kindP Tryz.prog 11 = .str := by kernel_rfl
theorem ti_12 : tiP Tryz.prog 12 = some ⟨false, 1, [.int .u64 0], .int .u64⟩ := by kernel_rfl
theorem kd_12 : kindP Tryz.prog 12 = .int .u64 := by kernel_rfl
theorem ti_13 : tiP Tryz.prog 13 = some ⟨true, 2, [.string ⟨#[]⟩, .int .u64 0], .struct [(0, 1, false), (1, 1, false)]⟩ := by kernel_rfl
theorem kd_13 : kindP Tryz.prog 13 = .struct [(0, 1, false), (1, 1, false)] := by kernel_rfl
theorem ti_14 : tiP Tryz.prog 14 = some ⟨true, 2, [.string ⟨#[]⟩, .int .u64 0], .struct [(0, 1, false), (1, 1, false)]⟩ := by kernel_rfl
theorem kd_14 : kindP Tryz.prog 14 = .struct [(0, 1, false), (1, 1, false)] := by kernel_rfl
theorem ti_15 : tiP Tryz.prog 15 = some ⟨false, 1, [.pointer none], .ptr 273⟩ := by kernel_rfl
theorem kd_15 : kindP Tryz.prog 15 = .ptr 273 := by kernel_rfl
theorem ti_16 : tiP Tryz.prog 16 = some ⟨false, 1, [.pointer none], .ptr 276⟩ := by kernel_rfl
theorem kd_16 : kindP Tryz.prog 16 = .ptr 276 := by kernel_rfl
theorem ti_17 : tiP Tryz.prog 17 = some ⟨false, 1, [.pointer none], .ptr 283⟩ := by kernel_rfl
theorem kd_17 : kindP Tryz.prog 17 = .ptr 283 := by kernel_rfl
theorem ti_18 : tiP Tryz.prog 18 = some ⟨true, 1, [.pointer none], .struct [(0, 1, false)]⟩ := by kernel_rfl
theorem kd_18 : kindP Tryz.prog 18 = .struct [(0, 1, false)] := by kernel_rfl
theorem ti_19 : tiP Tryz.prog 19 = some ⟨true, 1, [.pointer none], .struct [(0, 1, false)]⟩ := by kernel_rfl
theorem kd_19 : kindP Tryz.prog 19 = .struct [(0, 1, false)] := by kernel_rfl
theorem ti_20 : tiP Tryz.prog 20 = some ⟨false, 1, [.nilIface], .other⟩ := by kernel_rfl
theorem kd_20 : kindP Tryz.prog 20 = .other := by kernel_rfl
theorem ti_21 : tiP Tryz.prog 21 = some ⟨false, 1, [.int .i32 0], .int .i32⟩ := by kernel_rfl
theorem kd_21 : kindP Tryz.prog 21 = .int .i32 := by kernel_rfl
theorem ti_22 : tiP Tryz.prog 22 = some ⟨false, 1, [.slice none 0 0], .slice 33 2 32 [.string ⟨#[]⟩, .string ⟨#[]⟩]⟩ := by kernel_rfl
theorem kd_22 : kindP Tryz.prog 22 = .slice 33 2 32 [.string ⟨#[]⟩, .string ⟨#[]⟩] := by kernel_rfl
theorem ti_23 : tiP Tryz.prog 23 = some ⟨false, 1, [.slice none 0 0], .slice 37 3 40 [.string ⟨#[]⟩, .string ⟨#[]⟩, .bool false]⟩ := by kernel_rfl
theorem kd_23 : kindP Tryz.prog 23 = .slice 37 3 40 [.string ⟨#[]⟩, .string ⟨#[]⟩, .bool false] := by kernel_rfl
theorem ti_24 : tiP Tryz.prog 24 = some ⟨false, 1, [.slice none 0 0], .slice 41 4 40 [.string ⟨#[]⟩, .string ⟨#[]⟩, .bool false, .bool false]⟩ := by kernel_rfl
theorem kd_24 : kindP Tryz.prog 24 = .slice 41 4 40 [.string ⟨#[]⟩, .string ⟨#[]⟩, .bool false, .bool false] := by kernel_rfl
theorem ti_25 : tiP Tryz.prog 25 = some ⟨true, 4, [.slice none 0 0, .slice none 0 0, .slice none 0 0, .slice none 0 0], .struct [(0, 1, false), (1, 1, false), (2, 1, false), (3, 1, false)]⟩ := by kernel_rfl
theorem kd_25 : kindP Tryz.prog 25 = .struct [(0, 1, false), (1, 1, false), (2, 1, false), (3, 1, false)] := by kernel_rfl
theorem ti_26 : tiP Tryz.prog 26 = some ⟨true, 4, [.slice none 0 0, .slice none 0 0, .slice none 0 0, .slice none 0 0], .struct [(0, 1, false), (1, 1, false), (2, 1, false), (3, 1, false)]⟩ := by kernel_rfl
theorem kd_26 : kindP Tryz.prog 26 = .struct [(0, 1, false), (1, 1, false), (2, 1, false), (3, 1, false)] := by kernel_rfl
theorem ti_27 : tiP Tryz.prog 27 = some ⟨false, 1, [.nilFunc], .other⟩ := by kernel_rfl
theorem kd_27 : kindP Tryz.prog 27 = .other := by kernel_rfl
theorem ti_28 : tiP Tryz.prog 28 = some ⟨false, 1, [.nilFunc], .other⟩ := by kernel_rfl
theorem kd_28 : kindP Tryz.prog 28 = .other := by kernel_rfl
theorem ti_29 : tiP Tryz.prog 29 = some ⟨false, 1, [.int .i64 0], .int .i64⟩ := by kernel_rfl
theorem kd_29 : kindP Tryz.prog 29 = .int .i64 := by kernel_rfl
theorem ti_30 : tiP Tryz.prog 30 = some ⟨false, 1, [.nilFunc], .other⟩ := by kernel_rfl
theorem kd_30 : kindP Tryz.prog 30 = .other := by kernel_rfl
theorem ti_31 : tiP Tryz.prog 31 = some ⟨false, 1, [.nilFunc], .other⟩ := by kernel_rfl
theorem kd_31 : kindP Tryz.prog 31 = .other := by kernel_rfl
theorem ti_32 : tiP Tryz.prog 32 = some ⟨true, 2, [.string ⟨#[]⟩, .string ⟨#[]⟩], .struct [(0, 1, false), (1, 1, false)]⟩ := by kernel_rfl
theorem kd_32 : kindP Tryz.prog 32 = .struct [(0, 1, false), (1, 1, false)] := by kernel_rfl
theorem ti_33 : tiP Tryz.prog 33 = some ⟨true, 2, [.string ⟨#[]⟩, .string ⟨#[]⟩], .struct [(0, 1, false), (1, 1, false)]⟩ := by kernel_rfl
theorem kd_33 : kindP Tryz.prog 33 = .struct [(0, 1, false), (1, 1, false)] := by kernel_rfl
theorem ti_34 : tiP Tryz.prog 34 = some ⟨false, 1, [.nilFunc], .other⟩ := by kernel_rfl
theorem kd_34 : kindP Tryz.prog 34 = .other := by kernel_rfl
theorem ti_35 : tiP Tryz.prog 35 = some ⟨false, 1, [.nilFunc], .other⟩ := by kernel_rfl
theorem kd_35 : kindP Tryz.prog 35 = .other := by kernel_rfl
theorem ti_36 : tiP Tryz.prog 36 = some ⟨true, 3, [.string ⟨#[]⟩, .string ⟨#[]⟩, .bool false], .struct [(0, 1, false), (1, 1, false), (2, 1, false)]⟩ := by kernel_rfl
theorem kd_36 : kindP Tryz.prog 36 = .struct [(0, 1, false), (1, 1, false), (2, 1, false)] := by kernel_rfl
theorem ti_37 : tiP Tryz.prog 37 = some ⟨true, 3, [.string ⟨#[]⟩, .string ⟨#[]⟩, .bool false], .struct [(0, 1, false), (1, 1, false), (2, 1, false)]⟩ := by kernel_rfl
theorem kd_37 : kindP Tryz.prog 37 = .struct [(0, 1, false), (1, 1, false), (2, 1, false)] := by kernel_rfl
theorem ti_38 : tiP Tryz.prog 38 = some ⟨false, 1, [.nilFunc], .other⟩ := by kernel_rfl
theorem kd_38 : kindP Tryz.prog 38 = .other := by kernel_rfl
theorem ti_39 : tiP Tryz.prog 39 = some ⟨false, 1, [.nilFunc], .other⟩ := by kernel_rfl
theorem kd_39 : kindP Tryz.prog 39 = .other := by kernel_rfl
theorem ti_40 : tiP Tryz.prog 40 = some ⟨true, 4, [.string ⟨#[]⟩, .string ⟨#[]⟩, .bool false, .bool false], .struct [(0, 1, false), (1, 1, false), (2, 1, false), (3, 1, false)]⟩ := by kernel_rfl
theorem kd_40 : kindP Tryz.prog 40 = .struct [(0, 1, false), (1, 1, false), (2, 1, false), (3, 1, false)] := by kernel_rfl
theorem ti_41 : tiP Tryz.prog 41 = some ⟨true, 4, [.string ⟨#[]⟩, .string ⟨#[]⟩, .bool false, .bool false], .struct [(0, 1, false), (1, 1, false), (2, 1, false), (3, 1, false)]⟩ := by kernel_rfl
theorem kd_41 : kindP Tryz.prog 41 = .struct [(0, 1, false), (1, 1, false), (2, 1, false), (3, 1, false)] := by kernel_rfl
theorem ti_45 : tiP Tryz.prog 45 = some ⟨false, 1, [.nilFunc], .other⟩ := by kernel_rfl
theorem kd_45 : kindP Tryz.prog 45 = .other := by kernel_rfl
theorem ti_47 : tiP Tryz.prog 47 = some ⟨false, 1, [.nilFunc], .other⟩ := by kernel_rfl
theorem kd_47 : kindP Tryz.prog 47 = .other := by kernel_rfl
theorem ti_50 : tiP Tryz.prog 50 = some ⟨false, 1, [.slice none 0 0], .slice 9 1 16 [.string ⟨#[]⟩]⟩ := by kernel_rfl
theorem kd_50 : kindP Tryz.prog 50 = .slice 9 1 16 [.string ⟨#[]⟩] := by kernel_rfl
theorem ti_52 : tiP Tryz.prog 52 = some ⟨false, 1, [.nilFunc], .other⟩ := by kernel_rfl
theorem kd_52 : kindP Tryz.prog 52 = .other := by kernel_rfl
theorem ti_53 : tiP Tryz.prog 53 = some ⟨false, 1, [.nilFunc], .other⟩ := by kernel_rfl
theorem kd_53 : kindP Tryz.prog 53 = .other := by kernel_rfl
theorem ti_54 : tiP Tryz.prog 54 = some ⟨false, 1, [.nilFunc], .other⟩ := by kernel_rfl
theorem kd_54 : kindP Tryz.prog 54 = .other := by kernel_rfl
theorem ti_56 : tiP Tryz.prog 56 = some ⟨false, 1, [.nilFunc], .other⟩ := by kernel_rfl
theorem kd_56 : kindP Tryz.prog 56 = .other := by kernel_rfl
theorem ti_57 : tiP Tryz.prog 57 = some ⟨false, 1, [.nilFunc], .other⟩ := by kernel_rfl
theorem kd_57 : kindP Tryz.prog 57 = .other := by kernel_rfl
theorem ti_58 : tiP Tryz.prog 58 = some ⟨false, 1, [.nilFunc], .other⟩ := by kernel_rfl
theorem kd_58 : kindP Tryz.prog 58 = .other := by kernel_rfl
theorem ti_60 : tiP Tryz.prog 60 = some ⟨false, 1, [.nilFunc], .other⟩ := by kernel_rfl
theorem kd_60 : kindP Tryz.prog 60 = .other := by kernel_rfl
theorem ti_61 : tiP Tryz.prog 61 = some ⟨false, 1, [.nilFunc], .other⟩ := by kernel_rfl
theorem kd_61 : kindP Tryz.prog 61 = .other := by kernel_rfl
theorem ti_63 : tiP Tryz.prog 63 = some ⟨false, 1, [.nilFunc], .other⟩ := by kernel_rfl
theorem kd_63 : kindP Tryz.prog 63 = .other := by kernel_rfl
theorem ti_64 : tiP Tryz.prog 64 = some ⟨false, 1, [.slice none 0 0], .slice 74 13 144 [.int .i64 0, .int .i64 0, .string ⟨#[]⟩, .string ⟨#[]⟩, .bool false, .string ⟨#[]⟩, .string ⟨#[]⟩, .string ⟨#[]⟩, .string ⟨#[]⟩, .bool false, .bool false, .int .i64 0, .bool false]⟩ := by kernel_rfl
theorem kd_64 : kindP Tryz.prog 64 = .slice 74 13 144 [.int .i64 0, .int .i64 0, .string ⟨#[]⟩, .string ⟨#[]⟩, .bool false, .string ⟨#[]⟩, .string ⟨#[]⟩, .string ⟨#[]⟩, .string ⟨#[]⟩, .bool false, .bool false, .int .i64 0, .bool false] := by kernel_rfl
theorem ti_65 : tiP Tryz.prog 65 = some ⟨false, 1, [.nilFunc], .other⟩ := by kernel_rfl
theorem kd_65 : kindP Tryz.prog 65 = .other := by kernel_rfl
theorem ti_66 : tiP Tryz.prog 66 = some ⟨false, 1, [.pointer none], .ptr 140⟩ := by kernel_rfl
theorem kd_66 : kindP Tryz.prog 66 = .ptr 140 := by kernel_rfl
theorem ti_68 : tiP Tryz.prog 68 = some ⟨false, 1, [.nilFunc], .other⟩ := by kernel_rfl
theorem kd_68 : kindP Tryz.prog 68 = .other := by kernel_rfl
theorem ti_69 : tiP Tryz.prog 69 = some ⟨false, 1, [.pointer none], .ptr 144⟩ := by kernel_rfl
theorem kd_69 : kindP Tryz.prog 69 = .ptr 144 := by kernel_rfl
theorem ti_70 : tiP Tryz.prog 70 = some ⟨false, 1, [.nilFunc], .other⟩ := by kernel_rfl
theorem kd_70 : kindP Tryz.prog 70 = .other := by kernel_rfl
theorem ti_71 : tiP Tryz.prog 71 = some ⟨true, 10, [.int .i64 0, .string ⟨#[]⟩, .string ⟨#[]⟩, .bool false, .string ⟨#[]⟩, .string ⟨#[]⟩, .string ⟨#[]⟩, .string ⟨#[]⟩, .bool false, .bool false], .struct [(0, 1, false), (1, 3, true), (4, 2, true), (6, 4, true)]⟩ := by kernel_rfl
theorem kd_71 : kindP Tryz.prog 71 = .struct [(0, 1, false), (1, 3, true), (4, 2, true), (6, 4, true)] := by kernel_rfl
theorem ti_72 : tiP Tryz.prog 72 = some ⟨true, 10, [.int .i64 0, .string ⟨#[]⟩, .string ⟨#[]⟩, .bool false, .string ⟨#[]⟩, .string ⟨#[]⟩, .string ⟨#[]⟩, .string ⟨#[]⟩, .bool false, .bool false], .struct [(0, 1, false), (1, 3, true), (4, 2, true), (6, 4, true)]⟩ := by kernel_rfl
theorem kd_72 : kindP Tryz.prog 72 = .struct [(0, 1, false), (1, 3, true), (4, 2, true), (6, 4, true)] := by kernel_rfl
theorem ti_73 : tiP Tryz.prog 73 = some ⟨true, 13, [.int .i64 0, .int .i64 0, .string ⟨#[]⟩, .string ⟨#[]⟩, .bool false, .string ⟨#[]⟩, .string ⟨#[]⟩, .string ⟨#[]⟩, .string ⟨#[]⟩, .bool false, .bool false, .int .i64 0, .bool false], .struct [(0, 1, false), (1, 10, true), (11, 1, false), (12, 1, false)]⟩ := by kernel_rfl
theorem kd_73 : kindP Tryz.prog 73 = .struct [(0, 1, false), (1, 10, true), (11, 1, false), (12, 1, false)] := by kernel_rfl
theorem ti_74 : tiP Tryz.prog 74 = some ⟨true, 13, [.int .i64 0, .int .i64 0, .string ⟨#[]⟩, .string ⟨#[]⟩, .bool false, .string ⟨#[]⟩, .string ⟨#[]⟩, .string ⟨#[]⟩, .string ⟨#[]⟩, .bool false, .bool false, .int .i64 0, .bool false], .struct [(0, 1, false), (1, 10, true), (11, 1, false), (12, 1, false)]⟩ := by kernel_rfl
theorem kd_74 : kindP Tryz.prog 74 = .struct [(0, 1, false), (1, 10, true), (11, 1, false), (12, 1, false)] := by kernel_rfl
theorem ti_75 : tiP Tryz.prog 75 = some ⟨false, 1, [.nilFunc], .other⟩ := by kernel_rfl
theorem kd_75 : kindP Tryz.prog 75 = .other := by kernel_rfl
theorem ti_77 : tiP Tryz.prog 77 = some ⟨false, 1, [.nilFunc], .other⟩ := by kernel_rfl
theorem kd_77 : kindP Tryz.prog 77 = .other := by kernel_rfl
theorem ti_79 : tiP Tryz.prog 79 = some ⟨false, 1, [.nilFunc], .other⟩ := by kernel_rfl
theorem kd_79 : kindP Tryz.prog 79 = .other := by kernel_rfl
theorem ti_80 : tiP Tryz.prog 80 = some ⟨false, 1, [.nilFunc], .other⟩ := by kernel_rfl
theorem kd_80 : kindP Tryz.prog 80 = .other := by kernel_rfl
theorem ti_81 : tiP Tryz.prog 81 = some ⟨false, 1, [.nilFunc], .other⟩ := by kernel_rfl
theorem kd_81 : kindP Tryz.prog 81 = .other := by kernel_rfl
theorem ti_82 : tiP Tryz.prog 82 = some ⟨false, 1, [.nilFunc], .other⟩ := by kernel_rfl
theorem kd_82 : kindP Tryz.prog 82 = .other := by kernel_rfl
theorem ti_83 : tiP Tryz.prog 83 = some ⟨false, 1, [.slice none 0 0], .slice 72 10 120 [.int .i64 0, .string ⟨#[]⟩, .string ⟨#[]⟩, .bool false, .string ⟨#[]⟩, .string ⟨#[]⟩, .string ⟨#[]⟩, .string ⟨#[]⟩, .bool false, .bool false]⟩ := by kernel_rfl
theorem kd_83 : kindP Tryz.prog 83 = .slice 72 10 120 [.int .i64 0, .string ⟨#[]⟩, .string ⟨#[]⟩, .bool false, .string ⟨#[]⟩, .string ⟨#[]⟩, .string ⟨#[]⟩, .string ⟨#[]⟩, .bool false, .bool false] := by kernel_rfl
theorem ti_84 : tiP Tryz.prog 84 = some ⟨false, 1, [.nilFunc], .other⟩ := by kernel_rfl
theorem kd_84 : kindP Tryz.prog 84 = .other := by kernel_rfl
theorem ti_87 : tiP Tryz.prog 87 = some ⟨false, 1, [.nilFunc], .other⟩ := by kernel_rfl
theorem kd_87 : kindP Tryz.prog 87 = .other := by kernel_rfl
theorem ti_89 : tiP Tryz.prog 89 = some ⟨false, 1, [.nilFunc], .other⟩ := by kernel_rfl
theorem kd_89 : kindP Tryz.prog 89 = .other := by kernel_rfl
theorem ti_90 : tiP Tryz.prog 90 = some ⟨false, 1, [.nilFunc], .other⟩ := by kernel_rfl
theorem kd_90 : kindP Tryz.prog 90 = .other := by kernel_rfl
theorem ti_94 : tiP Tryz.prog 94 = some ⟨false, 1, [.nilFunc], .other⟩ := by kernel_rfl
theorem kd_94 : kindP Tryz.prog 94 = .other := by kernel_rfl
theorem ti_97 : tiP Tryz.prog 97 = some ⟨false, 1, [.nilFunc], .other⟩ := by kernel_rfl
theorem kd_97 : kindP Tryz.prog 97 = .other := by kernel_rfl
theorem ti_98 : tiP Tryz.prog 98 = some ⟨false, 1, [.nilFunc], .other⟩ := by kernel_rfl
theorem kd_98 : kindP Tryz.prog 98 = .other := by kernel_rfl
theorem ti_99 : tiP Tryz.prog 99 = some ⟨false, 1, [.nilFunc], .other⟩ := by kernel_rfl
theorem kd_99 : kindP Tryz.prog 99 = .other := by kernel_rfl
theorem ti_100 : tiP Tryz.prog 100 = some ⟨false, 1, [.nilFunc], .other⟩ := by kernel_rfl
theorem kd_100 : kindP Tryz.prog 100 = .other := by kernel_rfl
theorem ti_101 : tiP Tryz.prog 101 = some ⟨false, 1, [.nilFunc], .other⟩ := by kernel_rfl
theorem kd_101 : kindP Tryz.prog 101 = .other := by kernel_rfl
theorem ti_102 : tiP Tryz.prog 102 = some ⟨false, 1, [.nilFunc], .other⟩ := by kernel_rfl
theorem kd_102 : kindP Tryz.prog 102 = .other := by kernel_rfl
theorem ti_104 : tiP Tryz.prog 104 = some ⟨false, 1, [.nilFunc], .other⟩ := by kernel_rfl
theorem kd_104 : kindP Tryz.prog 104 = .other := by kernel_rfl
theorem ti_105 : tiP Tryz.prog 105 = some ⟨false, 1, [.nilFunc], .other⟩ := by kernel_rfl
theorem kd_105 : kindP Tryz.prog 105 = .other := by kernel_rfl
theorem ti_106 : tiP Tryz.prog 106 = some ⟨false, 1, [.nilFunc], .other⟩ := by kernel_rfl
theorem kd_106 : kindP Tryz.prog 106 = .other := by kernel_rfl
theorem ti_107 : tiP Tryz.prog 107 = some ⟨false, 1, [.nilFunc], .other⟩ := by kernel_rfl
theorem kd_107 : kindP Tryz.prog 107 = .other := by kernel_rfl
theorem ti_108 : tiP Tryz.prog 108 = some ⟨false, 1, [.nilFunc], .other⟩ := by kernel_rfl
theorem kd_108 : kindP Tryz.prog 108 = .other := by kernel_rfl
theorem ti_109 : tiP Tryz.prog 109 = some ⟨false, 1, [.nilFunc], .other⟩ := by kernel_rfl
theorem kd_109 : kindP Tryz.prog 109 = .other := by kernel_rfl
theorem ti_110 : tiP Tryz.prog 110 = some ⟨false, 1, [.nilFunc], .other⟩ := by kernel_rfl
theorem kd_110 : kindP Tryz.prog 110 = .other := by kernel_rfl
theorem ti_111 : tiP Tryz.prog 111 = some ⟨false, 1, [.slice none 0 0], .slice 5 1 1 [.int .u8 0]⟩ := by kernel_rfl
theorem kd_111 : kindP Tryz.prog 111 = .slice 5 1 1 [.int .u8 0] := by kernel_rfl
theorem ti_112 : tiP Tryz.prog 112 = some ⟨false, 1, [.int .u64 0], .int .u64⟩ := by kernel_rfl
theorem kd_112 : kindP Tryz.prog 112 = .int .u64 := by kernel_rfl
theorem ti_114 : tiP Tryz.prog 114 = some ⟨false, 1, [.nilFunc], .other⟩ := by kernel_rfl
theorem kd_114 : kindP Tryz.prog 114 = .other := by kernel_rfl
theorem ti_115 : tiP Tryz.prog 115 = some ⟨false, 1, [.nilFunc], .other⟩ := by kernel_rfl
theorem kd_115 : kindP Tryz.prog 115 = .other := by kernel_rfl
theorem ti_116 : tiP Tryz.prog 116 = some ⟨true, 10, [.string ⟨#[]⟩, .string ⟨#[]⟩, .string ⟨#[]⟩, .bool false, .string ⟨#[]⟩, .string ⟨#[]⟩, .string ⟨#[]⟩, .string ⟨#[]⟩, .bool false, .bool false], .struct [(0, 1, false), (1, 3, true), (4, 2, true), (6, 4, true)]⟩ := by kernel_rfl
theorem kd_116 : kindP Tryz.prog 116 = .struct [(0, 1, false), (1, 3, true), (4, 2, true), (6, 4, true)] := by kernel_rfl
theorem ti_117 : tiP Tryz.prog 117 = some ⟨true, 10, [.string ⟨#[]⟩, .string ⟨#[]⟩, .string ⟨#[]⟩, .bool false, .string ⟨#[]⟩, .string ⟨#[]⟩, .string ⟨#[]⟩, .string ⟨#[]⟩, .bool false, .bool false], .struct [(0, 1, false), (1, 3, true), (4, 2, true), (6, 4, true)]⟩ := by kernel_rfl
theorem kd_117 : kindP Tryz.prog 117 = .struct [(0, 1, false), (1, 3, true), (4, 2, true), (6, 4, true)] := by kernel_rfl
theorem ti_118 : tiP Tryz.prog 118 = some ⟨false, 1, [.nilFunc], .other⟩ := by kernel_rfl
theorem kd_118 : kindP Tryz.prog 118 = .other := by kernel_rfl
theorem ti_119 : tiP Tryz.prog 119 = some ⟨false, 1, [.nilFunc], .other⟩ := by kernel_rfl
theorem kd_119 : kindP Tryz.prog 119 = .other := by kernel_rfl
theorem ti_120 : tiP Tryz.prog 120 = some ⟨false, 1, [.pointer none], .ptr 122⟩ := by kernel_rfl
theorem kd_120 : kindP Tryz.prog 120 = .ptr 122 := by kernel_rfl
theorem ti_121 : tiP Tryz.prog 121 = some ⟨true, 2, [.pointer none, .slice none 0 0], .struct [(0, 1, false), (1, 1, false)]⟩ := by kernel_rfl
theorem kd_121 : kindP Tryz.prog 121 = .struct [(0, 1, false), (1, 1, false)] := by kernel_rfl
theorem ti_122 : tiP Tryz.prog 122 = some ⟨true, 2, [.pointer none, .slice none 0 0], .struct [(0, 1, false), (1, 1, false)]⟩ := by kernel_rfl
theorem kd_122 : kindP Tryz.prog 122 = .struct [(0, 1, false), (1, 1, false)] := by kernel_rfl
theorem ti_126 : tiP Tryz.prog 126 = some ⟨false, 1, [.nilFunc], .other⟩ := by kernel_rfl
theorem kd_126 : kindP Tryz.prog 126 = .other := by kernel_rfl
theorem ti_127 : tiP Tryz.prog 127 = some ⟨false, 1, [.nilFunc], .other⟩ := by kernel_rfl
theorem kd_127 : kindP Tryz.prog 127 = .other := by kernel_rfl
theorem ti_128 : tiP Tryz.prog 128 = some ⟨false, 1, [.nilFunc], .other⟩ := by kernel_rfl
theorem kd_128 : kindP Tryz.prog 128 = .other := by kernel_rfl
theorem ti_129 : tiP Tryz.prog 129 = some ⟨false, 1, [.nilFunc], .other⟩ := by kernel_rfl
theorem kd_129 : kindP Tryz.prog 129 = .other := by kernel_rfl
theorem ti_130 : tiP Tryz.prog 130 = some ⟨false, 1, [.nilFunc], .other⟩ := by kernel_rfl
theorem kd_130 : kindP Tryz.prog 130 = .other := by kernel_rfl
theorem ti_131 : tiP Tryz.prog 131 = some ⟨false, 1, [.nilFunc], .other⟩ := by kernel_rfl
theorem kd_131 : kindP Tryz.prog 131 = .other := by kernel_rfl
theorem ti_133 : tiP Tryz.prog 133 = some ⟨false, 1, [.map none], .map 9 4⟩ := by kernel_rfl
theorem kd_133 : kindP Tryz.prog 133 = .map 9 4 := by kernel_rfl
theorem ti_134 : tiP Tryz.prog 134 = some ⟨false, 1, [.nilFunc], .other⟩ := by kernel_rfl
theorem kd_134 : kindP Tryz.prog 134 = .other := by kernel_rfl
theorem ti_135 : tiP Tryz.prog 135 = some ⟨false, 1, [.nilFunc], .other⟩ := by kernel_rfl
theorem kd_135 : kindP Tryz.prog 135 = .other := by kernel_rfl
theorem ti_136 : tiP Tryz.prog 136 = some ⟨false, 1, [.nilFunc], .other⟩ := by kernel_rfl
theorem kd_136 : kindP Tryz.prog 136 = .other := by kernel_rfl
theorem ti_137 : tiP Tryz.prog 137 = some ⟨false, 1, [.pointer none], .ptr 187⟩ := by kernel_rfl
theorem kd_137 : kindP Tryz.prog 137 = .ptr 187 := by kernel_rfl
theorem ti_138 : tiP Tryz.prog 138 = some ⟨false, 1, [.nilFunc], .other⟩ := by kernel_rfl
theorem kd_138 : kindP Tryz.prog 138 = .other := by kernel_rfl
theorem ti_139 : tiP Tryz.prog 139 = some ⟨true, 6, [.pointer none, .bool false, .bool false, .int .i64 0, .bool false, .int .i64 0], .struct [(0, 1, false), (1, 1, false), (2, 1, false), (3, 1, false), (4, 1, false), (5, 1, false)]⟩ := by kernel_rfl
theorem kd_139 : kindP Tryz.prog 139 = .struct [(0, 1, false), (1, 1, false), (2, 1, false), (3, 1, false), (4, 1, false), (5, 1, false)] := by kernel_rfl
theorem ti_140 : tiP Tryz.prog 140 = some ⟨true, 6, [.pointer none, .bool false, .bool false, .int .i64 0, .bool false, .int .i64 0], .struct [(0, 1, false), (1, 1, false), (2, 1, false), (3, 1, false), (4, 1, false), (5, 1, false)]⟩ := by kernel_rfl
theorem kd_140 : kindP Tryz.prog 140 = .struct [(0, 1, false), (1, 1, false), (2, 1, false), (3, 1, false), (4, 1, false), (5, 1, false)] := by kernel_rfl
theorem ti_141 : tiP Tryz.prog 141 = some ⟨false, 1, [.pointer none], .ptr 149⟩ := by kernel_rfl
theorem kd_141 : kindP Tryz.prog 141 = .ptr 149 := by kernel_rfl
theorem ti_143 : tiP Tryz.prog 143 = some ⟨true, 6, [.pointer none, .bool false, .int .i64 0, .bool false, .bool false, .int .i64 0], .struct [(0, 1, false), (1, 1, false), (2, 1, false), (3, 1, false), (4, 1, false), (5, 1, false)]⟩ := by kernel_rfl
theorem kd_143 : kindP Tryz.prog 143 = .struct [(0, 1, false), (1, 1, false), (2, 1, false), (3, 1, false), (4, 1, false), (5, 1, false)] := by kernel_rfl
theorem ti_145 : tiP Tryz.prog 145 = some ⟨false, 1, [.map none], .map 9 37⟩ := by kernel_rfl
theorem kd_145 : kindP Tryz.prog 145 = .map 9 37 := by kernel_rfl
theorem ti_146 : tiP Tryz.prog 146 = some ⟨false, 1, [.map none], .map 9 9⟩ := by kernel_rfl
theorem kd_146 : kindP Tryz.prog 146 = .map 9 9 := by kernel_rfl
theorem ti_147 : tiP Tryz.prog 147 = some ⟨false, 1, [.map none], .map 9 41⟩ := by kernel_rfl
theorem kd_147 : kindP Tryz.prog 147 = .map 9 41 := by kernel_rfl
theorem ti_148 : tiP Tryz.prog 148 = some ⟨true, 4, [.slice none 0 0, .map none, .map none, .map none], .struct [(0, 1, false), (1, 1, false), (2, 1, false), (3, 1, false)]⟩ := by kernel_rfl
theorem kd_148 : kindP Tryz.prog 148 = .struct [(0, 1, false), (1, 1, false), (2, 1, false), (3, 1, false)] := by kernel_rfl
theorem ti_149 : tiP Tryz.prog 149 = some ⟨true, 4, [.slice none 0 0, .map none, .map none, .map none], .struct [(0, 1, false), (1, 1, false), (2, 1, false), (3, 1, false)]⟩ := by kernel_rfl
theorem kd_149 : kindP Tryz.prog 149 = .struct [(0, 1, false), (1, 1, false), (2, 1, false), (3, 1, false)] := by kernel_rfl
theorem ti_150 : tiP Tryz.prog 150 = some ⟨false, 1, [.nilFunc], .other⟩ := by kernel_rfl
theorem kd_150 : kindP Tryz.prog 150 = .other := by kernel_rfl
theorem ti_151 : tiP Tryz.prog 151 = some ⟨true, 8, [.slice none 0 0, .slice none 0 0, .slice none 0 0, .slice none 0 0, .slice none 0 0, .slice none 0 0, .slice none 0 0, .slice none 0 0], .arr 2 26 4 true⟩ := by kernel_rfl
theorem kd_151 : kindP Tryz.prog 151 = .arr 2 26 4 true := by kernel_rfl
theorem ti_152 : tiP Tryz.prog 152 = some ⟨false, 1, [.nilFunc], .other⟩ := by kernel_rfl
theorem kd_152 : kindP Tryz.prog 152 = .other := by kernel_rfl
theorem ti_154 : tiP Tryz.prog 154 = some ⟨false, 1, [.nilFunc], .other⟩ := by kernel_rfl
theorem kd_154 : kindP Tryz.prog 154 = .other := by kernel_rfl
theorem ti_158 : tiP Tryz.prog 158 = some ⟨false, 1, [.int .u64 0], .int .u64⟩ := by kernel_rfl
theorem kd_158 : kindP Tryz.prog 158 = .int .u64 := by kernel_rfl
theorem ti_159 : tiP Tryz.prog 159 = some ⟨false, 1, [.nilFunc], .other⟩ := by kernel_rfl
theorem kd_159 : kindP Tryz.prog 159 = .other := by kernel_rfl
theorem ti_160 : tiP Tryz.prog 160 = some ⟨false, 1, [.nilFunc], .other⟩ := by kernel_rfl
theorem kd_160 : kindP Tryz.prog 160 = .other := by kernel_rfl
theorem ti_161 : tiP Tryz.prog 161 = some ⟨false, 1, [.nilFunc], .other⟩ := by kernel_rfl
theorem kd_161 : kindP Tryz.prog 161 = .other := by kernel_rfl
theorem ti_162 : tiP Tryz.prog 162 = some ⟨false, 1, [.nilFunc], .other⟩ := by kernel_rfl
theorem kd_162 : kindP Tryz.prog 162 = .other := by kernel_rfl
theorem ti_163 : tiP Tryz.prog 163 = some ⟨false, 1, [.nilFunc], .other⟩ := by kernel_rfl
theorem kd_163 : kindP Tryz.prog 163 = .other := by kernel_rfl
theorem ti_164 : tiP Tryz.prog 164 = some ⟨false, 1, [.nilFunc], .other⟩ := by kernel_rfl
theorem kd_164 : kindP Tryz.prog 164 = .other := by kernel_rfl
theorem ti_169 : tiP Tryz.prog 169 = some ⟨false, 1, [.nilFunc], .other⟩ := by kernel_rfl
theorem kd_169 : kindP Tryz.prog 169 = .other := by kernel_rfl
theorem ti_170 : tiP Tryz.prog 170 = some ⟨false, 1, [.nilFunc], .other⟩ := by kernel_rfl
theorem kd_170 : kindP Tryz.prog 170 = .other := by kernel_rfl
theorem ti_171 : tiP Tryz.prog 171 = some ⟨false, 1, [.nilFunc], .other⟩ := by kernel_rfl
theorem kd_171 : kindP Tryz.prog 171 = .other := by kernel_rfl
theorem ti_177 : tiP Tryz.prog 177 = some ⟨false, 1, [.nilFunc], .other⟩ := by kernel_rfl
theorem kd_177 : kindP Tryz.prog 177 = .other := by kernel_rfl
theorem ti_181 : tiP Tryz.prog 181 = some ⟨false, 1, [.pointer none], .ptr 5⟩ := by kernel_rfl
theorem kd_181 : kindP Tryz.prog 181 = .ptr 5 := by kernel_rfl
theorem ti_182 : tiP Tryz.prog 182 = some ⟨false, 1, [.slice none 0 0], .slice 29 1 8 [.int .i64 0]⟩ := by kernel_rfl
theorem kd_182 : kindP Tryz.prog 182 = .slice 29 1 8 [.int .i64 0] := by kernel_rfl
theorem ti_183 : tiP Tryz.prog 183 = some ⟨false, 1, [.nilFunc], .other⟩ := by kernel_rfl
theorem kd_183 : kindP Tryz.prog 183 = .other := by kernel_rfl
theorem ti_184 : tiP Tryz.prog 184 = some ⟨false, 1, [.map none], .map 9 3⟩ := by kernel_rfl
theorem kd_184 : kindP Tryz.prog 184 = .map 9 3 := by kernel_rfl
theorem ti_185 : tiP Tryz.prog 185 = some ⟨false, 1, [.map none], .map 9 33⟩ := by kernel_rfl
theorem kd_185 : kindP Tryz.prog 185 = .map 9 33 := by kernel_rfl
theorem ti_187 : tiP Tryz.prog 187 = some ⟨true, 5, [.slice none 0 0, .map none, .map none, .map none, .map none], .struct [(0, 1, false), (1, 1, false), (2, 1, false), (3, 1, false), (4, 1, false)]⟩ := by kernel_rfl
theorem kd_187 : kindP Tryz.prog 187 = .struct [(0, 1, false), (1, 1, false), (2, 1, false), (3, 1, false), (4, 1, false)] := by kernel_rfl
theorem ti_188 : tiP Tryz.prog 188 = some ⟨false, 1, [.nilFunc], .other⟩ := by kernel_rfl
theorem kd_188 : kindP Tryz.prog 188 = .other := by kernel_rfl
theorem ti_189 : tiP Tryz.prog 189 = some ⟨false, 1, [.nilFunc], .other⟩ := by kernel_rfl
theorem kd_189 : kindP Tryz.prog 189 = .other := by kernel_rfl
theorem ti_190 : tiP Tryz.prog 190 = some ⟨false, 1, [.nilFunc], .other⟩ := by kernel_rfl
theorem kd_190 : kindP Tryz.prog 190 = .other := by kernel_rfl
theorem ti_191 : tiP Tryz.prog 191 = some ⟨false, 1, [.nilFunc], .other⟩ := by kernel_rfl
theorem kd_191 : kindP Tryz.prog 191 = .other := by kernel_rfl
theorem ti_192 : tiP Tryz.prog 192 = some ⟨false, 1, [.nilFunc], .other⟩ := by kernel_rfl
theorem kd_192 : kindP Tryz.prog 192 = .other := by kernel_rfl
theorem ti_196 : tiP Tryz.prog 196 = some ⟨false, 1, [.nilFunc], .other⟩ := by kernel_rfl
theorem kd_196 : kindP Tryz.prog 196 = .other := by kernel_rfl
theorem ti_198 : tiP Tryz.prog 198 = some ⟨false, 1, [.nilFunc], .other⟩ := by kernel_rfl
theorem kd_198 : kindP Tryz.prog 198 = .other := by kernel_rfl
theorem ti_199 : tiP Tryz.prog 199 = some ⟨false, 1, [.nilFunc], .other⟩ := by kernel_rfl
theorem kd_199 : kindP Tryz.prog 199 = .other := by kernel_rfl
theorem ti_201 : tiP Tryz.prog 201 = some ⟨false, 1, [.nilFunc], .other⟩ := by kernel_rfl
theorem kd_201 : kindP Tryz.prog 201 = .other := by kernel_rfl
theorem ti_204 : tiP Tryz.prog 204 = some ⟨false, 1, [.nilFunc], .other⟩ := by kernel_rfl
theorem kd_204 : kindP Tryz.prog 204 = .other := by kernel_rfl
theorem ti_208 : tiP Tryz.prog 208 = some ⟨false, 1, [.nilFunc], .other⟩ := by kernel_rfl
theorem kd_208 : kindP Tryz.prog 208 = .other := by kernel_rfl
theorem ti_210 : tiP Tryz.prog 210 = some ⟨false, 1, [.nilFunc], .other⟩ := by kernel_rfl
theorem kd_210 : kindP Tryz.prog 210 = .other := by kernel_rfl
theorem ti_212 : tiP Tryz.prog 212 = some ⟨false, 1, [.nilFunc], .other⟩ := by kernel_rfl
theorem kd_212 : kindP Tryz.prog 212 = .other := by kernel_rfl
theorem ti_213 : tiP Tryz.prog 213 = some ⟨false, 1, [.nilFunc], .other⟩ := by kernel_rfl
theorem kd_213 : kindP Tryz.prog 213 = .other := by kernel_rfl
theorem ti_214 : tiP Tryz.prog 214 = some ⟨false, 1, [.pointer none], .other⟩ := by kernel_rfl
theorem kd_214 : kindP Tryz.prog 214 = .other := by kernel_rfl
theorem ti_215 : tiP Tryz.prog 215 = some ⟨false, 1, [.nilFunc], .other⟩ := by kernel_rfl
theorem kd_215 : kindP Tryz.prog 215 = .other := by kernel_rfl
theorem ti_216 : tiP Tryz.prog 216 = some ⟨false, 1, [.nilFunc], .other⟩ := by kernel_rfl
theorem kd_216 : kindP Tryz.prog 216 = .other := by kernel_rfl
theorem ti_217 : tiP Tryz.prog 217 = some ⟨false, 1, [.nilFunc], .other⟩ := by kernel_rfl
theorem kd_217 : kindP Tryz.prog 217 = .other := by kernel_rfl
theorem ti_218 : tiP Tryz.prog 218 = some ⟨false, 1, [.nilFunc], .other⟩ := by kernel_rfl
theorem kd_218 : kindP Tryz.prog 218 = .other := by kernel_rfl
theorem ti_219 : tiP Tryz.prog 219 = some ⟨false, 1, [.nilFunc], .other⟩ := by kernel_rfl
theorem kd_219 : kindP Tryz.prog 219 = .other := by kernel_rfl
theorem ti_220 : tiP Tryz.prog 220 = some ⟨false, 1, [.nilFunc], .other⟩ := by kernel_rfl
theorem kd_220 : kindP Tryz.prog 220 = .other := by kernel_rfl
theorem ti_222 : tiP Tryz.prog 222 = some ⟨false, 1, [.nilFunc], .other⟩ := by kernel_rfl
theorem kd_222 : kindP Tryz.prog 222 = .other := by kernel_rfl
theorem ti_223 : tiP Tryz.prog 223 = some ⟨false, 1, [.nilFunc], .other⟩ := by kernel_rfl
theorem kd_223 : kindP Tryz.prog 223 = .other := by kernel_rfl
theorem ti_227 : tiP Tryz.prog 227 = some ⟨false, 1, [.nilFunc], .other⟩ := by kernel_rfl
theorem kd_227 : kindP Tryz.prog 227 = .other := by kernel_rfl
theorem ti_249 : tiP Tryz.prog 249 = some ⟨false, 1, [.nilFunc], .other⟩ := by kernel_rfl
theorem kd_249 : kindP Tryz.prog 249 = .other := by kernel_rfl
theorem zf_0 : zfP Tryz.prog 0 = false := by kernel_rfl
theorem zf_1 : zfP Tryz.prog 1 = false := by kernel_rfl
theorem zf_2 : zfP Tryz.prog 2 = false := by kernel_rfl
theorem zf_3 : zfP Tryz.prog 3 = false := by kernel_rfl
theorem zf_4 : zfP Tryz.prog 4 = false := by kernel_rfl
theorem zf_5 : zfP Tryz.prog 5 = false := by kernel_rfl
theorem zf_6 : zfP Tryz.prog 6 = false := by kernel_rfl
theorem zf_7 : zfP Tryz.prog 7 = true := by kernel_rfl
theorem zf_8 : zfP Tryz.prog 8 = true := by kernel_rfl
theorem zf_9 : zfP Tryz.prog 9 = false := by kernel_rfl
theorem zf_10 : zfP Tryz.prog 10 = false := by kernel_rfl
theorem zf_11 : zfP Tryz.prog 11 = false := by kernel_rfl
theorem zf_12 : zfP Tryz.prog 12 = false := by kernel_rfl
theorem zf_13 : zfP Tryz.prog 13 = true := by kernel_rfl
theorem zf_14 : zfP Tryz.prog 14 = true := by kernel_rfl
theorem zf_15 : zfP Tryz.prog 15 = false := by kernel_rfl
theorem zf_16 : zfP Tryz.prog 16 = false := by kernel_rfl
theorem zf_17 : zfP Tryz.prog 17 = false := by kernel_rfl
theorem zf_18 : zfP Tryz.prog 18 = true := by kernel_rfl
theorem zf_19 : zfP Tryz.prog 19 = true := by kernel_rfl
theorem zf_20 : zfP Tryz.prog 20 = false := by kernel_rfl
theorem zf_21 : zfP Tryz.prog 21 = false := by kernel_rfl
theorem zf_22 : zfP Tryz.prog 22 = false := by kernel_rfl
theorem zf_23 : zfP Tryz.prog 23 = false := by kernel_rfl
theorem zf_24 : zfP Tryz.prog 24 = false := by kernel_rfl
theorem zf_25 : zfP Tryz.prog 25 = true := by kernel_rfl
theorem zf_26 : zfP Tryz.prog 26 = true := by kernel_rfl
theorem zf_27 : zfP Tryz.prog 27 = false := by kernel_rfl
theorem zf_28 : zfP Tryz.prog 28 = false := by kernel_rfl
theorem zf_29 : zfP Tryz.prog 29 = false := by kernel_rfl
theorem zf_30 : zfP Tryz.prog 30 = false := by kernel_rfl
theorem zf_31 : zfP Tryz.prog 31 = false := by kernel_rfl
theorem zf_32 : zfP Tryz.prog 32 = true := by kernel_rfl
theorem zf_33 : zfP Tryz.prog 33 = true := by kernel_rfl
theorem zf_34 : zfP Tryz.prog 34 = false := by kernel_rfl
theorem zf_35 : zfP Tryz.prog 35 = false := by kernel_rfl
theorem zf_36 : zfP Tryz.prog 36 = true := by kernel_rfl
theorem zf_37 : zfP Tryz.prog 37 = true := by kernel_rfl
theorem zf_38 : zfP Tryz.prog 38 = false := by kernel_rfl
theorem zf_39 : zfP Tryz.prog 39 = false := by kernel_rfl
theorem zf_40 : zfP Tryz.prog 40 = true := by kernel_rfl
theorem zf_41 : zfP Tryz.prog 41 = true := by kernel_rfl
theorem zf_43 : zfP Tryz.prog 43 = false := by kernel_rfl
theorem zf_45 : zfP Tryz.prog 45 = false := by kernel_rfl
theorem zf_46 : zfP Tryz.prog 46 = false := by kernel_rfl
theorem zf_47 : zfP Tryz.prog 47 = false := by kernel_rfl
theorem zf_50 : zfP Tryz.prog 50 = false := by kernel_rfl
theorem zf_51 : zfP Tryz.prog 51 = false := by kernel_rfl
theorem zf_52 : zfP Tryz.prog 52 = false := by kernel_rfl
theorem zf_53 : zfP Tryz.prog 53 = false := by kernel_rfl
theorem zf_54 : zfP Tryz.prog 54 = false := by kernel_rfl
theorem zf_56 : zfP Tryz.prog 56 = false := by kernel_rfl
theorem zf_57 : zfP Tryz.prog 57 = false := by kernel_rfl
theorem zf_58 : zfP Tryz.prog 58 = false := by kernel_rfl
theorem zf_59 : zfP Tryz.prog 59 = false := by kernel_rfl
theorem zf_60 : zfP Tryz.prog 60 = false := by kernel_rfl
theorem zf_61 : zfP Tryz.prog 61 = false := by kernel_rfl
theorem zf_63 : zfP Tryz.prog 63 = false := by kernel_rfl
theorem zf_64 : zfP Tryz.prog 64 = false := by kernel_rfl
theorem zf_65 : zfP Tryz.prog 65 = false := by kernel_rfl
theorem zf_66 : zfP Tryz.prog 66 = false := by kernel_rfl
theorem zf_67 : zfP Tryz.prog 67 = false := by kernel_rfl
theorem zf_68 : zfP Tryz.prog 68 = false := by kernel_rfl
theorem zf_69 : zfP Tryz.prog 69 = false := by kernel_rfl
theorem zf_70 : zfP Tryz.prog 70 = false := by kernel_rfl
theorem zf_71 : zfP Tryz.prog 71 = true := by kernel_rfl
theorem zf_72 : zfP Tryz.prog 72 = true := by kernel_rfl
theorem zf_73 : zfP Tryz.prog 73 = true := by kernel_rfl
theorem zf_74 : zfP Tryz.prog 74 = true := by kernel_rfl
theorem zf_75 : zfP Tryz.prog 75 = false := by kernel_rfl
theorem zf_77 : zfP Tryz.prog 77 = false := by kernel_rfl
theorem zf_78 : zfP Tryz.prog 78 = false := by kernel_rfl
theorem zf_79 : zfP Tryz.prog 79 = false := by kernel_rfl
theorem zf_80 : zfP Tryz.prog 80 = false := by kernel_rfl
theorem zf_81 : zfP Tryz.prog 81 = false := by kernel_rfl
theorem zf_82 : zfP Tryz.prog 82 = false := by kernel_rfl
theorem zf_83 : zfP Tryz.prog 83 = false := by kernel_rfl
theorem zf_84 : zfP Tryz.prog 84 = false := by kernel_rfl
theorem zf_85 : zfP Tryz.prog 85 = false := by kernel_rfl
theorem zf_87 : zfP Tryz.prog 87 = false := by kernel_rfl
theorem zf_89 : zfP Tryz.prog 89 = false := by kernel_rfl
theorem zf_90 : zfP Tryz.prog 90 = false := by kernel_rfl
theorem zf_93 : zfP Tryz.prog 93 = false := by kernel_rfl
theorem zf_94 : zfP Tryz.prog 94 = false := by kernel_rfl
theorem zf_97 : zfP Tryz.prog 97 = false := by kernel_rfl
theorem zf_98 : zfP Tryz.prog 98 = false := by kernel_rfl
theorem zf_99 : zfP Tryz.prog 99 = false := by kernel_rfl
theorem zf_100 : zfP Tryz.prog 100 = false := by kernel_rfl
theorem zf_101 : zfP Tryz.prog 101 = false := by kernel_rfl
theorem zf_102 : zfP Tryz.prog 102 = false := by kernel_rfl
theorem zf_103 : zfP Tryz.prog 103 = false := by kernel_rfl
theorem zf_104 : zfP Tryz.prog 104 = false := by kernel_rfl
theorem zf_105 : zfP Tryz.prog 105 = false := by kernel_rfl
theorem zf_106 : zfP Tryz.prog 106 = false := by kernel_rfl
theorem zf_107 : zfP Tryz.prog 107 = false := by kernel_rfl
theorem zf_108 : zfP Tryz.prog 108 = false := by kernel_rfl
theorem zf_109 : zfP Tryz.prog 109 = false := by kernel_rfl
theorem zf_110 : zfP Tryz.prog 110 = false := by kernel_rfl
theorem zf_111 : zfP Tryz.prog 111 = false := by kernel_rfl
theorem zf_112 : zfP Tryz.prog 112 = false := by kernel_rfl
theorem zf_113 : zfP Tryz.prog 113 = false := by kernel_rfl
theorem zf_114 : zfP Tryz.prog 114 = false := by kernel_rfl
theorem zf_115 : zfP Tryz.prog 115 = false := by kernel_rfl
theorem zf_116 : zfP Tryz.prog 116 = true := by kernel_rfl
theorem zf_117 : zfP Tryz.prog 117 = true := by kernel_rfl
theorem zf_118 : zfP Tryz.prog 118 = false := by kernel_rfl
theorem zf_119 : zfP Tryz.prog 119 = false := by kernel_rfl
theorem zf_120 : zfP Tryz.prog 120 = false := by kernel_rfl
theorem zf_121 : zfP Tryz.prog 121 = true := by kernel_rfl
theorem zf_122 : zfP Tryz.prog 122 = true := by kernel_rfl
theorem zf_125 : zfP Tryz.prog 125 = false := by kernel_rfl
theorem zf_126 : zfP Tryz.prog 126 = false := by kernel_rfl
theorem zf_127 : zfP Tryz.prog 127 = false := by kernel_rfl
theorem zf_128 : zfP Tryz.prog 128 = false := by kernel_rfl
theorem zf_129 : zfP Tryz.prog 129 = false := by kernel_rfl
theorem zf_130 : zfP Tryz.prog 130 = false := by kernel_rfl
theorem zf_131 : zfP Tryz.prog 131 = false := by kernel_rfl
theorem zf_133 : zfP Tryz.prog 133 = false := by kernel_rfl
theorem zf_134 : zfP Tryz.prog 134 = false := by kernel_rfl
theorem zf_135 : zfP Tryz.prog 135 = false := by kernel_rfl
theorem zf_136 : zfP Tryz.prog 136 = false := by kernel_rfl
theorem zf_137 : zfP Tryz.prog 137 = false := by kernel_rfl
theorem zf_138 : zfP Tryz.prog 138 = false := by kernel_rfl
theorem zf_139 : zfP Tryz.prog 139 = true := by kernel_rfl
theorem zf_140 : zfP Tryz.prog 140 = true := by kernel_rfl
theorem zf_141 : zfP Tryz.prog 141 = false := by kernel_rfl
theorem zf_143 : zfP Tryz.prog 143 = true := by kernel_rfl
theorem zf_145 : zfP Tryz.prog 145 = false := by kernel_rfl
theorem zf_146 : zfP Tryz.prog 146 = false := by kernel_rfl
theorem zf_147 : zfP Tryz.prog 147 = false := by kernel_rfl
theorem zf_148 : zfP Tryz.prog 148 = true := by kernel_rfl
theorem zf_149 : zfP Tryz.prog 149 = true := by kernel_rfl
theorem zf_150 : zfP Tryz.prog 150 = false := by kernel_rfl
theorem zf_151 : zfP Tryz.prog 151 = true := by kernel_rfl
theorem zf_152 : zfP Tryz.prog 152 = false := by kernel_rfl
theorem zf_153 : zfP Tryz.prog 153 = false := by kernel_rfl
theorem zf_154 : zfP Tryz.prog 154 = false := by kernel_rfl
theorem zf_155 : zfP Tryz.prog 155 = false := by kernel_rfl
theorem zf_157 : zfP Tryz.prog 157 = false := by kernel_rfl
theorem zf_158 : zfP Tryz.prog 158 = false := by kernel_rfl
theorem zf_159 : zfP Tryz.prog 159 = false := by kernel_rfl
theorem zf_160 : zfP Tryz.prog 160 = false := by kernel_rfl
theorem zf_161 : zfP Tryz.prog 161 = false := by kernel_rfl
theorem zf_162 : zfP Tryz.prog 162 = false := by kernel_rfl
theorem zf_163 : zfP Tryz.prog 163 = false := by kernel_rfl
theorem zf_164 : zfP Tryz.prog 164 = false := by kernel_rfl
theorem zf_165 : zfP Tryz.prog 165 = false := by kernel_rfl
theorem zf_169 : zfP Tryz.prog 169 = false := by kernel_rfl
theorem zf_170 : zfP Tryz.prog 170 = false := by kernel_rfl
theorem zf_171 : zfP Tryz.prog 171 = false := by kernel_rfl
theorem zf_176 : zfP Tryz.prog 176 = false := by kernel_rfl
theorem zf_177 : zfP Tryz.prog 177 = false := by kernel_rfl
theorem zf_178 : zfP Tryz.prog 178 = false := by kernel_rfl
theorem zf_181 : zfP Tryz.prog 181 = false := by kernel_rfl
theorem zf_182 : zfP Tryz.prog 182 = false := by kernel_rfl
theorem zf_183 : zfP Tryz.prog 183 = false := by kernel_rfl
theorem zf_184 : zfP Tryz.prog 184 = false := by kernel_rfl
theorem zf_185 : zfP Tryz.prog 185 = false := by kernel_rfl
theorem zf_187 : zfP Tryz.prog 187 = true := by kernel_rfl
theorem zf_188 : zfP Tryz.prog 188 = false := by kernel_rfl
theorem zf_189 : zfP Tryz.prog 189 = false := by kernel_rfl
theorem zf_190 : zfP Tryz.prog 190 = false := by kernel_rfl
theorem zf_191 : zfP Tryz.prog 191 = false := by kernel_rfl
theorem zf_192 : zfP Tryz.prog 192 = false := by kernel_rfl
theorem zf_193 : zfP Tryz.prog 193 = false := by kernel_rfl
theorem zf_195 : zfP Tryz.prog 195 = false := by kernel_rfl
theorem zf_196 : zfP Tryz.prog 196 = false := by kernel_rfl
theorem zf_197 : zfP Tryz.prog 197 = false := by kernel_rfl
theorem zf_198 : zfP Tryz.prog 198 = false := by kernel_rfl
theorem zf_199 : zfP Tryz.prog 199 = false := by kernel_rfl
theorem zf_200 : zfP Tryz.prog 200 = false := by kernel_rfl
theorem zf_201 : zfP Tryz.prog 201 = false := by kernel_rfl
theorem zf_204 : zfP Tryz.prog 204 = false := by kernel_rfl
theorem zf_208 : zfP Tryz.prog 208 = false := by kernel_rfl
theorem zf_210 : zfP Tryz.prog 210 = false := by kernel_rfl
theorem zf_212 : zfP Tryz.prog 212 = false := by kernel_rfl
theorem zf_213 : zfP Tryz.prog 213 = false := by kernel_rfl
theorem zf_214 : zfP Tryz.prog 214 = false := by kernel_rfl
theorem zf_215 : zfP Tryz.prog 215 = false := by kernel_rfl
theorem zf_216 : zfP Tryz.prog 216 = false := by kernel_rfl
theorem zf_217 : zfP Tryz.prog 217 = false := by kernel_rfl
theorem zf_218 : zfP Tryz.prog 218 = false := by kernel_rfl
theorem zf_219 : zfP Tryz.prog 219 = false := by kernel_rfl
theorem zf_220 : zfP Tryz.prog 220 = false := by kernel_rfl
theorem zf_222 : zfP Tryz.prog 222 = false := by kernel_rfl
theorem zf_223 : zfP Tryz.prog 223 = false := by kernel_rfl
theorem zf_227 : zfP Tryz.prog 227 = false := by kernel_rfl
theorem zf_236 : zfP Tryz.prog 236 = false := by kernel_rfl
theorem zf_249 : zfP Tryz.prog 249 = false := by kernel_rfl
theorem zf_263 : zfP Tryz.prog 263 = true := by kernel_rfl
theorem eq_7 : eqTyP Tryz.prog 7 = some [.i .i64, .i .i64, .b, .i .u8] := by kernel_rfl
theorem ag_7 : aggP Tryz.prog 7 = true := by kernel_rfl
theorem eq_8 : eqTyP Tryz.prog 8 = some [.i .i64, .i .i64, .b, .i .u8] := by kernel_rfl
theorem ag_8 : aggP Tryz.prog 8 = true := by kernel_rfl
theorem eq_32 : eqTyP Tryz.prog 32 = some [.s, .s] := by kernel_rfl
theorem ag_32 : aggP Tryz.prog 32 = true := by kernel_rfl
theorem eq_33 : eqTyP Tryz.prog 33 = some [.s, .s] := by kernel_rfl
theorem ag_33 : aggP Tryz.prog 33 = true := by kernel_rfl
theorem eq_36 : eqTyP Tryz.prog 36 = some [.s, .s, .b] := by kernel_rfl
theorem ag_36 : aggP Tryz.prog 36 = true := by kernel_rfl
theorem eq_37 : eqTyP Tryz.prog 37 = some [.s, .s, .b] := by kernel_rfl
theorem ag_37 : aggP Tryz.prog 37 = true := by kernel_rfl
theorem eq_40 : eqTyP Tryz.prog 40 = some [.s, .s, .b, .b] := by kernel_rfl
theorem ag_40 : aggP Tryz.prog 40 = true := by kernel_rfl
theorem eq_41 : eqTyP Tryz.prog 41 = some [.s, .s, .b, .b] := by kernel_rfl
theorem ag_41 : aggP Tryz.prog 41 = true := by kernel_rfl
theorem eq_71 : eqTyP Tryz.prog 71 = some [.i .i64, .s, .s, .b, .s, .s, .s, .s, .b, .b] := by kernel_rfl
theorem ag_71 : aggP Tryz.prog 71 = true := by kernel_rfl
theorem eq_72 : eqTyP Tryz.prog 72 = some [.i .i64, .s, .s, .b, .s, .s, .s, .s, .b, .b] := by kernel_rfl
theorem ag_72 : aggP Tryz.prog 72 = true := by kernel_rfl
theorem eq_73 : eqTyP Tryz.prog 73 = some [.i .i64, .i .i64, .s, .s, .b, .s, .s, .s, .s, .b, .b, .i .i64, .b] := by kernel_rfl
theorem ag_73 : aggP Tryz.prog 73 = true := by kernel_rfl
theorem eq_74 : eqTyP Tryz.prog 74 = some [.i .i64, .i .i64, .s, .s, .b, .s, .s, .s, .s, .b, .b, .i .i64, .b] := by kernel_rfl
theorem ag_74 : aggP Tryz.prog 74 = true := by kernel_rfl
theorem eq_116 : eqTyP Tryz.prog 116 = some [.s, .s, .s, .b, .s, .s, .s, .s, .b, .b] := by kernel_rfl
theorem ag_116 : aggP Tryz.prog 116 = true := by kernel_rfl
theorem eq_117 : eqTyP Tryz.prog 117 = some [.s, .s, .s, .b, .s, .s, .s, .s, .b, .b] := by kernel_rfl
theorem ag_117 : aggP Tryz.prog 117 = true := by kernel_rfl
attribute [go_sem] ti_0 kd_0 ti_1 kd_1 ti_2 kd_2 ti_3 kd_3 ti_4 kd_4 ti_5 kd_5 ti_6 kd_6 ti_7 kd_7 ti_8 kd_8 ti_9 kd_9 ti_10 kd_10 ti_11 kd_11 ti_12 kd_12 ti_13 kd_13 ti_14 kd_14 ti_15 kd_15 ti_16 kd_16 ti_17 kd_17 ti_18 kd_18 ti_19 kd_19
attribute [go_sem] ti_20 kd_20 ti_21 kd_21 ti_22 kd_22 ti_23 kd_23 ti_24 kd_24 ti_25 kd_25 ti_26 kd_26 ti_27 kd_27 ti_28 kd_28 ti_29 kd_29 ti_30 kd_30 ti_31 kd_31 ti_32 kd_32 ti_33 kd_33 ti_34 kd_34 ti_35 kd_35 ti_36 kd_36 ti_37 kd_37 ti_38 kd_38 ti_39 kd_39
attribute [go_sem] ti_40 kd_40 ti_41 kd_41 ti_45 kd_45 ti_47 kd_47 ti_50 kd_50 ti_52 kd_52 ti_53 kd_53 ti_54 kd_54 ti_56 kd_56 ti_57 kd_57 ti_58 kd_58 ti_60 kd_60 ti_61 kd_61 ti_63 kd_63 ti_64 kd_64
attribute [go_sem] ti_65 kd_65 ti_66 kd_66 ti_68 kd_68 ti_69 kd_69 ti_70 kd_70 ti_71 kd_71 ti_72 kd_72 ti_73 kd_73 ti_74 kd_74 ti_75 kd_75 ti_77 kd_77 ti_79 kd_79 ti_80 kd_80 ti_81 kd_81 ti_82 kd_82 ti_83 kd_83 ti_84 kd_84 ti_87 kd_87
attribute [go_sem] ti_89 kd_89 ti_90 kd_90 ti_94 kd_94 ti_97 kd_97 ti_98 kd_98 ti_99 kd_99 ti_100 kd_100 ti_101 kd_101 ti_102 kd_102 ti_104 kd_104 ti_105 kd_105 ti_106 kd_106 ti_107 kd_107 ti_108 kd_108 ti_109 kd_109
attribute [go_sem] ti_110 kd_110 ti_111 kd_111 ti_112 kd_112 ti_114 kd_114 ti_115 kd_115 ti_116 kd_116 ti_117 kd_117 ti_118 kd_118 ti_119 kd_119 ti_120 kd_120 ti_121 kd_121 ti_122 kd_122 ti_126 kd_126 ti_127 kd_127 ti_128 kd_128 ti_129 kd_129 ti_130 kd_130 ti_131 kd_131
attribute [go_sem] ti_133 kd_133 ti_134 kd_134 ti_135 kd_135 ti_136 kd_136 ti_137 kd_137 ti_138 kd_138 ti_139 kd_139 ti_140 kd_140 ti_141 kd_141 ti_143 kd_143 ti_145 kd_145 ti_146 kd_146 ti_147 kd_147 ti_148 kd_148 ti_149 kd_149 ti_150 kd_150 ti_151 kd_151
attribute [go_sem] ti_152 kd_152 ti_154 kd_154 ti_158 kd_158 ti_159 kd_159 ti_160 kd_160 ti_161 kd_161 ti_162 kd_162 ti_163 kd_163 ti_164 kd_164 ti_169 kd_169 ti_170 kd_170 ti_171 kd_171
attribute [go_sem] ti_177 kd_177 ti_181 kd_181 ti_182 kd_182 ti_183 kd_183 ti_184 kd_184 ti_185 kd_185 ti_187 kd_187 ti_188 kd_188 ti_189 kd_189 ti_190 kd_190 ti_191 kd_191 ti_192 kd_192 ti_196 kd_196 ti_198 kd_198 ti_199 kd_199 ti_201 kd_201
attribute [go_sem] ti_204 kd_204 ti_208 kd_208 ti_210 kd_210 ti_212 kd_212 ti_213 kd_213 ti_214 kd_214 ti_215 kd_215 ti_216 kd_216 ti_217 kd_217 ti_218 kd_218 ti_219 kd_219 ti_220 kd_220 ti_222 kd_222
attribute [go_sem] ti_223 kd_223 ti_227 kd_227
attribute [go_sem] ti_249 kd_249
attribute [go_sem] zf_0 zf_1 zf_2 zf_3 zf_4 zf_5 zf_6 zf_7 zf_8 zf_9 zf_10 zf_11 zf_12 zf_13 zf_14 zf_15
attribute [go_sem] zf_16 zf_17 zf_18 zf_19 zf_20 zf_21 zf_22 zf_23 zf_24 zf_25 zf_26 zf_27 zf_28 zf_29 zf_30 zf_31 zf_32 zf_33 zf_34 zf_35 zf_36 zf_37 zf_38 zf_39 zf_40 zf_41 zf_43 zf_45 zf_46 zf_47 zf_50 zf_51 zf_52 zf_53 zf_54
attribute [go_sem] zf_56 zf_57 zf_58 zf_59 zf_60 zf_61 zf_63 zf_64 zf_65 zf_66 zf_67 zf_68 zf_69 zf_70 zf_71 zf_72 zf_73 zf_74 zf_75 zf_77 zf_78 zf_79 zf_80 zf_81 zf_82 zf_83 zf_84 zf_85 zf_87 zf_89 zf_90 zf_93 zf_94
attribute [go_sem] zf_97 zf_98 zf_99 zf_100 zf_101 zf_102 zf_103 zf_104 zf_105 zf_106 zf_107 zf_108 zf_109 zf_110 zf_111 zf_112 zf_113 zf_114 zf_115 zf_116 zf_117 zf_118 zf_119 zf_120 zf_121 zf_122 zf_125 zf_126 zf_127 zf_128 zf_129 zf_130 zf_131 zf_133 zf_134 zf_135
attribute [go_sem] zf_136 zf_137 zf_138 zf_139 zf_140 zf_141 zf_143 zf_145 zf_146 zf_147 zf_148 zf_149 zf_150 zf_151 zf_152 zf_153 zf_154 zf_155 zf_157 zf_158 zf_159 zf_160 zf_161 zf_162 zf_163 zf_164 zf_165 zf_169 zf_170 zf_171
attribute [go_sem] zf_176 zf_177 zf_178 zf_181 zf_182 zf_183 zf_184 zf_185 zf_187 zf_188 zf_189 zf_190 zf_191 zf_192 zf_193 zf_195 zf_196 zf_197 zf_198 zf_199 zf_200 zf_201 zf_204 zf_208 zf_210 zf_212 zf_213 zf_214 zf_215
attribute [go_sem] zf_216 zf_217 zf_218 zf_219 zf_220 zf_222 zf_223 zf_227 zf_236 zf_249
attribute [go_sem] zf_263
attribute [go_sem] eq_7 ag_7 eq_8 ag_8 eq_32 ag_32 eq_33 ag_33 eq_36 ag_36 eq_37 ag_37 eq_40 ag_40 eq_41 ag_41 eq_71 ag_71 eq_72 ag_72 eq_73 ag_73 eq_74 ag_74 eq_116 ag_116 eq_117 ag_117
end Go.Proofs.YtbfemlilfeahkaaGreatDoor
