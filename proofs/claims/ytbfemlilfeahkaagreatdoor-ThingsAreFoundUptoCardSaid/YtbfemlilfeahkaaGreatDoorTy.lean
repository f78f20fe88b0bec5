/- What the program's types are, as the machine reads them. -/
import Derived.Test.YtbfemlilfeahkaaGreatDoorVc3
import Derived.Test.YtbfemlilfeahkaaGreatDoorProg
import Derived.KernelRfl
namespace Go.Proofs.YtbfemlilfeahkaaGreatDoor
open Go.Vc
theorem ti_0 : tiP Tryz.prog 0 = some ⟨false, 1, [.tuple #[]], .other⟩ := by kernel_rfl
theorem kd_0 : kindP Tryz.prog 0 = .other := by kernel_rfl
theorem ti_1 : tiP Tryz.prog 1 = some ⟨false, 1, [.nilFunc], .other⟩ := by kernel_rfl
theorem kd_1 : kindP Tryz.prog 1 = .other := by kernel_rfl
theorem ti_2 : tiP Tryz.prog 2 = some ⟨false, 1, [.int .i64 0], .int .i64⟩ := by kernel_rfl
theorem kd_2 : kindP Tryz.prog 2 = .int .i64 := by kernel_rfl
theorem ti_3 : tiP Tryz.prog 3 = some ⟨false, 1, [.int .i64 0], .int .i64⟩ := by kernel_rfl
theorem kd_3 : kindP Tryz.prog 3 = .int .i64 := by kernel_rfl
theorem ti_4 : tiP Tryz.prog 4 = some ⟨false, 1, [.bool false], .bool⟩ := by kernel_rfl
theorem kd_4 : kindP Tryz.prog 4 = .bool := by kernel_rfl
theorem ti_5 : tiP Tryz.prog 5 = some ⟨false, 1, [.int .u8 0], .int .u8⟩ := by kernel_rfl
theorem kd_5 : kindP Tryz.prog 5 = .int .u8 := by kernel_rfl
theorem ti_6 : tiP Tryz.prog 6 = some ⟨false, 1, [.int .u8 0], .int .u8⟩ := by kernel_rfl
theorem kd_6 : kindP Tryz.prog 6 = .int .u8 := by kernel_rfl
theorem ti_7 : tiP Tryz.prog 7 = some ⟨true, 4, [.int .i64 0, .int .i64 0, .bool false, .int .u8 0], .struct [(0, 1, false), (1, 1, false), (2, 1, false), (3, 1, false)]⟩ := by kernel_rfl
theorem kd_7 : kindP Tryz.prog 7 = .struct [(0, 1, false), (1, 1, false), (2, 1, false), (3, 1, false)] := by kernel_rfl
theorem ti_8 : tiP Tryz.prog 8 = some ⟨true, 4, [.int .i64 0, .int .i64 0, .bool false, .int .u8 0], .struct [(0, 1, false), (1, 1, false), (2, 1, false), (3, 1, false)]⟩ := by kernel_rfl
theorem kd_8 : kindP Tryz.prog 8 = .struct [(0, 1, false), (1, 1, false), (2, 1, false), (3, 1, false)] := by kernel_rfl
theorem ti_9 : tiP Tryz.prog 9 = some ⟨false, 1, [.string ⟨#[]⟩], .str⟩ := by kernel_rfl
theorem kd_9 : kindP Tryz.prog 9 = .str := by kernel_rfl
theorem ti_10 : tiP Tryz.prog 10 = some ⟨false, 1, [.string ⟨#[]⟩], .str⟩ := by kernel_rfl
theorem kd_10 : kindP Tryz.prog 10 = .str := by kernel_rfl
theorem ti_11 : tiP Tryz.prog 11 = some ⟨false, 1, [.string ⟨#[]⟩], .str⟩ := by kernel_rfl
theorem kd_11 : kindP Tryz.prog 11 = .str := by kernel_rfl
theorem ti_12 : tiP Tryz.prog 12 = some ⟨false, 1, [.int .u64 0], .int .u64⟩ := by kernel_rfl
theorem kd_12 : kindP Tryz.prog 12 = .int .u64 := by kernel_rfl
theorem ti_13 : tiP Tryz.prog 13 = some ⟨true, 2, [.string ⟨#[]⟩, .int .u64 0], .struct [(0, 1, false), (1, 1, false)]⟩ := by kernel_rfl
theorem kd_13 : kindP Tryz.prog 13 = .struct [(0, 1, false), (1, 1, false)] := by kernel_rfl
theorem ti_14 : tiP Tryz.prog 14 = some ⟨true, 2, [.string ⟨#[]⟩, .int .u64 0], .struct [(0, 1, false), (1, 1, false)]⟩ := by kernel_rfl
theorem kd_14 : kindP Tryz.prog 14 = .struct [(0, 1, false), (1, 1, false)] := by kernel_rfl
theorem ti_15 : tiP Tryz.prog 15 = some ⟨false, 1, [.pointer none], .ptr 273⟩ := by kernel_rfl
theorem kd_15 : kindP Tryz.prog 15 = .ptr 273 := by kernel_rfl
theorem ti_16 : tiP Tryz.prog 16 = some ⟨false, 1, [.pointer none], .ptr 276⟩ := by kernel_rfl
theorem kd_16 : kindP Tryz.prog 16 = .ptr 276 := by kernel_rfl
theorem ti_17 : tiP Tryz.prog 17 = some ⟨false, 1, [.pointer none], .ptr 283⟩ := by kernel_rfl
theorem kd_17 : kindP Tryz.prog 17 = .ptr 283 := by kernel_rfl
theorem ti_18 : tiP Tryz.prog 18 = some ⟨true, 1, [.pointer none], .struct [(0, 1, false)]⟩ := by kernel_rfl
theorem kd_18 : kindP Tryz.prog 18 = .struct [(0, 1, false)] := by kernel_rfl
theorem ti_19 : tiP Tryz.prog 19 = some ⟨true, 1, [.pointer none], .struct [(0, 1, false)]⟩ := by kernel_rfl
theorem kd_19 : kindP Tryz.prog 19 = .struct [(0, 1, false)] := by kernel_rfl
theorem ti_20 : tiP Tryz.prog 20 = some ⟨false, 1, [.nilIface], .other⟩ := by kernel_rfl
theorem kd_20 : kindP Tryz.prog 20 = .other := by kernel_rfl
theorem ti_21 : tiP Tryz.prog 21 = some ⟨false, 1, [.int .i32 0], .int .i32⟩ := by kernel_rfl
theorem kd_21 : kindP Tryz.prog 21 = .int .i32 := by kernel_rfl
theorem ti_22 : tiP Tryz.prog 22 = some ⟨false, 1, [.slice none 0 0], .slice 33 2 32 [.string ⟨#[]⟩, .string ⟨#[]⟩]⟩ := by kernel_rfl
theorem kd_22 : kindP Tryz.prog 22 = .slice 33 2 32 [.string ⟨#[]⟩, .string ⟨#[]⟩] := by kernel_rfl
theorem ti_23 : tiP Tryz.prog 23 = some ⟨false, 1, [.slice none 0 0], .slice 37 3 40 [.string ⟨#[]⟩, .string ⟨#[]⟩, .bool false]⟩ := by kernel_rfl
theorem kd_23 : kindP Tryz.prog 23 = .slice 37 3 40 [.string ⟨#[]⟩, .string ⟨#[]⟩, .bool false] := by kernel_rfl
theorem ti_24 : tiP Tryz.prog 24 = some ⟨false, 1, [.slice none 0 0], .slice 41 4 40 [.string ⟨#[]⟩, .string ⟨#[]⟩, .bool false, .bool false]⟩ := by kernel_rfl
theorem kd_24 : kindP Tryz.prog 24 = .slice 41 4 40 [.string ⟨#[]⟩, .string ⟨#[]⟩, .bool false, .bool false] := by kernel_rfl
theorem ti_25 : tiP Tryz.prog 25 = some ⟨true, 4, [.slice none 0 0, .slice none 0 0, .slice none 0 0, .slice none 0 0], .struct [(0, 1, false), (1, 1, false), (2, 1, false), (3, 1, false)]⟩ := by kernel_rfl
theorem kd_25 : kindP Tryz.prog 25 = .struct [(0, 1, false), (1, 1, false), (2, 1, false), (3, 1, false)] := by kernel_rfl
theorem ti_26 : tiP Tryz.prog 26 = some ⟨true, 4, [.slice none 0 0, .slice none 0 0, .slice none 0 0, .slice none 0 0], .struct [(0, 1, false), (1, 1, false), (2, 1, false), (3, 1, false)]⟩ := by kernel_rfl
theorem kd_26 : kindP Tryz.prog 26 = .struct [(0, 1, false), (1, 1, false), (2, 1, false), (3, 1, false)] := by kernel_rfl
theorem ti_27 : tiP Tryz.prog 27 = some ⟨false, 1, [.nilFunc], .other⟩ := by kernel_rfl
theorem kd_27 : kindP Tryz.prog 27 = .other := by kernel_rfl
theorem ti_28 : tiP Tryz.prog 28 = some ⟨false, 1, [.nilFunc], .other⟩ := by kernel_rfl
theorem kd_28 : kindP Tryz.prog 28 = .other := by kernel_rfl
theorem ti_29 : tiP Tryz.prog 29 = some ⟨false, 1, [.int .i64 0], .int .i64⟩ := by kernel_rfl
theorem kd_29 : kindP Tryz.prog 29 = .int .i64 := by kernel_rfl
theorem ti_30 : tiP Tryz.prog 30 = some ⟨false, 1, [.nilFunc], .other⟩ := by kernel_rfl
theorem kd_30 : kindP Tryz.prog 30 = .other := by kernel_rfl
theorem ti_31 : tiP Tryz.prog 31 = some ⟨false, 1, [.nilFunc], .other⟩ := by kernel_rfl
theorem kd_31 : kindP Tryz.prog 31 = .other := by kernel_rfl
theorem ti_32 : tiP Tryz.prog 32 = some ⟨true, 2, [.string ⟨#[]⟩, .string ⟨#[]⟩], .struct [(0, 1, false), (1, 1, false)]⟩ := by kernel_rfl
theorem kd_32 : kindP Tryz.prog 32 = .struct [(0, 1, false), (1, 1, false)] := by kernel_rfl
theorem ti_33 : tiP Tryz.prog 33 = some ⟨true, 2, [.string ⟨#[]⟩, .string ⟨#[]⟩], .struct [(0, 1, false), (1, 1, false)]⟩ := by kernel_rfl
theorem kd_33 : kindP Tryz.prog 33 = .struct [(0, 1, false), (1, 1, false)] := by kernel_rfl
theorem ti_34 : tiP Tryz.prog 34 = some ⟨false, 1, [.nilFunc], .other⟩ := by kernel_rfl
theorem kd_34 : kindP Tryz.prog 34 = .other := by kernel_rfl
theorem ti_35 : tiP Tryz.prog 35 = some ⟨false, 1, [.nilFunc], .other⟩ := by kernel_rfl
theorem kd_35 : kindP Tryz.prog 35 = .other := by kernel_rfl
theorem ti_36 : tiP Tryz.prog 36 = some ⟨true, 3, [.string ⟨#[]⟩, .string ⟨#[]⟩, .bool false], .struct [(0, 1, false), (1, 1, false), (2, 1, false)]⟩ := by kernel_rfl
theorem kd_36 : kindP Tryz.prog 36 = .struct [(0, 1, false), (1, 1, false), (2, 1, false)] := by kernel_rfl
theorem ti_37 : tiP Tryz.prog 37 = some ⟨true, 3, [.string ⟨#[]⟩, .string ⟨#[]⟩, .bool false], .struct [(0, 1, false), (1, 1, false), (2, 1, false)]⟩ := by kernel_rfl
theorem kd_37 : kindP Tryz.prog 37 = .struct [(0, 1, false), (1, 1, false), (2, 1, false)] := by kernel_rfl
theorem ti_38 : tiP Tryz.prog 38 = some ⟨false, 1, [.nilFunc], .other⟩ := by kernel_rfl
theorem kd_38 : kindP Tryz.prog 38 = .other := by kernel_rfl
theorem ti_39 : tiP Tryz.prog 39 = some ⟨false, 1, [.nilFunc], .other⟩ := by kernel_rfl
theorem kd_39 : kindP Tryz.prog 39 = .other := by kernel_rfl
theorem ti_40 : tiP Tryz.prog 40 = some ⟨true, 4, [.string ⟨#[]⟩, .string ⟨#[]⟩, .bool false, .bool false], .struct [(0, 1, false), (1, 1, false), (2, 1, false), (3, 1, false)]⟩ := by kernel_rfl
theorem kd_40 : kindP Tryz.prog 40 = .struct [(0, 1, false), (1, 1, false), (2, 1, false), (3, 1, false)] := by kernel_rfl
theorem ti_41 : tiP Tryz.prog 41 = some ⟨true, 4, [.string ⟨#[]⟩, .string ⟨#[]⟩, .bool false, .bool false], .struct [(0, 1, false), (1, 1, false), (2, 1, false), (3, 1, false)]⟩ := by kernel_rfl
theorem kd_41 : kindP Tryz.prog 41 = .struct [(0, 1, false), (1, 1, false), (2, 1, false), (3, 1, false)] := by kernel_rfl
theorem ti_42 : tiP Tryz.prog 42 = some ⟨false, 1, [.nilFunc], .other⟩ := by kernel_rfl
theorem kd_42 : kindP Tryz.prog 42 = .other := by kernel_rfl
theorem ti_44 : tiP Tryz.prog 44 = some ⟨false, 1, [.nilFunc], .other⟩ := by kernel_rfl
theorem kd_44 : kindP Tryz.prog 44 = .other := by kernel_rfl
theorem ti_45 : tiP Tryz.prog 45 = some ⟨false, 1, [.nilFunc], .other⟩ := by kernel_rfl
theorem kd_45 : kindP Tryz.prog 45 = .other := by kernel_rfl
theorem ti_47 : tiP Tryz.prog 47 = some ⟨false, 1, [.nilFunc], .other⟩ := by kernel_rfl
theorem kd_47 : kindP Tryz.prog 47 = .other := by kernel_rfl
theorem ti_49 : tiP Tryz.prog 49 = some ⟨false, 1, [.nilFunc], .other⟩ := by kernel_rfl
theorem kd_49 : kindP Tryz.prog 49 = .other := by kernel_rfl
theorem ti_50 : tiP Tryz.prog 50 = some ⟨false, 1, [.slice none 0 0], .slice 9 1 16 [.string ⟨#[]⟩]⟩ := by kernel_rfl
theorem kd_50 : kindP Tryz.prog 50 = .slice 9 1 16 [.string ⟨#[]⟩] := by kernel_rfl
theorem ti_52 : tiP Tryz.prog 52 = some ⟨false, 1, [.nilFunc], .other⟩ := by kernel_rfl
theorem kd_52 : kindP Tryz.prog 52 = .other := by kernel_rfl
theorem ti_53 : tiP Tryz.prog 53 = some ⟨false, 1, [.nilFunc], .other⟩ := by kernel_rfl
theorem kd_53 : kindP Tryz.prog 53 = .other := by kernel_rfl
theorem ti_54 : tiP Tryz.prog 54 = some ⟨false, 1, [.nilFunc], .other⟩ := by kernel_rfl
theorem kd_54 : kindP Tryz.prog 54 = .other := by kernel_rfl
theorem ti_55 : tiP Tryz.prog 55 = some ⟨false, 1, [.nilFunc], .other⟩ := by kernel_rfl
theorem kd_55 : kindP Tryz.prog 55 = .other := by kernel_rfl
theorem ti_56 : tiP Tryz.prog 56 = some ⟨false, 1, [.nilFunc], .other⟩ := by kernel_rfl
theorem kd_56 : kindP Tryz.prog 56 = .other := by kernel_rfl
theorem ti_57 : tiP Tryz.prog 57 = some ⟨false, 1, [.nilFunc], .other⟩ := by kernel_rfl
theorem kd_57 : kindP Tryz.prog 57 = .other := by kernel_rfl
theorem ti_58 : tiP Tryz.prog 58 = some ⟨false, 1, [.nilFunc], .other⟩ := by kernel_rfl
theorem kd_58 : kindP Tryz.prog 58 = .other := by kernel_rfl
theorem ti_60 : tiP Tryz.prog 60 = some ⟨false, 1, [.nilFunc], .other⟩ := by kernel_rfl
theorem kd_60 : kindP Tryz.prog 60 = .other := by kernel_rfl
theorem ti_61 : tiP Tryz.prog 61 = some ⟨false, 1, [.nilFunc], .other⟩ := by kernel_rfl
theorem kd_61 : kindP Tryz.prog 61 = .other := by kernel_rfl
theorem ti_62 : tiP Tryz.prog 62 = some ⟨false, 1, [.nilFunc], .other⟩ := by kernel_rfl
theorem kd_62 : kindP Tryz.prog 62 = .other := by kernel_rfl
theorem ti_63 : tiP Tryz.prog 63 = some ⟨false, 1, [.nilFunc], .other⟩ := by kernel_rfl
theorem kd_63 : kindP Tryz.prog 63 = .other := by kernel_rfl
theorem ti_64 : tiP Tryz.prog 64 = some ⟨false, 1, [.slice none 0 0], .slice 74 13 144 [.int .i64 0, .int .i64 0, .string ⟨#[]⟩, .string ⟨#[]⟩, .bool false, .string ⟨#[]⟩, .string ⟨#[]⟩, .string ⟨#[]⟩, .string ⟨#[]⟩, .bool false, .bool false, .int .i64 0, .bool false]⟩ := by kernel_rfl
theorem kd_64 : kindP Tryz.prog 64 = .slice 74 13 144 [.int .i64 0, .int .i64 0, .string ⟨#[]⟩, .string ⟨#[]⟩, .bool false, .string ⟨#[]⟩, .string ⟨#[]⟩, .string ⟨#[]⟩, .string ⟨#[]⟩, .bool false, .bool false, .int .i64 0, .bool false] := by kernel_rfl
theorem ti_65 : tiP Tryz.prog 65 = some ⟨false, 1, [.nilFunc], .other⟩ := by kernel_rfl
theorem kd_65 : kindP Tryz.prog 65 = .other := by kernel_rfl
theorem ti_66 : tiP Tryz.prog 66 = some ⟨false, 1, [.pointer none], .ptr 140⟩ := by kernel_rfl
theorem kd_66 : kindP Tryz.prog 66 = .ptr 140 := by kernel_rfl
theorem ti_68 : tiP Tryz.prog 68 = some ⟨false, 1, [.nilFunc], .other⟩ := by kernel_rfl
theorem kd_68 : kindP Tryz.prog 68 = .other := by kernel_rfl
theorem ti_69 : tiP Tryz.prog 69 = some ⟨false, 1, [.pointer none], .ptr 144⟩ := by kernel_rfl
theorem kd_69 : kindP Tryz.prog 69 = .ptr 144 := by kernel_rfl
theorem ti_70 : tiP Tryz.prog 70 = some ⟨false, 1, [.nilFunc], .other⟩ := by kernel_rfl
theorem kd_70 : kindP Tryz.prog 70 = .other := by kernel_rfl
theorem ti_71 : tiP Tryz.prog 71 = some ⟨true, 10, [.int .i64 0, .string ⟨#[]⟩, .string ⟨#[]⟩, .bool false, .string ⟨#[]⟩, .string ⟨#[]⟩, .string ⟨#[]⟩, .string ⟨#[]⟩, .bool false, .bool false], .struct [(0, 1, false), (1, 3, true), (4, 2, true), (6, 4, true)]⟩ := by kernel_rfl
theorem kd_71 : kindP Tryz.prog 71 = .struct [(0, 1, false), (1, 3, true), (4, 2, true), (6, 4, true)] := by kernel_rfl
theorem ti_72 : tiP Tryz.prog 72 = some ⟨true, 10, [.int .i64 0, .string ⟨#[]⟩, .string ⟨#[]⟩, .bool false, .string ⟨#[]⟩, .string ⟨#[]⟩, .string ⟨#[]⟩, .string ⟨#[]⟩, .bool false, .bool false], .struct [(0, 1, false), (1, 3, true), (4, 2, true), (6, 4, true)]⟩ := by kernel_rfl
theorem kd_72 : kindP Tryz.prog 72 = .struct [(0, 1, false), (1, 3, true), (4, 2, true), (6, 4, true)] := by kernel_rfl
theorem ti_73 : tiP Tryz.prog 73 = some ⟨true, 13, [.int .i64 0, .int .i64 0, .string ⟨#[]⟩, .string ⟨#[]⟩, .bool false, .string ⟨#[]⟩, .string ⟨#[]⟩, .string ⟨#[]⟩, .string ⟨#[]⟩, .bool false, .bool false, .int .i64 0, .bool false], .struct [(0, 1, false), (1, 10, true), (11, 1, false), (12, 1, false)]⟩ := by kernel_rfl
theorem kd_73 : kindP Tryz.prog 73 = .struct [(0, 1, false), (1, 10, true), (11, 1, false), (12, 1, false)] := by kernel_rfl
theorem ti_74 : tiP Tryz.prog 74 = some ⟨true, 13, [.int .i64 0, .int .i64 0, .string ⟨#[]⟩, .string ⟨#[]⟩, .bool false, .string ⟨#[]⟩, .string ⟨#[]⟩, .string ⟨#[]⟩, .string ⟨#[]⟩, .bool false, .bool false, .int .i64 0, .bool false], .struct [(0, 1, false), (1, 10, true), (11, 1, false), (12, 1, false)]⟩ := by kernel_rfl
theorem kd_74 : kindP Tryz.prog 74 = .struct [(0, 1, false), (1, 10, true), (11, 1, false), (12, 1, false)] := by kernel_rfl
theorem ti_75 : tiP Tryz.prog 75 = some ⟨false, 1, [.nilFunc], .other⟩ := by kernel_rfl
theorem kd_75 : kindP Tryz.prog 75 = .other := by kernel_rfl
theorem ti_76 : tiP Tryz.prog 76 = some ⟨false, 1, [.nilFunc], .other⟩ := by kernel_rfl
theorem kd_76 : kindP Tryz.prog 76 = .other := by kernel_rfl
theorem ti_77 : tiP Tryz.prog 77 = some ⟨false, 1, [.nilFunc], .other⟩ := by kernel_rfl
theorem kd_77 : kindP Tryz.prog 77 = .other := by kernel_rfl
theorem ti_79 : tiP Tryz.prog 79 = some ⟨false, 1, [.nilFunc], .other⟩ := by kernel_rfl
theorem kd_79 : kindP Tryz.prog 79 = .other := by kernel_rfl
theorem ti_80 : tiP Tryz.prog 80 = some ⟨false, 1, [.nilFunc], .other⟩ := by kernel_rfl
theorem kd_80 : kindP Tryz.prog 80 = .other := by kernel_rfl
theorem ti_81 : tiP Tryz.prog 81 = some ⟨false, 1, [.nilFunc], .other⟩ := by kernel_rfl
theorem kd_81 : kindP Tryz.prog 81 = .other := by kernel_rfl
theorem ti_82 : tiP Tryz.prog 82 = some ⟨false, 1, [.nilFunc], .other⟩ := by kernel_rfl
theorem kd_82 : kindP Tryz.prog 82 = .other := by kernel_rfl
theorem ti_83 : tiP Tryz.prog 83 = some ⟨false, 1, [.slice none 0 0], .slice 72 10 120 [.int .i64 0, .string ⟨#[]⟩, .string ⟨#[]⟩, .bool false, .string ⟨#[]⟩, .string ⟨#[]⟩, .string ⟨#[]⟩, .string ⟨#[]⟩, .bool false, .bool false]⟩ := by kernel_rfl
theorem kd_83 : kindP Tryz.prog 83 = .slice 72 10 120 [.int .i64 0, .string ⟨#[]⟩, .string ⟨#[]⟩, .bool false, .string ⟨#[]⟩, .string ⟨#[]⟩, .string ⟨#[]⟩, .string ⟨#[]⟩, .bool false, .bool false] := by kernel_rfl
theorem ti_84 : tiP Tryz.prog 84 = some ⟨false, 1, [.nilFunc], .other⟩ := by kernel_rfl
theorem kd_84 : kindP Tryz.prog 84 = .other := by kernel_rfl
theorem ti_86 : tiP Tryz.prog 86 = some ⟨false, 1, [.nilFunc], .other⟩ := by kernel_rfl
theorem kd_86 : kindP Tryz.prog 86 = .other := by kernel_rfl
theorem ti_87 : tiP Tryz.prog 87 = some ⟨false, 1, [.nilFunc], .other⟩ := by kernel_rfl
theorem kd_87 : kindP Tryz.prog 87 = .other := by kernel_rfl
theorem ti_88 : tiP Tryz.prog 88 = some ⟨false, 1, [.nilFunc], .other⟩ := by kernel_rfl
theorem kd_88 : kindP Tryz.prog 88 = .other := by kernel_rfl
theorem ti_89 : tiP Tryz.prog 89 = some ⟨false, 1, [.nilFunc], .other⟩ := by kernel_rfl
theorem kd_89 : kindP Tryz.prog 89 = .other := by kernel_rfl
theorem ti_90 : tiP Tryz.prog 90 = some ⟨false, 1, [.nilFunc], .other⟩ := by kernel_rfl
theorem kd_90 : kindP Tryz.prog 90 = .other := by kernel_rfl
theorem ti_91 : tiP Tryz.prog 91 = some ⟨false, 1, [.nilFunc], .other⟩ := by kernel_rfl
theorem kd_91 : kindP Tryz.prog 91 = .other := by kernel_rfl
theorem ti_92 : tiP Tryz.prog 92 = some ⟨false, 1, [.nilFunc], .other⟩ := by kernel_rfl
theorem kd_92 : kindP Tryz.prog 92 = .other := by kernel_rfl
theorem ti_94 : tiP Tryz.prog 94 = some ⟨false, 1, [.nilFunc], .other⟩ := by kernel_rfl
theorem kd_94 : kindP Tryz.prog 94 = .other := by kernel_rfl
theorem ti_95 : tiP Tryz.prog 95 = some ⟨false, 1, [.nilFunc], .other⟩ := by kernel_rfl
theorem kd_95 : kindP Tryz.prog 95 = .other := by kernel_rfl
theorem ti_96 : tiP Tryz.prog 96 = some ⟨false, 1, [.nilFunc], .other⟩ := by kernel_rfl
theorem kd_96 : kindP Tryz.prog 96 = .other := by kernel_rfl
theorem ti_97 : tiP Tryz.prog 97 = some ⟨false, 1, [.nilFunc], .other⟩ := by kernel_rfl
theorem kd_97 : kindP Tryz.prog 97 = .other := by kernel_rfl
theorem ti_98 : tiP Tryz.prog 98 = some ⟨false, 1, [.nilFunc], .other⟩ := by kernel_rfl
theorem kd_98 : kindP Tryz.prog 98 = .other := by kernel_rfl
theorem ti_99 : tiP Tryz.prog 99 = some ⟨false, 1, [.nilFunc], .other⟩ := by kernel_rfl
theorem kd_99 : kindP Tryz.prog 99 = .other := by kernel_rfl
theorem ti_100 : tiP Tryz.prog 100 = some ⟨false, 1, [.nilFunc], .other⟩ := by kernel_rfl
theorem kd_100 : kindP Tryz.prog 100 = .other := by kernel_rfl
theorem ti_101 : tiP Tryz.prog 101 = some ⟨false, 1, [.nilFunc], .other⟩ := by kernel_rfl
theorem kd_101 : kindP Tryz.prog 101 = .other := by kernel_rfl
theorem ti_102 : tiP Tryz.prog 102 = some ⟨false, 1, [.nilFunc], .other⟩ := by kernel_rfl
theorem kd_102 : kindP Tryz.prog 102 = .other := by kernel_rfl
theorem ti_104 : tiP Tryz.prog 104 = some ⟨false, 1, [.nilFunc], .other⟩ := by kernel_rfl
theorem kd_104 : kindP Tryz.prog 104 = .other := by kernel_rfl
theorem ti_105 : tiP Tryz.prog 105 = some ⟨false, 1, [.nilFunc], .other⟩ := by kernel_rfl
theorem kd_105 : kindP Tryz.prog 105 = .other := by kernel_rfl
theorem ti_106 : tiP Tryz.prog 106 = some ⟨false, 1, [.nilFunc], .other⟩ := by kernel_rfl
theorem kd_106 : kindP Tryz.prog 106 = .other := by kernel_rfl
theorem ti_107 : tiP Tryz.prog 107 = some ⟨false, 1, [.nilFunc], .other⟩ := by kernel_rfl
theorem kd_107 : kindP Tryz.prog 107 = .other := by kernel_rfl
theorem ti_108 : tiP Tryz.prog 108 = some ⟨false, 1, [.nilFunc], .other⟩ := by kernel_rfl
theorem kd_108 : kindP Tryz.prog 108 = .other := by kernel_rfl
theorem ti_109 : tiP Tryz.prog 109 = some ⟨false, 1, [.nilFunc], .other⟩ := by kernel_rfl
theorem kd_109 : kindP Tryz.prog 109 = .other := by kernel_rfl
theorem ti_110 : tiP Tryz.prog 110 = some ⟨false, 1, [.nilFunc], .other⟩ := by kernel_rfl
theorem kd_110 : kindP Tryz.prog 110 = .other := by kernel_rfl
theorem ti_111 : tiP Tryz.prog 111 = some ⟨false, 1, [.slice none 0 0], .slice 5 1 1 [.int .u8 0]⟩ := by kernel_rfl
theorem kd_111 : kindP Tryz.prog 111 = .slice 5 1 1 [.int .u8 0] := by kernel_rfl
theorem ti_112 : tiP Tryz.prog 112 = some ⟨false, 1, [.int .u64 0], .int .u64⟩ := by kernel_rfl
theorem kd_112 : kindP Tryz.prog 112 = .int .u64 := by kernel_rfl
theorem ti_114 : tiP Tryz.prog 114 = some ⟨false, 1, [.nilFunc], .other⟩ := by kernel_rfl
theorem kd_114 : kindP Tryz.prog 114 = .other := by kernel_rfl
theorem ti_115 : tiP Tryz.prog 115 = some ⟨false, 1, [.nilFunc], .other⟩ := by kernel_rfl
theorem kd_115 : kindP Tryz.prog 115 = .other := by kernel_rfl
theorem ti_116 : tiP Tryz.prog 116 = some ⟨true, 10, [.string ⟨#[]⟩, .string ⟨#[]⟩, .string ⟨#[]⟩, .bool false, .string ⟨#[]⟩, .string ⟨#[]⟩, .string ⟨#[]⟩, .string ⟨#[]⟩, .bool false, .bool false], .struct [(0, 1, false), (1, 3, true), (4, 2, true), (6, 4, true)]⟩ := by kernel_rfl
theorem kd_116 : kindP Tryz.prog 116 = .struct [(0, 1, false), (1, 3, true), (4, 2, true), (6, 4, true)] := by kernel_rfl
theorem ti_117 : tiP Tryz.prog 117 = some ⟨true, 10, [.string ⟨#[]⟩, .string ⟨#[]⟩, .string ⟨#[]⟩, .bool false, .string ⟨#[]⟩, .string ⟨#[]⟩, .string ⟨#[]⟩, .string ⟨#[]⟩, .bool false, .bool false], .struct [(0, 1, false), (1, 3, true), (4, 2, true), (6, 4, true)]⟩ := by kernel_rfl
theorem kd_117 : kindP Tryz.prog 117 = .struct [(0, 1, false), (1, 3, true), (4, 2, true), (6, 4, true)] := by kernel_rfl
theorem ti_118 : tiP Tryz.prog 118 = some ⟨false, 1, [.nilFunc], .other⟩ := by kernel_rfl
theorem kd_118 : kindP Tryz.prog 118 = .other := by kernel_rfl
theorem ti_119 : tiP Tryz.prog 119 = some ⟨false, 1, [.nilFunc], .other⟩ := by kernel_rfl
theorem kd_119 : kindP Tryz.prog 119 = .other := by kernel_rfl
theorem ti_120 : tiP Tryz.prog 120 = some ⟨false, 1, [.pointer none], .ptr 122⟩ := by kernel_rfl
theorem kd_120 : kindP Tryz.prog 120 = .ptr 122 := by kernel_rfl
theorem ti_121 : tiP Tryz.prog 121 = some ⟨true, 2, [.pointer none, .slice none 0 0], .struct [(0, 1, false), (1, 1, false)]⟩ := by kernel_rfl
theorem kd_121 : kindP Tryz.prog 121 = .struct [(0, 1, false), (1, 1, false)] := by kernel_rfl
theorem ti_122 : tiP Tryz.prog 122 = some ⟨true, 2, [.pointer none, .slice none 0 0], .struct [(0, 1, false), (1, 1, false)]⟩ := by kernel_rfl
theorem kd_122 : kindP Tryz.prog 122 = .struct [(0, 1, false), (1, 1, false)] := by kernel_rfl
theorem ti_123 : tiP Tryz.prog 123 = some ⟨false, 1, [.nilIface], .other⟩ := by kernel_rfl
theorem kd_123 : kindP Tryz.prog 123 = .other := by kernel_rfl
theorem ti_124 : tiP Tryz.prog 124 = some ⟨false, 1, [.nilIface], .other⟩ := by kernel_rfl
theorem kd_124 : kindP Tryz.prog 124 = .other := by kernel_rfl
theorem ti_126 : tiP Tryz.prog 126 = some ⟨false, 1, [.nilFunc], .other⟩ := by kernel_rfl
theorem kd_126 : kindP Tryz.prog 126 = .other := by kernel_rfl
theorem ti_127 : tiP Tryz.prog 127 = some ⟨false, 1, [.nilFunc], .other⟩ := by kernel_rfl
theorem kd_127 : kindP Tryz.prog 127 = .other := by kernel_rfl
theorem ti_128 : tiP Tryz.prog 128 = some ⟨false, 1, [.nilFunc], .other⟩ := by kernel_rfl
theorem kd_128 : kindP Tryz.prog 128 = .other := by kernel_rfl
theorem ti_129 : tiP Tryz.prog 129 = some ⟨false, 1, [.nilFunc], .other⟩ := by kernel_rfl
theorem kd_129 : kindP Tryz.prog 129 = .other := by kernel_rfl
theorem ti_130 : tiP Tryz.prog 130 = some ⟨false, 1, [.nilFunc], .other⟩ := by kernel_rfl
theorem kd_130 : kindP Tryz.prog 130 = .other := by kernel_rfl
theorem ti_131 : tiP Tryz.prog 131 = some ⟨false, 1, [.nilFunc], .other⟩ := by kernel_rfl
theorem kd_131 : kindP Tryz.prog 131 = .other := by kernel_rfl
theorem ti_132 : tiP Tryz.prog 132 = some ⟨false, 1, [.nilFunc], .other⟩ := by kernel_rfl
theorem kd_132 : kindP Tryz.prog 132 = .other := by kernel_rfl
theorem ti_133 : tiP Tryz.prog 133 = some ⟨false, 1, [.map none], .map 9 4⟩ := by kernel_rfl
theorem kd_133 : kindP Tryz.prog 133 = .map 9 4 := by kernel_rfl
theorem ti_134 : tiP Tryz.prog 134 = some ⟨false, 1, [.nilFunc], .other⟩ := by kernel_rfl
theorem kd_134 : kindP Tryz.prog 134 = .other := by kernel_rfl
theorem ti_135 : tiP Tryz.prog 135 = some ⟨false, 1, [.nilFunc], .other⟩ := by kernel_rfl
theorem kd_135 : kindP Tryz.prog 135 = .other := by kernel_rfl
theorem ti_136 : tiP Tryz.prog 136 = some ⟨false, 1, [.nilFunc], .other⟩ := by kernel_rfl
theorem kd_136 : kindP Tryz.prog 136 = .other := by kernel_rfl
theorem ti_137 : tiP Tryz.prog 137 = some ⟨false, 1, [.pointer none], .ptr 187⟩ := by kernel_rfl
theorem kd_137 : kindP Tryz.prog 137 = .ptr 187 := by kernel_rfl
theorem ti_138 : tiP Tryz.prog 138 = some ⟨false, 1, [.nilFunc], .other⟩ := by kernel_rfl
theorem kd_138 : kindP Tryz.prog 138 = .other := by kernel_rfl
theorem ti_139 : tiP Tryz.prog 139 = some ⟨true, 6, [.pointer none, .bool false, .bool false, .int .i64 0, .bool false, .int .i64 0], .struct [(0, 1, false), (1, 1, false), (2, 1, false), (3, 1, false), (4, 1, false), (5, 1, false)]⟩ := by kernel_rfl
theorem kd_139 : kindP Tryz.prog 139 = .struct [(0, 1, false), (1, 1, false), (2, 1, false), (3, 1, false), (4, 1, false), (5, 1, false)] := by kernel_rfl
theorem ti_140 : tiP Tryz.prog 140 = some ⟨true, 6, [.pointer none, .bool false, .bool false, .int .i64 0, .bool false, .int .i64 0], .struct [(0, 1, false), (1, 1, false), (2, 1, false), (3, 1, false), (4, 1, false), (5, 1, false)]⟩ := by kernel_rfl
theorem kd_140 : kindP Tryz.prog 140 = .struct [(0, 1, false), (1, 1, false), (2, 1, false), (3, 1, false), (4, 1, false), (5, 1, false)] := by kernel_rfl
theorem ti_141 : tiP Tryz.prog 141 = some ⟨false, 1, [.pointer none], .ptr 149⟩ := by kernel_rfl
theorem kd_141 : kindP Tryz.prog 141 = .ptr 149 := by kernel_rfl
theorem ti_142 : tiP Tryz.prog 142 = some ⟨false, 1, [.nilFunc], .other⟩ := by kernel_rfl
theorem kd_142 : kindP Tryz.prog 142 = .other := by kernel_rfl
theorem ti_143 : tiP Tryz.prog 143 = some ⟨true, 6, [.pointer none, .bool false, .int .i64 0, .bool false, .bool false, .int .i64 0], .struct [(0, 1, false), (1, 1, false), (2, 1, false), (3, 1, false), (4, 1, false), (5, 1, false)]⟩ := by kernel_rfl
theorem kd_143 : kindP Tryz.prog 143 = .struct [(0, 1, false), (1, 1, false), (2, 1, false), (3, 1, false), (4, 1, false), (5, 1, false)] := by kernel_rfl
theorem ti_144 : tiP Tryz.prog 144 = some ⟨true, 6, [.pointer none, .bool false, .int .i64 0, .bool false, .bool false, .int .i64 0], .struct [(0, 1, false), (1, 1, false), (2, 1, false), (3, 1, false), (4, 1, false), (5, 1, false)]⟩ := by kernel_rfl
theorem kd_144 : kindP Tryz.prog 144 = .struct [(0, 1, false), (1, 1, false), (2, 1, false), (3, 1, false), (4, 1, false), (5, 1, false)] := by kernel_rfl
theorem ti_145 : tiP Tryz.prog 145 = some ⟨false, 1, [.map none], .map 9 37⟩ := by kernel_rfl
theorem kd_145 : kindP Tryz.prog 145 = .map 9 37 := by kernel_rfl
theorem ti_146 : tiP Tryz.prog 146 = some ⟨false, 1, [.map none], .map 9 9⟩ := by kernel_rfl
theorem kd_146 : kindP Tryz.prog 146 = .map 9 9 := by kernel_rfl
theorem ti_147 : tiP Tryz.prog 147 = some ⟨false, 1, [.map none], .map 9 41⟩ := by kernel_rfl
theorem kd_147 : kindP Tryz.prog 147 = .map 9 41 := by kernel_rfl
theorem ti_148 : tiP Tryz.prog 148 = some ⟨true, 4, [.slice none 0 0, .map none, .map none, .map none], .struct [(0, 1, false), (1, 1, false), (2, 1, false), (3, 1, false)]⟩ := by kernel_rfl
theorem kd_148 : kindP Tryz.prog 148 = .struct [(0, 1, false), (1, 1, false), (2, 1, false), (3, 1, false)] := by kernel_rfl
theorem ti_149 : tiP Tryz.prog 149 = some ⟨true, 4, [.slice none 0 0, .map none, .map none, .map none], .struct [(0, 1, false), (1, 1, false), (2, 1, false), (3, 1, false)]⟩ := by kernel_rfl
theorem kd_149 : kindP Tryz.prog 149 = .struct [(0, 1, false), (1, 1, false), (2, 1, false), (3, 1, false)] := by kernel_rfl
theorem ti_150 : tiP Tryz.prog 150 = some ⟨false, 1, [.nilFunc], .other⟩ := by kernel_rfl
theorem kd_150 : kindP Tryz.prog 150 = .other := by kernel_rfl
theorem ti_151 : tiP Tryz.prog 151 = some ⟨true, 8, [.slice none 0 0, .slice none 0 0, .slice none 0 0, .slice none 0 0, .slice none 0 0, .slice none 0 0, .slice none 0 0, .slice none 0 0], .arr 2 26 4 true⟩ := by kernel_rfl
theorem kd_151 : kindP Tryz.prog 151 = .arr 2 26 4 true := by kernel_rfl
theorem ti_152 : tiP Tryz.prog 152 = some ⟨false, 1, [.nilFunc], .other⟩ := by kernel_rfl
theorem kd_152 : kindP Tryz.prog 152 = .other := by kernel_rfl
theorem ti_154 : tiP Tryz.prog 154 = some ⟨false, 1, [.nilFunc], .other⟩ := by kernel_rfl
theorem kd_154 : kindP Tryz.prog 154 = .other := by kernel_rfl
theorem ti_156 : tiP Tryz.prog 156 = some ⟨false, 1, [.nilFunc], .other⟩ := by kernel_rfl
theorem kd_156 : kindP Tryz.prog 156 = .other := by kernel_rfl
theorem ti_158 : tiP Tryz.prog 158 = some ⟨false, 1, [.int .u64 0], .int .u64⟩ := by kernel_rfl
theorem kd_158 : kindP Tryz.prog 158 = .int .u64 := by kernel_rfl
theorem ti_159 : tiP Tryz.prog 159 = some ⟨false, 1, [.nilFunc], .other⟩ := by kernel_rfl
theorem kd_159 : kindP Tryz.prog 159 = .other := by kernel_rfl
theorem ti_160 : tiP Tryz.prog 160 = some ⟨false, 1, [.nilFunc], .other⟩ := by kernel_rfl
theorem kd_160 : kindP Tryz.prog 160 = .other := by kernel_rfl
theorem ti_161 : tiP Tryz.prog 161 = some ⟨false, 1, [.nilFunc], .other⟩ := by kernel_rfl
theorem kd_161 : kindP Tryz.prog 161 = .other := by kernel_rfl
theorem ti_162 : tiP Tryz.prog 162 = some ⟨false, 1, [.nilFunc], .other⟩ := by kernel_rfl
theorem kd_162 : kindP Tryz.prog 162 = .other := by kernel_rfl
theorem ti_163 : tiP Tryz.prog 163 = some ⟨false, 1, [.nilFunc], .other⟩ := by kernel_rfl
theorem kd_163 : kindP Tryz.prog 163 = .other := by kernel_rfl
theorem ti_164 : tiP Tryz.prog 164 = some ⟨false, 1, [.nilFunc], .other⟩ := by kernel_rfl
theorem kd_164 : kindP Tryz.prog 164 = .other := by kernel_rfl
theorem ti_166 : tiP Tryz.prog 166 = some ⟨false, 1, [.nilFunc], .other⟩ := by kernel_rfl
theorem kd_166 : kindP Tryz.prog 166 = .other := by kernel_rfl
theorem ti_167 : tiP Tryz.prog 167 = some ⟨false, 1, [.nilFunc], .other⟩ := by kernel_rfl
theorem kd_167 : kindP Tryz.prog 167 = .other := by kernel_rfl
theorem ti_168 : tiP Tryz.prog 168 = some ⟨false, 1, [.nilFunc], .other⟩ := by kernel_rfl
theorem kd_168 : kindP Tryz.prog 168 = .other := by kernel_rfl
theorem ti_169 : tiP Tryz.prog 169 = some ⟨false, 1, [.nilFunc], .other⟩ := by kernel_rfl
theorem kd_169 : kindP Tryz.prog 169 = .other := by kernel_rfl
theorem ti_170 : tiP Tryz.prog 170 = some ⟨false, 1, [.nilFunc], .other⟩ := by kernel_rfl
theorem kd_170 : kindP Tryz.prog 170 = .other := by kernel_rfl
theorem ti_171 : tiP Tryz.prog 171 = some ⟨false, 1, [.nilFunc], .other⟩ := by kernel_rfl
theorem kd_171 : kindP Tryz.prog 171 = .other := by kernel_rfl
theorem ti_172 : tiP Tryz.prog 172 = some ⟨false, 1, [.nilFunc], .other⟩ := by kernel_rfl
theorem kd_172 : kindP Tryz.prog 172 = .other := by kernel_rfl
theorem ti_173 : tiP Tryz.prog 173 = some ⟨false, 1, [.nilFunc], .other⟩ := by kernel_rfl
theorem kd_173 : kindP Tryz.prog 173 = .other := by kernel_rfl
theorem ti_174 : tiP Tryz.prog 174 = some ⟨false, 1, [.nilFunc], .other⟩ := by kernel_rfl
theorem kd_174 : kindP Tryz.prog 174 = .other := by kernel_rfl
theorem ti_175 : tiP Tryz.prog 175 = some ⟨false, 1, [.nilFunc], .other⟩ := by kernel_rfl
theorem kd_175 : kindP Tryz.prog 175 = .other := by kernel_rfl
theorem ti_177 : tiP Tryz.prog 177 = some ⟨false, 1, [.nilFunc], .other⟩ := by kernel_rfl
theorem kd_177 : kindP Tryz.prog 177 = .other := by kernel_rfl
theorem ti_179 : tiP Tryz.prog 179 = some ⟨false, 1, [.nilFunc], .other⟩ := by kernel_rfl
theorem kd_179 : kindP Tryz.prog 179 = .other := by kernel_rfl
theorem ti_180 : tiP Tryz.prog 180 = some ⟨false, 1, [.nilFunc], .other⟩ := by kernel_rfl
theorem kd_180 : kindP Tryz.prog 180 = .other := by kernel_rfl
theorem ti_181 : tiP Tryz.prog 181 = some ⟨false, 1, [.pointer none], .ptr 5⟩ := by kernel_rfl
theorem kd_181 : kindP Tryz.prog 181 = .ptr 5 := by kernel_rfl
theorem ti_182 : tiP Tryz.prog 182 = some ⟨false, 1, [.slice none 0 0], .slice 29 1 8 [.int .i64 0]⟩ := by kernel_rfl
theorem kd_182 : kindP Tryz.prog 182 = .slice 29 1 8 [.int .i64 0] := by kernel_rfl
theorem ti_183 : tiP Tryz.prog 183 = some ⟨false, 1, [.nilFunc], .other⟩ := by kernel_rfl
theorem kd_183 : kindP Tryz.prog 183 = .other := by kernel_rfl
theorem ti_184 : tiP Tryz.prog 184 = some ⟨false, 1, [.map none], .map 9 3⟩ := by kernel_rfl
theorem kd_184 : kindP Tryz.prog 184 = .map 9 3 := by kernel_rfl
theorem ti_185 : tiP Tryz.prog 185 = some ⟨false, 1, [.map none], .map 9 33⟩ := by kernel_rfl
theorem kd_185 : kindP Tryz.prog 185 = .map 9 33 := by kernel_rfl
theorem ti_186 : tiP Tryz.prog 186 = some ⟨true, 5, [.slice none 0 0, .map none, .map none, .map none, .map none], .struct [(0, 1, false), (1, 1, false), (2, 1, false), (3, 1, false), (4, 1, false)]⟩ := by kernel_rfl
theorem kd_186 : kindP Tryz.prog 186 = .struct [(0, 1, false), (1, 1, false), (2, 1, false), (3, 1, false), (4, 1, false)] := by kernel_rfl
theorem ti_187 : tiP Tryz.prog 187 = some ⟨true, 5, [.slice none 0 0, .map none, .map none, .map none, .map none], .struct [(0, 1, false), (1, 1, false), (2, 1, false), (3, 1, false), (4, 1, false)]⟩ := by kernel_rfl
theorem kd_187 : kindP Tryz.prog 187 = .struct [(0, 1, false), (1, 1, false), (2, 1, false), (3, 1, false), (4, 1, false)] := by kernel_rfl
theorem ti_188 : tiP Tryz.prog 188 = some ⟨false, 1, [.nilFunc], .other⟩ := by kernel_rfl
theorem kd_188 : kindP Tryz.prog 188 = .other := by kernel_rfl
theorem ti_189 : tiP Tryz.prog 189 = some ⟨false, 1, [.nilFunc], .other⟩ := by kernel_rfl
theorem kd_189 : kindP Tryz.prog 189 = .other := by kernel_rfl
theorem ti_190 : tiP Tryz.prog 190 = some ⟨false, 1, [.nilFunc], .other⟩ := by kernel_rfl
theorem kd_190 : kindP Tryz.prog 190 = .other := by kernel_rfl
theorem ti_191 : tiP Tryz.prog 191 = some ⟨false, 1, [.nilFunc], .other⟩ := by kernel_rfl
theorem kd_191 : kindP Tryz.prog 191 = .other := by kernel_rfl
theorem ti_192 : tiP Tryz.prog 192 = some ⟨false, 1, [.nilFunc], .other⟩ := by kernel_rfl
theorem kd_192 : kindP Tryz.prog 192 = .other := by kernel_rfl
theorem ti_194 : tiP Tryz.prog 194 = some ⟨false, 1, [.nilFunc], .other⟩ := by kernel_rfl
theorem kd_194 : kindP Tryz.prog 194 = .other := by kernel_rfl
theorem ti_196 : tiP Tryz.prog 196 = some ⟨false, 1, [.nilFunc], .other⟩ := by kernel_rfl
theorem kd_196 : kindP Tryz.prog 196 = .other := by kernel_rfl
theorem ti_198 : tiP Tryz.prog 198 = some ⟨false, 1, [.nilFunc], .other⟩ := by kernel_rfl
theorem kd_198 : kindP Tryz.prog 198 = .other := by kernel_rfl
theorem ti_199 : tiP Tryz.prog 199 = some ⟨false, 1, [.nilFunc], .other⟩ := by kernel_rfl
theorem kd_199 : kindP Tryz.prog 199 = .other := by kernel_rfl
theorem ti_201 : tiP Tryz.prog 201 = some ⟨false, 1, [.nilFunc], .other⟩ := by kernel_rfl
theorem kd_201 : kindP Tryz.prog 201 = .other := by kernel_rfl
theorem ti_202 : tiP Tryz.prog 202 = some ⟨false, 1, [.nilFunc], .other⟩ := by kernel_rfl
theorem kd_202 : kindP Tryz.prog 202 = .other := by kernel_rfl
theorem ti_203 : tiP Tryz.prog 203 = some ⟨false, 1, [.nilFunc], .other⟩ := by kernel_rfl
theorem kd_203 : kindP Tryz.prog 203 = .other := by kernel_rfl
theorem ti_204 : tiP Tryz.prog 204 = some ⟨false, 1, [.nilFunc], .other⟩ := by kernel_rfl
theorem kd_204 : kindP Tryz.prog 204 = .other := by kernel_rfl
theorem ti_206 : tiP Tryz.prog 206 = some ⟨false, 1, [.nilFunc], .other⟩ := by kernel_rfl
theorem kd_206 : kindP Tryz.prog 206 = .other := by kernel_rfl
theorem ti_207 : tiP Tryz.prog 207 = some ⟨false, 1, [.nilFunc], .other⟩ := by kernel_rfl
theorem kd_207 : kindP Tryz.prog 207 = .other := by kernel_rfl
theorem ti_208 : tiP Tryz.prog 208 = some ⟨false, 1, [.nilFunc], .other⟩ := by kernel_rfl
theorem kd_208 : kindP Tryz.prog 208 = .other := by kernel_rfl
theorem ti_209 : tiP Tryz.prog 209 = some ⟨false, 1, [.nilFunc], .other⟩ := by kernel_rfl
theorem kd_209 : kindP Tryz.prog 209 = .other := by kernel_rfl
theorem ti_210 : tiP Tryz.prog 210 = some ⟨false, 1, [.nilFunc], .other⟩ := by kernel_rfl
theorem kd_210 : kindP Tryz.prog 210 = .other := by kernel_rfl
theorem ti_211 : tiP Tryz.prog 211 = some ⟨false, 1, [.nilFunc], .other⟩ := by kernel_rfl
theorem kd_211 : kindP Tryz.prog 211 = .other := by kernel_rfl
theorem ti_212 : tiP Tryz.prog 212 = some ⟨false, 1, [.nilFunc], .other⟩ := by kernel_rfl
theorem kd_212 : kindP Tryz.prog 212 = .other := by kernel_rfl
theorem ti_213 : tiP Tryz.prog 213 = some ⟨false, 1, [.nilFunc], .other⟩ := by kernel_rfl
theorem kd_213 : kindP Tryz.prog 213 = .other := by kernel_rfl
theorem ti_214 : tiP Tryz.prog 214 = some ⟨false, 1, [.pointer none], .other⟩ := by kernel_rfl
theorem kd_214 : kindP Tryz.prog 214 = .other := by kernel_rfl
theorem ti_215 : tiP Tryz.prog 215 = some ⟨false, 1, [.nilFunc], .other⟩ := by kernel_rfl
theorem kd_215 : kindP Tryz.prog 215 = .other := by kernel_rfl
theorem ti_216 : tiP Tryz.prog 216 = some ⟨false, 1, [.nilFunc], .other⟩ := by kernel_rfl
theorem kd_216 : kindP Tryz.prog 216 = .other := by kernel_rfl
theorem ti_217 : tiP Tryz.prog 217 = some ⟨false, 1, [.nilFunc], .other⟩ := by kernel_rfl
theorem kd_217 : kindP Tryz.prog 217 = .other := by kernel_rfl
theorem ti_218 : tiP Tryz.prog 218 = some ⟨false, 1, [.nilFunc], .other⟩ := by kernel_rfl
theorem kd_218 : kindP Tryz.prog 218 = .other := by kernel_rfl
theorem ti_219 : tiP Tryz.prog 219 = some ⟨false, 1, [.nilFunc], .other⟩ := by kernel_rfl
theorem kd_219 : kindP Tryz.prog 219 = .other := by kernel_rfl
theorem ti_220 : tiP Tryz.prog 220 = some ⟨false, 1, [.nilFunc], .other⟩ := by kernel_rfl
theorem kd_220 : kindP Tryz.prog 220 = .other := by kernel_rfl
theorem ti_221 : tiP Tryz.prog 221 = some ⟨false, 1, [.nilFunc], .other⟩ := by kernel_rfl
theorem kd_221 : kindP Tryz.prog 221 = .other := by kernel_rfl
theorem ti_222 : tiP Tryz.prog 222 = some ⟨false, 1, [.nilFunc], .other⟩ := by kernel_rfl
theorem kd_222 : kindP Tryz.prog 222 = .other := by kernel_rfl
theorem ti_223 : tiP Tryz.prog 223 = some ⟨false, 1, [.nilFunc], .other⟩ := by kernel_rfl
theorem kd_223 : kindP Tryz.prog 223 = .other := by kernel_rfl
theorem ti_224 : tiP Tryz.prog 224 = some ⟨false, 1, [.nilFunc], .other⟩ := by kernel_rfl
theorem kd_224 : kindP Tryz.prog 224 = .other := by kernel_rfl
theorem ti_225 : tiP Tryz.prog 225 = some ⟨false, 1, [.nilFunc], .other⟩ := by kernel_rfl
theorem kd_225 : kindP Tryz.prog 225 = .other := by kernel_rfl
theorem ti_226 : tiP Tryz.prog 226 = some ⟨false, 1, [.nilFunc], .other⟩ := by kernel_rfl
theorem kd_226 : kindP Tryz.prog 226 = .other := by kernel_rfl
theorem ti_227 : tiP Tryz.prog 227 = some ⟨false, 1, [.nilFunc], .other⟩ := by kernel_rfl
theorem kd_227 : kindP Tryz.prog 227 = .other := by kernel_rfl
theorem ti_228 : tiP Tryz.prog 228 = some ⟨false, 1, [.nilFunc], .other⟩ := by kernel_rfl
theorem kd_228 : kindP Tryz.prog 228 = .other := by kernel_rfl
theorem ti_229 : tiP Tryz.prog 229 = some ⟨false, 1, [.nilFunc], .other⟩ := by kernel_rfl
theorem kd_229 : kindP Tryz.prog 229 = .other := by kernel_rfl
theorem ti_230 : tiP Tryz.prog 230 = some ⟨true, 24, [.int .u8 0, .int .u8 0, .int .u8 0, .int .u8 0, .int .u8 0, .int .u8 0, .int .u8 0, .int .u8 0, .int .u8 0, .int .u8 0, .int .u8 0, .int .u8 0, .int .u8 0, .int .u8 0, .int .u8 0, .int .u8 0, .int .u8 0, .int .u8 0, .int .u8 0, .int .u8 0, .int .u8 0, .int .u8 0, .int .u8 0, .int .u8 0], .arr 24 5 1 false⟩ := by kernel_rfl
theorem kd_230 : kindP Tryz.prog 230 = .arr 24 5 1 false := by kernel_rfl
theorem ti_231 : tiP Tryz.prog 231 = some ⟨false, 1, [.nilFunc], .other⟩ := by kernel_rfl
theorem kd_231 : kindP Tryz.prog 231 = .other := by kernel_rfl
theorem ti_232 : tiP Tryz.prog 232 = some ⟨false, 1, [.nilFunc], .other⟩ := by kernel_rfl
theorem kd_232 : kindP Tryz.prog 232 = .other := by kernel_rfl
theorem ti_234 : tiP Tryz.prog 234 = some ⟨false, 1, [.nilFunc], .other⟩ := by kernel_rfl
theorem kd_234 : kindP Tryz.prog 234 = .other := by kernel_rfl
theorem ti_235 : tiP Tryz.prog 235 = some ⟨false, 1, [.int .u32 0], .int .u32⟩ := by kernel_rfl
theorem kd_235 : kindP Tryz.prog 235 = .int .u32 := by kernel_rfl
theorem ti_237 : tiP Tryz.prog 237 = some ⟨false, 1, [.nilFunc], .other⟩ := by kernel_rfl
theorem kd_237 : kindP Tryz.prog 237 = .other := by kernel_rfl
theorem ti_239 : tiP Tryz.prog 239 = some ⟨false, 1, [.nilFunc], .other⟩ := by kernel_rfl
theorem kd_239 : kindP Tryz.prog 239 = .other := by kernel_rfl
theorem ti_241 : tiP Tryz.prog 241 = some ⟨false, 1, [.nilFunc], .other⟩ := by kernel_rfl
theorem kd_241 : kindP Tryz.prog 241 = .other := by kernel_rfl
theorem ti_242 : tiP Tryz.prog 242 = some ⟨false, 1, [.nilFunc], .other⟩ := by kernel_rfl
theorem kd_242 : kindP Tryz.prog 242 = .other := by kernel_rfl
theorem ti_243 : tiP Tryz.prog 243 = some ⟨false, 1, [.nilFunc], .other⟩ := by kernel_rfl
theorem kd_243 : kindP Tryz.prog 243 = .other := by kernel_rfl
theorem ti_244 : tiP Tryz.prog 244 = some ⟨false, 1, [.int .i64 0], .int .i64⟩ := by kernel_rfl
theorem kd_244 : kindP Tryz.prog 244 = .int .i64 := by kernel_rfl
theorem ti_246 : tiP Tryz.prog 246 = some ⟨false, 1, [.nilFunc], .other⟩ := by kernel_rfl
theorem kd_246 : kindP Tryz.prog 246 = .other := by kernel_rfl
theorem ti_247 : tiP Tryz.prog 247 = some ⟨false, 1, [.nilFunc], .other⟩ := by kernel_rfl
theorem kd_247 : kindP Tryz.prog 247 = .other := by kernel_rfl
theorem ti_248 : tiP Tryz.prog 248 = some ⟨false, 1, [.nilFunc], .other⟩ := by kernel_rfl
theorem kd_248 : kindP Tryz.prog 248 = .other := by kernel_rfl
theorem ti_249 : tiP Tryz.prog 249 = some ⟨false, 1, [.nilFunc], .other⟩ := by kernel_rfl
theorem kd_249 : kindP Tryz.prog 249 = .other := by kernel_rfl
theorem ti_250 : tiP Tryz.prog 250 = some ⟨false, 1, [.nilFunc], .other⟩ := by kernel_rfl
theorem kd_250 : kindP Tryz.prog 250 = .other := by kernel_rfl
theorem ti_251 : tiP Tryz.prog 251 = some ⟨false, 1, [.nilFunc], .other⟩ := by kernel_rfl
theorem kd_251 : kindP Tryz.prog 251 = .other := by kernel_rfl
theorem ti_252 : tiP Tryz.prog 252 = some ⟨true, 20, [.int .u64 0, .int .u64 0, .int .u64 0, .int .u64 0, .int .u64 0, .int .u64 0, .int .u64 0, .int .u64 0, .int .u64 0, .int .u64 0, .int .u64 0, .int .u64 0, .int .u64 0, .int .u64 0, .int .u64 0, .int .u64 0, .int .u64 0, .int .u64 0, .int .u64 0, .int .u64 0], .arr 20 158 1 false⟩ := by kernel_rfl
theorem kd_252 : kindP Tryz.prog 252 = .arr 20 158 1 false := by kernel_rfl
theorem ti_254 : tiP Tryz.prog 254 = some ⟨false, 1, [.nilFunc], .other⟩ := by kernel_rfl
theorem kd_254 : kindP Tryz.prog 254 = .other := by kernel_rfl
theorem ti_255 : tiP Tryz.prog 255 = some ⟨false, 1, [.nilFunc], .other⟩ := by kernel_rfl
theorem kd_255 : kindP Tryz.prog 255 = .other := by kernel_rfl
theorem ti_256 : tiP Tryz.prog 256 = some ⟨false, 1, [.nilFunc], .other⟩ := by kernel_rfl
theorem kd_256 : kindP Tryz.prog 256 = .other := by kernel_rfl
theorem ti_257 : tiP Tryz.prog 257 = some ⟨false, 1, [.int .u64 0], .int .u64⟩ := by kernel_rfl
theorem kd_257 : kindP Tryz.prog 257 = .int .u64 := by kernel_rfl
theorem ti_258 : tiP Tryz.prog 258 = some ⟨false, 1, [.nilFunc], .other⟩ := by kernel_rfl
theorem kd_258 : kindP Tryz.prog 258 = .other := by kernel_rfl
theorem ti_259 : tiP Tryz.prog 259 = some ⟨false, 1, [.nilFunc], .other⟩ := by kernel_rfl
theorem kd_259 : kindP Tryz.prog 259 = .other := by kernel_rfl
theorem ti_260 : tiP Tryz.prog 260 = some ⟨false, 1, [.nilFunc], .other⟩ := by kernel_rfl
theorem kd_260 : kindP Tryz.prog 260 = .other := by kernel_rfl
theorem ti_261 : tiP Tryz.prog 261 = some ⟨false, 1, [.pointer none], .ptr 3⟩ := by kernel_rfl
theorem kd_261 : kindP Tryz.prog 261 = .ptr 3 := by kernel_rfl
theorem ti_262 : tiP Tryz.prog 262 = some ⟨false, 1, [.nilFunc], .other⟩ := by kernel_rfl
theorem kd_262 : kindP Tryz.prog 262 = .other := by kernel_rfl
theorem ti_264 : tiP Tryz.prog 264 = some ⟨true, 2, [.int .u8 0, .int .u8 0], .struct [(0, 1, false), (1, 1, false)]⟩ := by kernel_rfl
theorem kd_264 : kindP Tryz.prog 264 = .struct [(0, 1, false), (1, 1, false)] := by kernel_rfl
theorem ti_265 : tiP Tryz.prog 265 = some ⟨true, 2, [.int .u8 0, .int .u8 0], .struct [(0, 1, false), (1, 1, false)]⟩ := by kernel_rfl
theorem kd_265 : kindP Tryz.prog 265 = .struct [(0, 1, false), (1, 1, false)] := by kernel_rfl
theorem ti_266 : tiP Tryz.prog 266 = some ⟨true, 32, [.int .u8 0, .int .u8 0, .int .u8 0, .int .u8 0, .int .u8 0, .int .u8 0, .int .u8 0, .int .u8 0, .int .u8 0, .int .u8 0, .int .u8 0, .int .u8 0, .int .u8 0, .int .u8 0, .int .u8 0, .int .u8 0, .int .u8 0, .int .u8 0, .int .u8 0, .int .u8 0, .int .u8 0, .int .u8 0, .int .u8 0, .int .u8 0, .int .u8 0, .int .u8 0, .int .u8 0, .int .u8 0, .int .u8 0, .int .u8 0, .int .u8 0, .int .u8 0], .arr 16 265 2 true⟩ := by kernel_rfl
theorem kd_266 : kindP Tryz.prog 266 = .arr 16 265 2 true := by kernel_rfl
theorem ti_267 : tiP Tryz.prog 267 = some ⟨false, 1, [.pointer none], .ptr 257⟩ := by kernel_rfl
theorem kd_267 : kindP Tryz.prog 267 = .ptr 257 := by kernel_rfl
theorem ti_269 : tiP Tryz.prog 269 = some ⟨false, 1, [.nilFunc], .other⟩ := by kernel_rfl
theorem kd_269 : kindP Tryz.prog 269 = .other := by kernel_rfl
theorem ti_270 : tiP Tryz.prog 270 = some ⟨true, 32, [.int .u8 0, .int .u8 0, .int .u8 0, .int .u8 0, .int .u8 0, .int .u8 0, .int .u8 0, .int .u8 0, .int .u8 0, .int .u8 0, .int .u8 0, .int .u8 0, .int .u8 0, .int .u8 0, .int .u8 0, .int .u8 0, .int .u8 0, .int .u8 0, .int .u8 0, .int .u8 0, .int .u8 0, .int .u8 0, .int .u8 0, .int .u8 0, .int .u8 0, .int .u8 0, .int .u8 0, .int .u8 0, .int .u8 0, .int .u8 0, .int .u8 0, .int .u8 0], .arr 32 5 1 false⟩ := by kernel_rfl
theorem kd_270 : kindP Tryz.prog 270 = .arr 32 5 1 false := by kernel_rfl
theorem ti_272 : tiP Tryz.prog 272 = some ⟨true, 4, [.pointer none, .pointer none, .pointer none, .string ⟨#[]⟩], .struct [(0, 1, false), (1, 1, false), (2, 1, false), (3, 1, false)]⟩ := by kernel_rfl
theorem kd_272 : kindP Tryz.prog 272 = .struct [(0, 1, false), (1, 1, false), (2, 1, false), (3, 1, false)] := by kernel_rfl
theorem ti_273 : tiP Tryz.prog 273 = some ⟨true, 4, [.pointer none, .pointer none, .pointer none, .string ⟨#[]⟩], .struct [(0, 1, false), (1, 1, false), (2, 1, false), (3, 1, false)]⟩ := by kernel_rfl
theorem kd_273 : kindP Tryz.prog 273 = .struct [(0, 1, false), (1, 1, false), (2, 1, false), (3, 1, false)] := by kernel_rfl
theorem ti_274 : tiP Tryz.prog 274 = some ⟨true, 0, [], .arr 0 16 1 false⟩ := by kernel_rfl
theorem kd_274 : kindP Tryz.prog 274 = .arr 0 16 1 false := by kernel_rfl
theorem ti_275 : tiP Tryz.prog 275 = some ⟨true, 0, [], .struct [(0, 0, true)]⟩ := by kernel_rfl
theorem kd_275 : kindP Tryz.prog 275 = .struct [(0, 0, true)] := by kernel_rfl
theorem ti_276 : tiP Tryz.prog 276 = some ⟨true, 0, [], .struct [(0, 0, true)]⟩ := by kernel_rfl
theorem kd_276 : kindP Tryz.prog 276 = .struct [(0, 0, true)] := by kernel_rfl
theorem ti_277 : tiP Tryz.prog 277 = some ⟨false, 1, [.int .u8 0], .int .u8⟩ := by kernel_rfl
theorem kd_277 : kindP Tryz.prog 277 = .int .u8 := by kernel_rfl
theorem ti_278 : tiP Tryz.prog 278 = some ⟨false, 1, [.int .u8 0], .int .u8⟩ := by kernel_rfl
theorem kd_278 : kindP Tryz.prog 278 = .int .u8 := by kernel_rfl
theorem ti_279 : tiP Tryz.prog 279 = some ⟨false, 1, [.nilFunc], .other⟩ := by kernel_rfl
theorem kd_279 : kindP Tryz.prog 279 = .other := by kernel_rfl
theorem ti_280 : tiP Tryz.prog 280 = some ⟨false, 1, [.int .i32 0], .int .i32⟩ := by kernel_rfl
theorem kd_280 : kindP Tryz.prog 280 = .int .i32 := by kernel_rfl
theorem ti_281 : tiP Tryz.prog 281 = some ⟨false, 1, [.int .i32 0], .int .i32⟩ := by kernel_rfl
theorem kd_281 : kindP Tryz.prog 281 = .int .i32 := by kernel_rfl
theorem ti_282 : tiP Tryz.prog 282 = some ⟨true, 11, [.int .u64 0, .int .u64 0, .int .u32 0, .int .u8 0, .int .u8 0, .int .u8 0, .int .u8 0, .nilFunc, .pointer none, .int .i32 0, .int .i32 0], .struct [(0, 1, false), (1, 1, false), (2, 1, false), (3, 1, false), (4, 1, false), (5, 1, false), (6, 1, false), (7, 1, false), (8, 1, false), (9, 1, false), (10, 1, false)]⟩ := by kernel_rfl
theorem kd_282 : kindP Tryz.prog 282 = .struct [(0, 1, false), (1, 1, false), (2, 1, false), (3, 1, false), (4, 1, false), (5, 1, false), (6, 1, false), (7, 1, false), (8, 1, false), (9, 1, false), (10, 1, false)] := by kernel_rfl
theorem ti_283 : tiP Tryz.prog 283 = some ⟨true, 11, [.int .u64 0, .int .u64 0, .int .u32 0, .int .u8 0, .int .u8 0, .int .u8 0, .int .u8 0, .nilFunc, .pointer none, .int .i32 0, .int .i32 0], .struct [(0, 1, false), (1, 1, false), (2, 1, false), (3, 1, false), (4, 1, false), (5, 1, false), (6, 1, false), (7, 1, false), (8, 1, false), (9, 1, false), (10, 1, false)]⟩ := by kernel_rfl
theorem kd_283 : kindP Tryz.prog 283 = .struct [(0, 1, false), (1, 1, false), (2, 1, false), (3, 1, false), (4, 1, false), (5, 1, false), (6, 1, false), (7, 1, false), (8, 1, false), (9, 1, false), (10, 1, false)] := by kernel_rfl
theorem zf_0 : zfP Tryz.prog 0 = false := by kernel_rfl
theorem zf_1 : zfP Tryz.prog 1 = false := by kernel_rfl
theorem zf_2 : zfP Tryz.prog 2 = false := by kernel_rfl
theorem zf_3 : zfP Tryz.prog 3 = false := by kernel_rfl
theorem zf_4 : zfP Tryz.prog 4 = false := by kernel_rfl
theorem zf_5 : zfP Tryz.prog 5 = false := by kernel_rfl
theorem zf_6 : zfP Tryz.prog 6 = false := by kernel_rfl
theorem zf_7 : zfP Tryz.prog 7 = true := by kernel_rfl
theorem zf_8 : zfP Tryz.prog 8 = true := by kernel_rfl
theorem zf_9 : zfP Tryz.prog 9 = false := by kernel_rfl
theorem zf_10 : zfP Tryz.prog 10 = false := by kernel_rfl
theorem zf_11 : zfP Tryz.prog 11 = false := by kernel_rfl
theorem zf_12 : zfP Tryz.prog 12 = false := by kernel_rfl
theorem zf_13 : zfP Tryz.prog 13 = true := by kernel_rfl
theorem zf_14 : zfP Tryz.prog 14 = true := by kernel_rfl
theorem zf_15 : zfP Tryz.prog 15 = false := by kernel_rfl
theorem zf_16 : zfP Tryz.prog 16 = false := by kernel_rfl
theorem zf_17 : zfP Tryz.prog 17 = false := by kernel_rfl
theorem zf_18 : zfP Tryz.prog 18 = true := by kernel_rfl
theorem zf_19 : zfP Tryz.prog 19 = true := by kernel_rfl
theorem zf_20 : zfP Tryz.prog 20 = false := by kernel_rfl
theorem zf_21 : zfP Tryz.prog 21 = false := by kernel_rfl
theorem zf_22 : zfP Tryz.prog 22 = false := by kernel_rfl
theorem zf_23 : zfP Tryz.prog 23 = false := by kernel_rfl
theorem zf_24 : zfP Tryz.prog 24 = false := by kernel_rfl
theorem zf_25 : zfP Tryz.prog 25 = true := by kernel_rfl
theorem zf_26 : zfP Tryz.prog 26 = true := by kernel_rfl
theorem zf_27 : zfP Tryz.prog 27 = false := by kernel_rfl
theorem zf_28 : zfP Tryz.prog 28 = false := by kernel_rfl
theorem zf_29 : zfP Tryz.prog 29 = false := by kernel_rfl
theorem zf_30 : zfP Tryz.prog 30 = false := by kernel_rfl
theorem zf_31 : zfP Tryz.prog 31 = false := by kernel_rfl
theorem zf_32 : zfP Tryz.prog 32 = true := by kernel_rfl
theorem zf_33 : zfP Tryz.prog 33 = true := by kernel_rfl
theorem zf_34 : zfP Tryz.prog 34 = false := by kernel_rfl
theorem zf_35 : zfP Tryz.prog 35 = false := by kernel_rfl
theorem zf_36 : zfP Tryz.prog 36 = true := by kernel_rfl
theorem zf_37 : zfP Tryz.prog 37 = true := by kernel_rfl
theorem zf_38 : zfP Tryz.prog 38 = false := by kernel_rfl
theorem zf_39 : zfP Tryz.prog 39 = false := by kernel_rfl
theorem zf_40 : zfP Tryz.prog 40 = true := by kernel_rfl
theorem zf_41 : zfP Tryz.prog 41 = true := by kernel_rfl
theorem zf_42 : zfP Tryz.prog 42 = false := by kernel_rfl
theorem zf_43 : zfP Tryz.prog 43 = false := by kernel_rfl
theorem zf_44 : zfP Tryz.prog 44 = false := by kernel_rfl
theorem zf_45 : zfP Tryz.prog 45 = false := by kernel_rfl
theorem zf_46 : zfP Tryz.prog 46 = false := by kernel_rfl
theorem zf_47 : zfP Tryz.prog 47 = false := by kernel_rfl
theorem zf_48 : zfP Tryz.prog 48 = false := by kernel_rfl
theorem zf_49 : zfP Tryz.prog 49 = false := by kernel_rfl
theorem zf_50 : zfP Tryz.prog 50 = false := by kernel_rfl
theorem zf_51 : zfP Tryz.prog 51 = false := by kernel_rfl
theorem zf_52 : zfP Tryz.prog 52 = false := by kernel_rfl
theorem zf_53 : zfP Tryz.prog 53 = false := by kernel_rfl
theorem zf_54 : zfP Tryz.prog 54 = false := by kernel_rfl
theorem zf_55 : zfP Tryz.prog 55 = false := by kernel_rfl
theorem zf_56 : zfP Tryz.prog 56 = false := by kernel_rfl
theorem zf_57 : zfP Tryz.prog 57 = false := by kernel_rfl
theorem zf_58 : zfP Tryz.prog 58 = false := by kernel_rfl
theorem zf_59 : zfP Tryz.prog 59 = false := by kernel_rfl
theorem zf_60 : zfP Tryz.prog 60 = false := by kernel_rfl
theorem zf_61 : zfP Tryz.prog 61 = false := by kernel_rfl
theorem zf_62 : zfP Tryz.prog 62 = false := by kernel_rfl
theorem zf_63 : zfP Tryz.prog 63 = false := by kernel_rfl
theorem zf_64 : zfP Tryz.prog 64 = false := by kernel_rfl
theorem zf_65 : zfP Tryz.prog 65 = false := by kernel_rfl
theorem zf_66 : zfP Tryz.prog 66 = false := by kernel_rfl
theorem zf_67 : zfP Tryz.prog 67 = false := by kernel_rfl
theorem zf_68 : zfP Tryz.prog 68 = false := by kernel_rfl
theorem zf_69 : zfP Tryz.prog 69 = false := by kernel_rfl
theorem zf_70 : zfP Tryz.prog 70 = false := by kernel_rfl
theorem zf_71 : zfP Tryz.prog 71 = true := by kernel_rfl
theorem zf_72 : zfP Tryz.prog 72 = true := by kernel_rfl
theorem zf_73 : zfP Tryz.prog 73 = true := by kernel_rfl
theorem zf_74 : zfP Tryz.prog 74 = true := by kernel_rfl
theorem zf_75 : zfP Tryz.prog 75 = false := by kernel_rfl
theorem zf_76 : zfP Tryz.prog 76 = false := by kernel_rfl
theorem zf_77 : zfP Tryz.prog 77 = false := by kernel_rfl
theorem zf_78 : zfP Tryz.prog 78 = false := by kernel_rfl
theorem zf_79 : zfP Tryz.prog 79 = false := by kernel_rfl
theorem zf_80 : zfP Tryz.prog 80 = false := by kernel_rfl
theorem zf_81 : zfP Tryz.prog 81 = false := by kernel_rfl
theorem zf_82 : zfP Tryz.prog 82 = false := by kernel_rfl
theorem zf_83 : zfP Tryz.prog 83 = false := by kernel_rfl
theorem zf_84 : zfP Tryz.prog 84 = false := by kernel_rfl
theorem zf_85 : zfP Tryz.prog 85 = false := by kernel_rfl
theorem zf_86 : zfP Tryz.prog 86 = false := by kernel_rfl
theorem zf_87 : zfP Tryz.prog 87 = false := by kernel_rfl
theorem zf_88 : zfP Tryz.prog 88 = false := by kernel_rfl
theorem zf_89 : zfP Tryz.prog 89 = false := by kernel_rfl
theorem zf_90 : zfP Tryz.prog 90 = false := by kernel_rfl
theorem zf_91 : zfP Tryz.prog 91 = false := by kernel_rfl
theorem zf_92 : zfP Tryz.prog 92 = false := by kernel_rfl
theorem zf_93 : zfP Tryz.prog 93 = false := by kernel_rfl
theorem zf_94 : zfP Tryz.prog 94 = false := by kernel_rfl
theorem zf_95 : zfP Tryz.prog 95 = false := by kernel_rfl
theorem zf_96 : zfP Tryz.prog 96 = false := by kernel_rfl
theorem zf_97 : zfP Tryz.prog 97 = false := by kernel_rfl
theorem zf_98 : zfP Tryz.prog 98 = false := by kernel_rfl
theorem zf_99 : zfP Tryz.prog 99 = false := by kernel_rfl
theorem zf_100 : zfP Tryz.prog 100 = false := by kernel_rfl
theorem zf_101 : zfP Tryz.prog 101 = false := by kernel_rfl
theorem zf_102 : zfP Tryz.prog 102 = false := by kernel_rfl
theorem zf_103 : zfP Tryz.prog 103 = false := by kernel_rfl
theorem zf_104 : zfP Tryz.prog 104 = false := by kernel_rfl
theorem zf_105 : zfP Tryz.prog 105 = false := by kernel_rfl
theorem zf_106 : zfP Tryz.prog 106 = false := by kernel_rfl
theorem zf_107 : zfP Tryz.prog 107 = false := by kernel_rfl
theorem zf_108 : zfP Tryz.prog 108 = false := by kernel_rfl
theorem zf_109 : zfP Tryz.prog 109 = false := by kernel_rfl
theorem zf_110 : zfP Tryz.prog 110 = false := by kernel_rfl
theorem zf_111 : zfP Tryz.prog 111 = false := by kernel_rfl
theorem zf_112 : zfP Tryz.prog 112 = false := by kernel_rfl
theorem zf_113 : zfP Tryz.prog 113 = false := by kernel_rfl
theorem zf_114 : zfP Tryz.prog 114 = false := by kernel_rfl
theorem zf_115 : zfP Tryz.prog 115 = false := by kernel_rfl
theorem zf_116 : zfP Tryz.prog 116 = true := by kernel_rfl
theorem zf_117 : zfP Tryz.prog 117 = true := by kernel_rfl
theorem zf_118 : zfP Tryz.prog 118 = false := by kernel_rfl
theorem zf_119 : zfP Tryz.prog 119 = false := by kernel_rfl
theorem zf_120 : zfP Tryz.prog 120 = false := by kernel_rfl
theorem zf_121 : zfP Tryz.prog 121 = true := by kernel_rfl
theorem zf_122 : zfP Tryz.prog 122 = true := by kernel_rfl
theorem zf_123 : zfP Tryz.prog 123 = false := by kernel_rfl
theorem zf_124 : zfP Tryz.prog 124 = false := by kernel_rfl
theorem zf_125 : zfP Tryz.prog 125 = false := by kernel_rfl
theorem zf_126 : zfP Tryz.prog 126 = false := by kernel_rfl
theorem zf_127 : zfP Tryz.prog 127 = false := by kernel_rfl
theorem zf_128 : zfP Tryz.prog 128 = false := by kernel_rfl
theorem zf_129 : zfP Tryz.prog 129 = false := by kernel_rfl
theorem zf_130 : zfP Tryz.prog 130 = false := by kernel_rfl
theorem zf_131 : zfP Tryz.prog 131 = false := by kernel_rfl
theorem zf_132 : zfP Tryz.prog 132 = false := by kernel_rfl
theorem zf_133 : zfP Tryz.prog 133 = false := by kernel_rfl
theorem zf_134 : zfP Tryz.prog 134 = false := by kernel_rfl
theorem zf_135 : zfP Tryz.prog 135 = false := by kernel_rfl
theorem zf_136 : zfP Tryz.prog 136 = false := by kernel_rfl
theorem zf_137 : zfP Tryz.prog 137 = false := by kernel_rfl
theorem zf_138 : zfP Tryz.prog 138 = false := by kernel_rfl
theorem zf_139 : zfP Tryz.prog 139 = true := by kernel_rfl
theorem zf_140 : zfP Tryz.prog 140 = true := by kernel_rfl
theorem zf_141 : zfP Tryz.prog 141 = false := by kernel_rfl
theorem zf_142 : zfP Tryz.prog 142 = false := by kernel_rfl
theorem zf_143 : zfP Tryz.prog 143 = true := by kernel_rfl
theorem zf_144 : zfP Tryz.prog 144 = true := by kernel_rfl
theorem zf_145 : zfP Tryz.prog 145 = false := by kernel_rfl
theorem zf_146 : zfP Tryz.prog 146 = false := by kernel_rfl
theorem zf_147 : zfP Tryz.prog 147 = false := by kernel_rfl
theorem zf_148 : zfP Tryz.prog 148 = true := by kernel_rfl
theorem zf_149 : zfP Tryz.prog 149 = true := by kernel_rfl
theorem zf_150 : zfP Tryz.prog 150 = false := by kernel_rfl
theorem zf_151 : zfP Tryz.prog 151 = true := by kernel_rfl
theorem zf_152 : zfP Tryz.prog 152 = false := by kernel_rfl
theorem zf_153 : zfP Tryz.prog 153 = false := by kernel_rfl
theorem zf_154 : zfP Tryz.prog 154 = false := by kernel_rfl
theorem zf_155 : zfP Tryz.prog 155 = false := by kernel_rfl
theorem zf_156 : zfP Tryz.prog 156 = false := by kernel_rfl
theorem zf_157 : zfP Tryz.prog 157 = false := by kernel_rfl
theorem zf_158 : zfP Tryz.prog 158 = false := by kernel_rfl
theorem zf_159 : zfP Tryz.prog 159 = false := by kernel_rfl
theorem zf_160 : zfP Tryz.prog 160 = false := by kernel_rfl
theorem zf_161 : zfP Tryz.prog 161 = false := by kernel_rfl
theorem zf_162 : zfP Tryz.prog 162 = false := by kernel_rfl
theorem zf_163 : zfP Tryz.prog 163 = false := by kernel_rfl
theorem zf_164 : zfP Tryz.prog 164 = false := by kernel_rfl
theorem zf_165 : zfP Tryz.prog 165 = false := by kernel_rfl
theorem zf_166 : zfP Tryz.prog 166 = false := by kernel_rfl
theorem zf_167 : zfP Tryz.prog 167 = false := by kernel_rfl
theorem zf_168 : zfP Tryz.prog 168 = false := by kernel_rfl
theorem zf_169 : zfP Tryz.prog 169 = false := by kernel_rfl
theorem zf_170 : zfP Tryz.prog 170 = false := by kernel_rfl
theorem zf_171 : zfP Tryz.prog 171 = false := by kernel_rfl
theorem zf_172 : zfP Tryz.prog 172 = false := by kernel_rfl
theorem zf_173 : zfP Tryz.prog 173 = false := by kernel_rfl
theorem zf_174 : zfP Tryz.prog 174 = false := by kernel_rfl
theorem zf_175 : zfP Tryz.prog 175 = false := by kernel_rfl
theorem zf_176 : zfP Tryz.prog 176 = false := by kernel_rfl
theorem zf_177 : zfP Tryz.prog 177 = false := by kernel_rfl
theorem zf_178 : zfP Tryz.prog 178 = false := by kernel_rfl
theorem zf_179 : zfP Tryz.prog 179 = false := by kernel_rfl
theorem zf_180 : zfP Tryz.prog 180 = false := by kernel_rfl
theorem zf_181 : zfP Tryz.prog 181 = false := by kernel_rfl
theorem zf_182 : zfP Tryz.prog 182 = false := by kernel_rfl
theorem zf_183 : zfP Tryz.prog 183 = false := by kernel_rfl
theorem zf_184 : zfP Tryz.prog 184 = false := by kernel_rfl
theorem zf_185 : zfP Tryz.prog 185 = false := by kernel_rfl
theorem zf_186 : zfP Tryz.prog 186 = true := by kernel_rfl
theorem zf_187 : zfP Tryz.prog 187 = true := by kernel_rfl
theorem zf_188 : zfP Tryz.prog 188 = false := by kernel_rfl
theorem zf_189 : zfP Tryz.prog 189 = false := by kernel_rfl
theorem zf_190 : zfP Tryz.prog 190 = false := by kernel_rfl
theorem zf_191 : zfP Tryz.prog 191 = false := by kernel_rfl
theorem zf_192 : zfP Tryz.prog 192 = false := by kernel_rfl
theorem zf_193 : zfP Tryz.prog 193 = false := by kernel_rfl
theorem zf_194 : zfP Tryz.prog 194 = false := by kernel_rfl
theorem zf_195 : zfP Tryz.prog 195 = false := by kernel_rfl
theorem zf_196 : zfP Tryz.prog 196 = false := by kernel_rfl
theorem zf_197 : zfP Tryz.prog 197 = false := by kernel_rfl
theorem zf_198 : zfP Tryz.prog 198 = false := by kernel_rfl
theorem zf_199 : zfP Tryz.prog 199 = false := by kernel_rfl
theorem zf_200 : zfP Tryz.prog 200 = false := by kernel_rfl
theorem zf_201 : zfP Tryz.prog 201 = false := by kernel_rfl
theorem zf_202 : zfP Tryz.prog 202 = false := by kernel_rfl
theorem zf_203 : zfP Tryz.prog 203 = false := by kernel_rfl
theorem zf_204 : zfP Tryz.prog 204 = false := by kernel_rfl
theorem zf_205 : zfP Tryz.prog 205 = false := by kernel_rfl
theorem zf_206 : zfP Tryz.prog 206 = false := by kernel_rfl
theorem zf_207 : zfP Tryz.prog 207 = false := by kernel_rfl
theorem zf_208 : zfP Tryz.prog 208 = false := by kernel_rfl
theorem zf_209 : zfP Tryz.prog 209 = false := by kernel_rfl
theorem zf_210 : zfP Tryz.prog 210 = false := by kernel_rfl
theorem zf_211 : zfP Tryz.prog 211 = false := by kernel_rfl
theorem zf_212 : zfP Tryz.prog 212 = false := by kernel_rfl
theorem zf_213 : zfP Tryz.prog 213 = false := by kernel_rfl
theorem zf_214 : zfP Tryz.prog 214 = false := by kernel_rfl
theorem zf_215 : zfP Tryz.prog 215 = false := by kernel_rfl
theorem zf_216 : zfP Tryz.prog 216 = false := by kernel_rfl
theorem zf_217 : zfP Tryz.prog 217 = false := by kernel_rfl
theorem zf_218 : zfP Tryz.prog 218 = false := by kernel_rfl
theorem zf_219 : zfP Tryz.prog 219 = false := by kernel_rfl
theorem zf_220 : zfP Tryz.prog 220 = false := by kernel_rfl
theorem zf_221 : zfP Tryz.prog 221 = false := by kernel_rfl
theorem zf_222 : zfP Tryz.prog 222 = false := by kernel_rfl
theorem zf_223 : zfP Tryz.prog 223 = false := by kernel_rfl
theorem zf_224 : zfP Tryz.prog 224 = false := by kernel_rfl
theorem zf_225 : zfP Tryz.prog 225 = false := by kernel_rfl
theorem zf_226 : zfP Tryz.prog 226 = false := by kernel_rfl
theorem zf_227 : zfP Tryz.prog 227 = false := by kernel_rfl
theorem zf_228 : zfP Tryz.prog 228 = false := by kernel_rfl
theorem zf_229 : zfP Tryz.prog 229 = false := by kernel_rfl
theorem zf_230 : zfP Tryz.prog 230 = true := by kernel_rfl
theorem zf_231 : zfP Tryz.prog 231 = false := by kernel_rfl
theorem zf_232 : zfP Tryz.prog 232 = false := by kernel_rfl
theorem zf_233 : zfP Tryz.prog 233 = false := by kernel_rfl
theorem zf_234 : zfP Tryz.prog 234 = false := by kernel_rfl
theorem zf_235 : zfP Tryz.prog 235 = false := by kernel_rfl
theorem zf_236 : zfP Tryz.prog 236 = false := by kernel_rfl
theorem zf_237 : zfP Tryz.prog 237 = false := by kernel_rfl
theorem zf_238 : zfP Tryz.prog 238 = false := by kernel_rfl
theorem zf_239 : zfP Tryz.prog 239 = false := by kernel_rfl
theorem zf_240 : zfP Tryz.prog 240 = false := by kernel_rfl
theorem zf_241 : zfP Tryz.prog 241 = false := by kernel_rfl
theorem zf_242 : zfP Tryz.prog 242 = false := by kernel_rfl
theorem zf_243 : zfP Tryz.prog 243 = false := by kernel_rfl
theorem zf_244 : zfP Tryz.prog 244 = false := by kernel_rfl
theorem zf_245 : zfP Tryz.prog 245 = false := by kernel_rfl
theorem zf_246 : zfP Tryz.prog 246 = false := by kernel_rfl
theorem zf_247 : zfP Tryz.prog 247 = false := by kernel_rfl
theorem zf_248 : zfP Tryz.prog 248 = false := by kernel_rfl
theorem zf_249 : zfP Tryz.prog 249 = false := by kernel_rfl
theorem zf_250 : zfP Tryz.prog 250 = false := by kernel_rfl
theorem zf_251 : zfP Tryz.prog 251 = false := by kernel_rfl
theorem zf_252 : zfP Tryz.prog 252 = true := by kernel_rfl
theorem zf_253 : zfP Tryz.prog 253 = true := by kernel_rfl
theorem zf_254 : zfP Tryz.prog 254 = false := by kernel_rfl
theorem zf_255 : zfP Tryz.prog 255 = false := by kernel_rfl
theorem zf_256 : zfP Tryz.prog 256 = false := by kernel_rfl
theorem zf_257 : zfP Tryz.prog 257 = false := by kernel_rfl
theorem zf_258 : zfP Tryz.prog 258 = false := by kernel_rfl
theorem zf_259 : zfP Tryz.prog 259 = false := by kernel_rfl
theorem zf_260 : zfP Tryz.prog 260 = false := by kernel_rfl
theorem zf_261 : zfP Tryz.prog 261 = false := by kernel_rfl
theorem zf_262 : zfP Tryz.prog 262 = false := by kernel_rfl
theorem zf_263 : zfP Tryz.prog 263 = true := by kernel_rfl
theorem zf_264 : zfP Tryz.prog 264 = true := by kernel_rfl
theorem zf_265 : zfP Tryz.prog 265 = true := by kernel_rfl
theorem zf_266 : zfP Tryz.prog 266 = true := by kernel_rfl
theorem zf_267 : zfP Tryz.prog 267 = false := by kernel_rfl
theorem zf_268 : zfP Tryz.prog 268 = false := by kernel_rfl
theorem zf_269 : zfP Tryz.prog 269 = false := by kernel_rfl
theorem zf_270 : zfP Tryz.prog 270 = true := by kernel_rfl
theorem zf_271 : zfP Tryz.prog 271 = true := by kernel_rfl
theorem zf_272 : zfP Tryz.prog 272 = true := by kernel_rfl
theorem zf_273 : zfP Tryz.prog 273 = true := by kernel_rfl
theorem zf_274 : zfP Tryz.prog 274 = true := by kernel_rfl
theorem zf_275 : zfP Tryz.prog 275 = true := by kernel_rfl
theorem zf_276 : zfP Tryz.prog 276 = true := by kernel_rfl
theorem zf_277 : zfP Tryz.prog 277 = false := by kernel_rfl
theorem zf_278 : zfP Tryz.prog 278 = false := by kernel_rfl
theorem zf_279 : zfP Tryz.prog 279 = false := by kernel_rfl
theorem zf_280 : zfP Tryz.prog 280 = false := by kernel_rfl
theorem zf_281 : zfP Tryz.prog 281 = false := by kernel_rfl
theorem zf_282 : zfP Tryz.prog 282 = true := by kernel_rfl
theorem zf_283 : zfP Tryz.prog 283 = true := by kernel_rfl
theorem zf_284 : zfP Tryz.prog 284 = false := by kernel_rfl
theorem zf_285 : zfP Tryz.prog 285 = false := by kernel_rfl
theorem zf_286 : zfP Tryz.prog 286 = false := by kernel_rfl
theorem zf_287 : zfP Tryz.prog 287 = false := by kernel_rfl
theorem zf_288 : zfP Tryz.prog 288 = false := by kernel_rfl
theorem zf_289 : zfP Tryz.prog 289 = false := by kernel_rfl
theorem zf_290 : zfP Tryz.prog 290 = false := by kernel_rfl
theorem zf_291 : zfP Tryz.prog 291 = false := by kernel_rfl
theorem zf_292 : zfP Tryz.prog 292 = false := by kernel_rfl
theorem zf_293 : zfP Tryz.prog 293 = false := by kernel_rfl
theorem zf_294 : zfP Tryz.prog 294 = false := by kernel_rfl
theorem zf_295 : zfP Tryz.prog 295 = false := by kernel_rfl
theorem zf_296 : zfP Tryz.prog 296 = false := by kernel_rfl
theorem zf_297 : zfP Tryz.prog 297 = false := by kernel_rfl
theorem zf_298 : zfP Tryz.prog 298 = false := by kernel_rfl
theorem zf_299 : zfP Tryz.prog 299 = false := by kernel_rfl
theorem eq_7 : eqTyP Tryz.prog 7 = some [.i .i64, .i .i64, .b, .i .u8] := by kernel_rfl
theorem ag_7 : aggP Tryz.prog 7 = true := by kernel_rfl
theorem eq_8 : eqTyP Tryz.prog 8 = some [.i .i64, .i .i64, .b, .i .u8] := by kernel_rfl
theorem ag_8 : aggP Tryz.prog 8 = true := by kernel_rfl
theorem eq_32 : eqTyP Tryz.prog 32 = some [.s, .s] := by kernel_rfl
theorem ag_32 : aggP Tryz.prog 32 = true := by kernel_rfl
theorem eq_33 : eqTyP Tryz.prog 33 = some [.s, .s] := by kernel_rfl
theorem ag_33 : aggP Tryz.prog 33 = true := by kernel_rfl
theorem eq_36 : eqTyP Tryz.prog 36 = some [.s, .s, .b] := by kernel_rfl
theorem ag_36 : aggP Tryz.prog 36 = true := by kernel_rfl
theorem eq_37 : eqTyP Tryz.prog 37 = some [.s, .s, .b] := by kernel_rfl
theorem ag_37 : aggP Tryz.prog 37 = true := by kernel_rfl
theorem eq_40 : eqTyP Tryz.prog 40 = some [.s, .s, .b, .b] := by kernel_rfl
theorem ag_40 : aggP Tryz.prog 40 = true := by kernel_rfl
theorem eq_41 : eqTyP Tryz.prog 41 = some [.s, .s, .b, .b] := by kernel_rfl
theorem ag_41 : aggP Tryz.prog 41 = true := by kernel_rfl
theorem eq_71 : eqTyP Tryz.prog 71 = some [.i .i64, .s, .s, .b, .s, .s, .s, .s, .b, .b] := by kernel_rfl
theorem ag_71 : aggP Tryz.prog 71 = true := by kernel_rfl
theorem eq_72 : eqTyP Tryz.prog 72 = some [.i .i64, .s, .s, .b, .s, .s, .s, .s, .b, .b] := by kernel_rfl
theorem ag_72 : aggP Tryz.prog 72 = true := by kernel_rfl
theorem eq_73 : eqTyP Tryz.prog 73 = some [.i .i64, .i .i64, .s, .s, .b, .s, .s, .s, .s, .b, .b, .i .i64, .b] := by kernel_rfl
theorem ag_73 : aggP Tryz.prog 73 = true := by kernel_rfl
theorem eq_74 : eqTyP Tryz.prog 74 = some [.i .i64, .i .i64, .s, .s, .b, .s, .s, .s, .s, .b, .b, .i .i64, .b] := by kernel_rfl
theorem ag_74 : aggP Tryz.prog 74 = true := by kernel_rfl
theorem eq_116 : eqTyP Tryz.prog 116 = some [.s, .s, .s, .b, .s, .s, .s, .s, .b, .b] := by kernel_rfl
theorem ag_116 : aggP Tryz.prog 116 = true := by kernel_rfl
theorem eq_117 : eqTyP Tryz.prog 117 = some [.s, .s, .s, .b, .s, .s, .s, .s, .b, .b] := by kernel_rfl
theorem ag_117 : aggP Tryz.prog 117 = true := by kernel_rfl
theorem eq_264 : eqTyP Tryz.prog 264 = some [.i .u8, .i .u8] := by kernel_rfl
theorem ag_264 : aggP Tryz.prog 264 = true := by kernel_rfl
theorem eq_265 : eqTyP Tryz.prog 265 = some [.i .u8, .i .u8] := by kernel_rfl
theorem ag_265 : aggP Tryz.prog 265 = true := by kernel_rfl
attribute [go_sem] ti_0 kd_0 ti_1 kd_1 ti_2 kd_2 ti_3 kd_3 ti_4 kd_4 ti_5 kd_5 ti_6 kd_6 ti_7 kd_7 ti_8 kd_8 ti_9 kd_9 ti_10 kd_10 ti_11 kd_11 ti_12 kd_12 ti_13 kd_13 ti_14 kd_14 ti_15 kd_15 ti_16 kd_16 ti_17 kd_17 ti_18 kd_18 ti_19 kd_19
attribute [go_sem] ti_20 kd_20 ti_21 kd_21 ti_22 kd_22 ti_23 kd_23 ti_24 kd_24 ti_25 kd_25 ti_26 kd_26 ti_27 kd_27 ti_28 kd_28 ti_29 kd_29 ti_30 kd_30 ti_31 kd_31 ti_32 kd_32 ti_33 kd_33 ti_34 kd_34 ti_35 kd_35 ti_36 kd_36 ti_37 kd_37 ti_38 kd_38 ti_39 kd_39
attribute [go_sem] ti_40 kd_40 ti_41 kd_41 ti_42 kd_42 ti_44 kd_44 ti_45 kd_45 ti_47 kd_47 ti_49 kd_49 ti_50 kd_50 ti_52 kd_52 ti_53 kd_53 ti_54 kd_54 ti_55 kd_55 ti_56 kd_56 ti_57 kd_57 ti_58 kd_58 ti_60 kd_60 ti_61 kd_61 ti_62 kd_62 ti_63 kd_63 ti_64 kd_64
attribute [go_sem] ti_65 kd_65 ti_66 kd_66 ti_68 kd_68 ti_69 kd_69 ti_70 kd_70 ti_71 kd_71 ti_72 kd_72 ti_73 kd_73 ti_74 kd_74 ti_75 kd_75 ti_76 kd_76 ti_77 kd_77 ti_79 kd_79 ti_80 kd_80 ti_81 kd_81 ti_82 kd_82 ti_83 kd_83 ti_84 kd_84 ti_86 kd_86 ti_87 kd_87
attribute [go_sem] ti_88 kd_88 ti_89 kd_89 ti_90 kd_90 ti_91 kd_91 ti_92 kd_92 ti_94 kd_94 ti_95 kd_95 ti_96 kd_96 ti_97 kd_97 ti_98 kd_98 ti_99 kd_99 ti_100 kd_100 ti_101 kd_101 ti_102 kd_102 ti_104 kd_104 ti_105 kd_105 ti_106 kd_106 ti_107 kd_107 ti_108 kd_108 ti_109 kd_109
attribute [go_sem] ti_110 kd_110 ti_111 kd_111 ti_112 kd_112 ti_114 kd_114 ti_115 kd_115 ti_116 kd_116 ti_117 kd_117 ti_118 kd_118 ti_119 kd_119 ti_120 kd_120 ti_121 kd_121 ti_122 kd_122 ti_123 kd_123 ti_124 kd_124 ti_126 kd_126 ti_127 kd_127 ti_128 kd_128 ti_129 kd_129 ti_130 kd_130 ti_131 kd_131
attribute [go_sem] ti_132 kd_132 ti_133 kd_133 ti_134 kd_134 ti_135 kd_135 ti_136 kd_136 ti_137 kd_137 ti_138 kd_138 ti_139 kd_139 ti_140 kd_140 ti_141 kd_141 ti_142 kd_142 ti_143 kd_143 ti_144 kd_144 ti_145 kd_145 ti_146 kd_146 ti_147 kd_147 ti_148 kd_148 ti_149 kd_149 ti_150 kd_150 ti_151 kd_151
attribute [go_sem] ti_152 kd_152 ti_154 kd_154 ti_156 kd_156 ti_158 kd_158 ti_159 kd_159 ti_160 kd_160 ti_161 kd_161 ti_162 kd_162 ti_163 kd_163 ti_164 kd_164 ti_166 kd_166 ti_167 kd_167 ti_168 kd_168 ti_169 kd_169 ti_170 kd_170 ti_171 kd_171 ti_172 kd_172 ti_173 kd_173 ti_174 kd_174 ti_175 kd_175
attribute [go_sem] ti_177 kd_177 ti_179 kd_179 ti_180 kd_180 ti_181 kd_181 ti_182 kd_182 ti_183 kd_183 ti_184 kd_184 ti_185 kd_185 ti_186 kd_186 ti_187 kd_187 ti_188 kd_188 ti_189 kd_189 ti_190 kd_190 ti_191 kd_191 ti_192 kd_192 ti_194 kd_194 ti_196 kd_196 ti_198 kd_198 ti_199 kd_199 ti_201 kd_201
attribute [go_sem] ti_202 kd_202 ti_203 kd_203 ti_204 kd_204 ti_206 kd_206 ti_207 kd_207 ti_208 kd_208 ti_209 kd_209 ti_210 kd_210 ti_211 kd_211 ti_212 kd_212 ti_213 kd_213 ti_214 kd_214 ti_215 kd_215 ti_216 kd_216 ti_217 kd_217 ti_218 kd_218 ti_219 kd_219 ti_220 kd_220 ti_221 kd_221 ti_222 kd_222
attribute [go_sem] ti_223 kd_223 ti_224 kd_224 ti_225 kd_225 ti_226 kd_226 ti_227 kd_227 ti_228 kd_228 ti_229 kd_229 ti_230 kd_230 ti_231 kd_231 ti_232 kd_232 ti_234 kd_234 ti_235 kd_235 ti_237 kd_237 ti_239 kd_239 ti_241 kd_241 ti_242 kd_242 ti_243 kd_243 ti_244 kd_244 ti_246 kd_246 ti_247 kd_247
attribute [go_sem] ti_248 kd_248 ti_249 kd_249 ti_250 kd_250 ti_251 kd_251 ti_252 kd_252 ti_254 kd_254 ti_255 kd_255 ti_256 kd_256 ti_257 kd_257 ti_258 kd_258 ti_259 kd_259 ti_260 kd_260 ti_261 kd_261 ti_262 kd_262 ti_264 kd_264 ti_265 kd_265 ti_266 kd_266 ti_267 kd_267 ti_269 kd_269 ti_270 kd_270
attribute [go_sem] ti_272 kd_272 ti_273 kd_273 ti_274 kd_274 ti_275 kd_275 ti_276 kd_276 ti_277 kd_277 ti_278 kd_278 ti_279 kd_279 ti_280 kd_280 ti_281 kd_281 ti_282 kd_282 ti_283 kd_283 zf_0 zf_1 zf_2 zf_3 zf_4 zf_5 zf_6 zf_7 zf_8 zf_9 zf_10 zf_11 zf_12 zf_13 zf_14 zf_15
attribute [go_sem] zf_16 zf_17 zf_18 zf_19 zf_20 zf_21 zf_22 zf_23 zf_24 zf_25 zf_26 zf_27 zf_28 zf_29 zf_30 zf_31 zf_32 zf_33 zf_34 zf_35 zf_36 zf_37 zf_38 zf_39 zf_40 zf_41 zf_42 zf_43 zf_44 zf_45 zf_46 zf_47 zf_48 zf_49 zf_50 zf_51 zf_52 zf_53 zf_54 zf_55
attribute [go_sem] zf_56 zf_57 zf_58 zf_59 zf_60 zf_61 zf_62 zf_63 zf_64 zf_65 zf_66 zf_67 zf_68 zf_69 zf_70 zf_71 zf_72 zf_73 zf_74 zf_75 zf_76 zf_77 zf_78 zf_79 zf_80 zf_81 zf_82 zf_83 zf_84 zf_85 zf_86 zf_87 zf_88 zf_89 zf_90 zf_91 zf_92 zf_93 zf_94 zf_95
attribute [go_sem] zf_96 zf_97 zf_98 zf_99 zf_100 zf_101 zf_102 zf_103 zf_104 zf_105 zf_106 zf_107 zf_108 zf_109 zf_110 zf_111 zf_112 zf_113 zf_114 zf_115 zf_116 zf_117 zf_118 zf_119 zf_120 zf_121 zf_122 zf_123 zf_124 zf_125 zf_126 zf_127 zf_128 zf_129 zf_130 zf_131 zf_132 zf_133 zf_134 zf_135
attribute [go_sem] zf_136 zf_137 zf_138 zf_139 zf_140 zf_141 zf_142 zf_143 zf_144 zf_145 zf_146 zf_147 zf_148 zf_149 zf_150 zf_151 zf_152 zf_153 zf_154 zf_155 zf_156 zf_157 zf_158 zf_159 zf_160 zf_161 zf_162 zf_163 zf_164 zf_165 zf_166 zf_167 zf_168 zf_169 zf_170 zf_171 zf_172 zf_173 zf_174 zf_175
attribute [go_sem] zf_176 zf_177 zf_178 zf_179 zf_180 zf_181 zf_182 zf_183 zf_184 zf_185 zf_186 zf_187 zf_188 zf_189 zf_190 zf_191 zf_192 zf_193 zf_194 zf_195 zf_196 zf_197 zf_198 zf_199 zf_200 zf_201 zf_202 zf_203 zf_204 zf_205 zf_206 zf_207 zf_208 zf_209 zf_210 zf_211 zf_212 zf_213 zf_214 zf_215
attribute [go_sem] zf_216 zf_217 zf_218 zf_219 zf_220 zf_221 zf_222 zf_223 zf_224 zf_225 zf_226 zf_227 zf_228 zf_229 zf_230 zf_231 zf_232 zf_233 zf_234 zf_235 zf_236 zf_237 zf_238 zf_239 zf_240 zf_241 zf_242 zf_243 zf_244 zf_245 zf_246 zf_247 zf_248 zf_249 zf_250 zf_251 zf_252 zf_253 zf_254 zf_255
attribute [go_sem] zf_256 zf_257 zf_258 zf_259 zf_260 zf_261 zf_262 zf_263 zf_264 zf_265 zf_266 zf_267 zf_268 zf_269 zf_270 zf_271 zf_272 zf_273 zf_274 zf_275 zf_276 zf_277 zf_278 zf_279 zf_280 zf_281 zf_282 zf_283 zf_284 zf_285 zf_286 zf_287 zf_288 zf_289 zf_290 zf_291 zf_292 zf_293 zf_294 zf_295
attribute [go_sem] zf_296 zf_297 zf_298 zf_299 eq_7 ag_7 eq_8 ag_8 eq_32 ag_32 eq_33 ag_33 eq_36 ag_36 eq_37 ag_37 eq_40 ag_40 eq_41 ag_41 eq_71 ag_71 eq_72 ag_72 eq_73 ag_73 eq_74 ag_74 eq_116 ag_116 eq_117 ag_117 eq_264 ag_264 eq_265 ag_265
end Go.Proofs.YtbfemlilfeahkaaGreatDoor
