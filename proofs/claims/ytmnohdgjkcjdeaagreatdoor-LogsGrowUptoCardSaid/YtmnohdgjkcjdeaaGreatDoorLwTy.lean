/- What the program's types are, as the machine reads them. -/
import Derived.Test.YtmnohdgjkcjdeaaGreatDoorVc3
import Derived.Test.YtmnohdgjkcjdeaaGreatDoorProg
import Derived.KernelRfl
namespace Go.Proofs.YtmnohdgjkcjdeaaGreatDoor
open Go.Vc
theorem ti_0 : tiP Tryz.prog 0 = some ⟨false, 1, [.tuple #[]], .other⟩ := by kernel_rfl
theorem kd_0 : kindP Tryz.prog 0 = .other := by kernel_rfl
theorem ti_1 : tiP Tryz.prog 1 = some ⟨false, 1, [.nilFunc], .other⟩ := by kernel_rfl
theorem kd_1 : kindP Tryz.prog 1 = .other := by kernel_rfl
theorem ti_2 : tiP Tryz.prog 2 = some ⟨false, 1, [.int .i64 0], .int .i64⟩ := by kernel_rfl
theorem kd_2 : kindP Tryz.prog 2 = .int .i64 := by kernel_rfl
theorem ti_3 : tiP Tryz.prog 3 = some ⟨false, 1, [.int .i64 0], .int .i64⟩ := by kernel_rfl
theorem kd_3 : kindP Tryz.prog 3 = .int .i64 := by kernel_rfl
theorem ti_4 : tiP Tryz.prog 4 = some ⟨false, 1, [.bool false], .bool⟩ := by kernel_rfl
theorem kd_4 : kindP Tryz.prog 4 = .bool := by kernel_rfl
theorem ti_5 : tiP Tryz.prog 5 = some ⟨false, 1, [.int .u8 0], .int .u8⟩ := by kernel_rfl
theorem kd_5 : kindP Tryz.prog 5 = .int .u8 := by kernel_rfl
theorem ti_6 : tiP Tryz.prog 6 = some ⟨false, 1, [.int .u8 0], .int .u8⟩ := by kernel_rfl
theorem kd_6 : kindP Tryz.prog 6 = .int .u8 := by kernel_rfl
theorem ti_7 : tiP Tryz.prog 7 = some ⟨true, 4, [.int .i64 0, .int .i64 0, .bool false, .int .u8 0], .struct [(0, 1, false), (1, 1, false), (2, 1, false), (3, 1, false)]⟩ := by kernel_rfl
theorem kd_7 : kindP Tryz.prog 7 = .struct [(0, 1, false), (1, 1, false), (2, 1, false), (3, 1, false)] := by kernel_rfl
theorem ti_8 : tiP Tryz.prog 8 = some ⟨true, 4, [.int .i64 0, .int .i64 0, .bool false, .int .u8 0], .struct [(0, 1, false), (1, 1, false), (2, 1, false), (3, 1, false)]⟩ := by kernel_rfl
theorem kd_8 : kindP Tryz.prog 8 = .struct [(0, 1, false), (1, 1, false), (2, 1, false), (3, 1, false)] := by kernel_rfl
theorem ti_9 : tiP Tryz.prog 9 = some ⟨false, 1, [.string ⟨#[]⟩], .str⟩ := by kernel_rfl
theorem kd_9 : kindP Tryz.prog 9 = .str := by kernel_rfl
theorem ti_10 : tiP Tryz.prog 10 = some ⟨false, 1, [.string ⟨#[]⟩], .str⟩ := by kernel_rfl
theorem kd_10 : kindP Tryz.prog 10 = .str := by kernel_rfl
theorem ti_11 : tiP Tryz.prog 11 = some ⟨false, 1, [.string ⟨#[]⟩], .str⟩ := by kernel_rfl
theorem kd_11 : kindP Tryz.prog 11 = .str := by kernel_rfl
theorem ti_12 : tiP Tryz.prog 12 = some ⟨false, 1, [.int .u64 0], .int .u64⟩ := by kernel_rfl
theorem kd_12 : kindP Tryz.prog 12 = .int .u64 := by kernel_rfl
theorem ti_13 : tiP Tryz.prog 13 = some ⟨true, 2, [.string ⟨#[]⟩, .int .u64 0], .struct [(0, 1, false), (1, 1, false)]⟩ := by kernel_rfl
theorem kd_13 : kindP Tryz.prog 13 = .struct [(0, 1, false), (1, 1, false)] := by kernel_rfl
theorem ti_14 : tiP Tryz.prog 14 = some ⟨true, 2, [.string ⟨#[]⟩, .int .u64 0], .struct [(0, 1, false), (1, 1, false)]⟩ := by kernel_rfl
theorem kd_14 : kindP Tryz.prog 14 = .struct [(0, 1, false), (1, 1, false)] := by kernel_rfl
theorem ti_15 : tiP Tryz.prog 15 = some ⟨false, 1, [.pointer none], .ptr 233⟩ := by kernel_rfl
theorem kd_15 : kindP Tryz.prog 15 = .ptr 233 := by kernel_rfl
theorem ti_16 : tiP Tryz.prog 16 = some ⟨false, 1, [.pointer none], .ptr 236⟩ := by kernel_rfl
theorem kd_16 : kindP Tryz.prog 16 = .ptr 236 := by kernel_rfl
theorem ti_17 : tiP Tryz.prog 17 = some ⟨false, 1, [.pointer none], .ptr 243⟩ := by kernel_rfl
theorem kd_17 : kindP Tryz.prog 17 = .ptr 243 := by kernel_rfl
theorem ti_18 : tiP Tryz.prog 18 = some ⟨true, 1, [.pointer none], .struct [(0, 1, false)]⟩ := by kernel_rfl
theorem kd_18 : kindP Tryz.prog 18 = .struct [(0, 1, false)] := by kernel_rfl
theorem ti_19 : tiP Tryz.prog 19 = some ⟨true, 1, [.pointer none], .struct [(0, 1, false)]⟩ := by kernel_rfl
theorem kd_19 : kindP Tryz.prog 19 = .struct [(0, 1, false)] := by kernel_rfl
theorem ti_20 : tiP Tryz.prog 20 = some ⟨false, 1, [.nilIface], .other⟩ := by kernel_rfl
theorem kd_20 : kindP Tryz.prog 20 = .other := by kernel_rfl
theorem ti_21 : tiP Tryz.prog 21 = some ⟨false, 1, [.int .i32 0], .int .i32⟩ := by kernel_rfl
theorem kd_21 : kindP Tryz.prog 21 = .int .i32 := by kernel_rfl
theorem ti_22 : tiP Tryz.prog 22 = some ⟨false, 1, [.slice none 0 0], .slice 30 13 136 [.int .i64 0, .int .i64 0, .string ⟨#[]⟩, .int .i64 0, .int .i64 0, .int .i64 0, .string ⟨#[]⟩, .int .i64 0, .int .i64 0, .int .i64 0, .string ⟨#[]⟩, .int .i64 0, .string ⟨#[]⟩]⟩ := by kernel_rfl
theorem kd_22 : kindP Tryz.prog 22 = .slice 30 13 136 [.int .i64 0, .int .i64 0, .string ⟨#[]⟩, .int .i64 0, .int .i64 0, .int .i64 0, .string ⟨#[]⟩, .int .i64 0, .int .i64 0, .int .i64 0, .string ⟨#[]⟩, .int .i64 0, .string ⟨#[]⟩] := by kernel_rfl
theorem ti_23 : tiP Tryz.prog 23 = some ⟨false, 1, [.nilFunc], .other⟩ := by kernel_rfl
theorem kd_23 : kindP Tryz.prog 23 = .other := by kernel_rfl
theorem ti_24 : tiP Tryz.prog 24 = some ⟨false, 1, [.pointer none], .ptr 63⟩ := by kernel_rfl
theorem kd_24 : kindP Tryz.prog 24 = .ptr 63 := by kernel_rfl
theorem ti_25 : tiP Tryz.prog 25 = some ⟨false, 1, [.nilFunc], .other⟩ := by kernel_rfl
theorem kd_25 : kindP Tryz.prog 25 = .other := by kernel_rfl
theorem ti_26 : tiP Tryz.prog 26 = some ⟨true, 4, [.int .i64 0, .int .i64 0, .int .i64 0, .string ⟨#[]⟩], .struct [(0, 1, false), (1, 1, false), (2, 1, false), (3, 1, false)]⟩ := by kernel_rfl
theorem kd_26 : kindP Tryz.prog 26 = .struct [(0, 1, false), (1, 1, false), (2, 1, false), (3, 1, false)] := by kernel_rfl
theorem ti_27 : tiP Tryz.prog 27 = some ⟨true, 4, [.int .i64 0, .int .i64 0, .int .i64 0, .string ⟨#[]⟩], .struct [(0, 1, false), (1, 1, false), (2, 1, false), (3, 1, false)]⟩ := by kernel_rfl
theorem kd_27 : kindP Tryz.prog 27 = .struct [(0, 1, false), (1, 1, false), (2, 1, false), (3, 1, false)] := by kernel_rfl
theorem ti_28 : tiP Tryz.prog 28 = some ⟨false, 1, [.int .i64 0], .int .i64⟩ := by kernel_rfl
theorem kd_28 : kindP Tryz.prog 28 = .int .i64 := by kernel_rfl
theorem ti_29 : tiP Tryz.prog 29 = some ⟨true, 13, [.int .i64 0, .int .i64 0, .string ⟨#[]⟩, .int .i64 0, .int .i64 0, .int .i64 0, .string ⟨#[]⟩, .int .i64 0, .int .i64 0, .int .i64 0, .string ⟨#[]⟩, .int .i64 0, .string ⟨#[]⟩], .struct [(0, 1, false), (1, 1, false), (2, 1, false), (3, 4, true), (7, 4, true), (11, 1, false), (12, 1, false)]⟩ := by kernel_rfl
theorem kd_29 : kindP Tryz.prog 29 = .struct [(0, 1, false), (1, 1, false), (2, 1, false), (3, 4, true), (7, 4, true), (11, 1, false), (12, 1, false)] := by kernel_rfl
theorem ti_30 : tiP Tryz.prog 30 = some ⟨true, 13, [.int .i64 0, .int .i64 0, .string ⟨#[]⟩, .int .i64 0, .int .i64 0, .int .i64 0, .string ⟨#[]⟩, .int .i64 0, .int .i64 0, .int .i64 0, .string ⟨#[]⟩, .int .i64 0, .string ⟨#[]⟩], .struct [(0, 1, false), (1, 1, false), (2, 1, false), (3, 4, true), (7, 4, true), (11, 1, false), (12, 1, false)]⟩ := by kernel_rfl
theorem kd_30 : kindP Tryz.prog 30 = .struct [(0, 1, false), (1, 1, false), (2, 1, false), (3, 4, true), (7, 4, true), (11, 1, false), (12, 1, false)] := by kernel_rfl
theorem ti_31 : tiP Tryz.prog 31 = some ⟨false, 1, [.nilFunc], .other⟩ := by kernel_rfl
theorem kd_31 : kindP Tryz.prog 31 = .other := by kernel_rfl
theorem ti_32 : tiP Tryz.prog 32 = some ⟨false, 1, [.nilFunc], .other⟩ := by kernel_rfl
theorem kd_32 : kindP Tryz.prog 32 = .other := by kernel_rfl
theorem ti_33 : tiP Tryz.prog 33 = some ⟨false, 1, [.nilFunc], .other⟩ := by kernel_rfl
theorem kd_33 : kindP Tryz.prog 33 = .other := by kernel_rfl
theorem ti_35 : tiP Tryz.prog 35 = some ⟨false, 1, [.nilFunc], .other⟩ := by kernel_rfl
theorem kd_35 : kindP Tryz.prog 35 = .other := by kernel_rfl
theorem ti_36 : tiP Tryz.prog 36 = some ⟨false, 1, [.nilFunc], .other⟩ := by kernel_rfl
theorem kd_36 : kindP Tryz.prog 36 = .other := by kernel_rfl
theorem ti_37 : tiP Tryz.prog 37 = some ⟨false, 1, [.nilFunc], .other⟩ := by kernel_rfl
theorem kd_37 : kindP Tryz.prog 37 = .other := by kernel_rfl
theorem ti_38 : tiP Tryz.prog 38 = some ⟨false, 1, [.nilFunc], .other⟩ := by kernel_rfl
theorem kd_38 : kindP Tryz.prog 38 = .other := by kernel_rfl
theorem ti_40 : tiP Tryz.prog 40 = some ⟨false, 1, [.nilFunc], .other⟩ := by kernel_rfl
theorem kd_40 : kindP Tryz.prog 40 = .other := by kernel_rfl
theorem ti_41 : tiP Tryz.prog 41 = some ⟨false, 1, [.nilFunc], .other⟩ := by kernel_rfl
theorem kd_41 : kindP Tryz.prog 41 = .other := by kernel_rfl
theorem ti_42 : tiP Tryz.prog 42 = some ⟨false, 1, [.nilFunc], .other⟩ := by kernel_rfl
theorem kd_42 : kindP Tryz.prog 42 = .other := by kernel_rfl
theorem ti_43 : tiP Tryz.prog 43 = some ⟨false, 1, [.slice none 0 0], .slice 5 1 1 [.int .u8 0]⟩ := by kernel_rfl
theorem kd_43 : kindP Tryz.prog 43 = .slice 5 1 1 [.int .u8 0] := by kernel_rfl
theorem ti_44 : tiP Tryz.prog 44 = some ⟨false, 1, [.nilFunc], .other⟩ := by kernel_rfl
theorem kd_44 : kindP Tryz.prog 44 = .other := by kernel_rfl
theorem ti_45 : tiP Tryz.prog 45 = some ⟨false, 1, [.nilFunc], .other⟩ := by kernel_rfl
theorem kd_45 : kindP Tryz.prog 45 = .other := by kernel_rfl
theorem ti_46 : tiP Tryz.prog 46 = some ⟨false, 1, [.nilFunc], .other⟩ := by kernel_rfl
theorem kd_46 : kindP Tryz.prog 46 = .other := by kernel_rfl
theorem ti_48 : tiP Tryz.prog 48 = some ⟨false, 1, [.nilFunc], .other⟩ := by kernel_rfl
theorem kd_48 : kindP Tryz.prog 48 = .other := by kernel_rfl
theorem ti_49 : tiP Tryz.prog 49 = some ⟨false, 1, [.nilFunc], .other⟩ := by kernel_rfl
theorem kd_49 : kindP Tryz.prog 49 = .other := by kernel_rfl
theorem ti_50 : tiP Tryz.prog 50 = some ⟨false, 1, [.slice none 0 0], .slice 9 1 16 [.string ⟨#[]⟩]⟩ := by kernel_rfl
theorem kd_50 : kindP Tryz.prog 50 = .slice 9 1 16 [.string ⟨#[]⟩] := by kernel_rfl
theorem ti_51 : tiP Tryz.prog 51 = some ⟨false, 1, [.slice none 0 0], .slice 52 1 24 [.slice none 0 0]⟩ := by kernel_rfl
theorem kd_51 : kindP Tryz.prog 51 = .slice 52 1 24 [.slice none 0 0] := by kernel_rfl
theorem ti_52 : tiP Tryz.prog 52 = some ⟨false, 1, [.slice none 0 0], .slice 57 6 64 [.string ⟨#[]⟩, .int .i64 0, .int .i64 0, .int .i64 0, .string ⟨#[]⟩, .int .i64 0]⟩ := by kernel_rfl
theorem kd_52 : kindP Tryz.prog 52 = .slice 57 6 64 [.string ⟨#[]⟩, .int .i64 0, .int .i64 0, .int .i64 0, .string ⟨#[]⟩, .int .i64 0] := by kernel_rfl
theorem ti_54 : tiP Tryz.prog 54 = some ⟨false, 1, [.nilFunc], .other⟩ := by kernel_rfl
theorem kd_54 : kindP Tryz.prog 54 = .other := by kernel_rfl
theorem ti_55 : tiP Tryz.prog 55 = some ⟨false, 1, [.nilFunc], .other⟩ := by kernel_rfl
theorem kd_55 : kindP Tryz.prog 55 = .other := by kernel_rfl
theorem ti_56 : tiP Tryz.prog 56 = some ⟨true, 6, [.string ⟨#[]⟩, .int .i64 0, .int .i64 0, .int .i64 0, .string ⟨#[]⟩, .int .i64 0], .struct [(0, 1, false), (1, 4, true), (5, 1, false)]⟩ := by kernel_rfl
theorem kd_56 : kindP Tryz.prog 56 = .struct [(0, 1, false), (1, 4, true), (5, 1, false)] := by kernel_rfl
theorem ti_57 : tiP Tryz.prog 57 = some ⟨true, 6, [.string ⟨#[]⟩, .int .i64 0, .int .i64 0, .int .i64 0, .string ⟨#[]⟩, .int .i64 0], .struct [(0, 1, false), (1, 4, true), (5, 1, false)]⟩ := by kernel_rfl
theorem kd_57 : kindP Tryz.prog 57 = .struct [(0, 1, false), (1, 4, true), (5, 1, false)] := by kernel_rfl
theorem ti_58 : tiP Tryz.prog 58 = some ⟨false, 1, [.nilFunc], .other⟩ := by kernel_rfl
theorem kd_58 : kindP Tryz.prog 58 = .other := by kernel_rfl
theorem ti_59 : tiP Tryz.prog 59 = some ⟨false, 1, [.nilFunc], .other⟩ := by kernel_rfl
theorem kd_59 : kindP Tryz.prog 59 = .other := by kernel_rfl
theorem ti_60 : tiP Tryz.prog 60 = some ⟨false, 1, [.pointer none], .ptr 99⟩ := by kernel_rfl
theorem kd_60 : kindP Tryz.prog 60 = .ptr 99 := by kernel_rfl
theorem ti_61 : tiP Tryz.prog 61 = some ⟨false, 1, [.nilFunc], .other⟩ := by kernel_rfl
theorem kd_61 : kindP Tryz.prog 61 = .other := by kernel_rfl
theorem ti_62 : tiP Tryz.prog 62 = some ⟨true, 4, [.slice none 0 0, .slice none 0 0, .string ⟨#[]⟩, .pointer none], .struct [(0, 1, false), (1, 1, false), (2, 1, false), (3, 1, false)]⟩ := by kernel_rfl
theorem kd_62 : kindP Tryz.prog 62 = .struct [(0, 1, false), (1, 1, false), (2, 1, false), (3, 1, false)] := by kernel_rfl
theorem ti_63 : tiP Tryz.prog 63 = some ⟨true, 4, [.slice none 0 0, .slice none 0 0, .string ⟨#[]⟩, .pointer none], .struct [(0, 1, false), (1, 1, false), (2, 1, false), (3, 1, false)]⟩ := by kernel_rfl
theorem kd_63 : kindP Tryz.prog 63 = .struct [(0, 1, false), (1, 1, false), (2, 1, false), (3, 1, false)] := by kernel_rfl
theorem ti_64 : tiP Tryz.prog 64 = some ⟨false, 1, [.nilFunc], .other⟩ := by kernel_rfl
theorem kd_64 : kindP Tryz.prog 64 = .other := by kernel_rfl
theorem ti_65 : tiP Tryz.prog 65 = some ⟨false, 1, [.nilFunc], .other⟩ := by kernel_rfl
theorem kd_65 : kindP Tryz.prog 65 = .other := by kernel_rfl
theorem ti_66 : tiP Tryz.prog 66 = some ⟨false, 1, [.nilFunc], .other⟩ := by kernel_rfl
theorem kd_66 : kindP Tryz.prog 66 = .other := by kernel_rfl
theorem ti_67 : tiP Tryz.prog 67 = some ⟨false, 1, [.nilFunc], .other⟩ := by kernel_rfl
theorem kd_67 : kindP Tryz.prog 67 = .other := by kernel_rfl
theorem ti_68 : tiP Tryz.prog 68 = some ⟨false, 1, [.map none], .map 9 57⟩ := by kernel_rfl
theorem kd_68 : kindP Tryz.prog 68 = .map 9 57 := by kernel_rfl
theorem ti_69 : tiP Tryz.prog 69 = some ⟨false, 1, [.nilFunc], .other⟩ := by kernel_rfl
theorem kd_69 : kindP Tryz.prog 69 = .other := by kernel_rfl
theorem ti_70 : tiP Tryz.prog 70 = some ⟨false, 1, [.nilFunc], .other⟩ := by kernel_rfl
theorem kd_70 : kindP Tryz.prog 70 = .other := by kernel_rfl
theorem ti_71 : tiP Tryz.prog 71 = some ⟨false, 1, [.nilFunc], .other⟩ := by kernel_rfl
theorem kd_71 : kindP Tryz.prog 71 = .other := by kernel_rfl
theorem ti_72 : tiP Tryz.prog 72 = some ⟨false, 1, [.nilFunc], .other⟩ := by kernel_rfl
theorem kd_72 : kindP Tryz.prog 72 = .other := by kernel_rfl
theorem ti_73 : tiP Tryz.prog 73 = some ⟨false, 1, [.pointer none], .ptr 75⟩ := by kernel_rfl
theorem kd_73 : kindP Tryz.prog 73 = .ptr 75 := by kernel_rfl
theorem ti_74 : tiP Tryz.prog 74 = some ⟨true, 2, [.pointer none, .slice none 0 0], .struct [(0, 1, false), (1, 1, false)]⟩ := by kernel_rfl
theorem kd_74 : kindP Tryz.prog 74 = .struct [(0, 1, false), (1, 1, false)] := by kernel_rfl
theorem ti_75 : tiP Tryz.prog 75 = some ⟨true, 2, [.pointer none, .slice none 0 0], .struct [(0, 1, false), (1, 1, false)]⟩ := by kernel_rfl
theorem kd_75 : kindP Tryz.prog 75 = .struct [(0, 1, false), (1, 1, false)] := by kernel_rfl
theorem ti_76 : tiP Tryz.prog 76 = some ⟨false, 1, [.nilIface], .other⟩ := by kernel_rfl
theorem kd_76 : kindP Tryz.prog 76 = .other := by kernel_rfl
theorem ti_77 : tiP Tryz.prog 77 = some ⟨false, 1, [.nilIface], .other⟩ := by kernel_rfl
theorem kd_77 : kindP Tryz.prog 77 = .other := by kernel_rfl
theorem ti_79 : tiP Tryz.prog 79 = some ⟨false, 1, [.nilFunc], .other⟩ := by kernel_rfl
theorem kd_79 : kindP Tryz.prog 79 = .other := by kernel_rfl
theorem ti_80 : tiP Tryz.prog 80 = some ⟨false, 1, [.nilFunc], .other⟩ := by kernel_rfl
theorem kd_80 : kindP Tryz.prog 80 = .other := by kernel_rfl
theorem ti_82 : tiP Tryz.prog 82 = some ⟨false, 1, [.nilFunc], .other⟩ := by kernel_rfl
theorem kd_82 : kindP Tryz.prog 82 = .other := by kernel_rfl
theorem ti_83 : tiP Tryz.prog 83 = some ⟨false, 1, [.nilFunc], .other⟩ := by kernel_rfl
theorem kd_83 : kindP Tryz.prog 83 = .other := by kernel_rfl
theorem ti_85 : tiP Tryz.prog 85 = some ⟨false, 1, [.nilFunc], .other⟩ := by kernel_rfl
theorem kd_85 : kindP Tryz.prog 85 = .other := by kernel_rfl
theorem ti_86 : tiP Tryz.prog 86 = some ⟨false, 1, [.nilFunc], .other⟩ := by kernel_rfl
theorem kd_86 : kindP Tryz.prog 86 = .other := by kernel_rfl
theorem ti_87 : tiP Tryz.prog 87 = some ⟨false, 1, [.nilFunc], .other⟩ := by kernel_rfl
theorem kd_87 : kindP Tryz.prog 87 = .other := by kernel_rfl
theorem ti_89 : tiP Tryz.prog 89 = some ⟨false, 1, [.nilFunc], .other⟩ := by kernel_rfl
theorem kd_89 : kindP Tryz.prog 89 = .other := by kernel_rfl
theorem ti_90 : tiP Tryz.prog 90 = some ⟨false, 1, [.nilFunc], .other⟩ := by kernel_rfl
theorem kd_90 : kindP Tryz.prog 90 = .other := by kernel_rfl
theorem ti_92 : tiP Tryz.prog 92 = some ⟨false, 1, [.nilFunc], .other⟩ := by kernel_rfl
theorem kd_92 : kindP Tryz.prog 92 = .other := by kernel_rfl
theorem ti_94 : tiP Tryz.prog 94 = some ⟨false, 1, [.nilFunc], .other⟩ := by kernel_rfl
theorem kd_94 : kindP Tryz.prog 94 = .other := by kernel_rfl
theorem ti_96 : tiP Tryz.prog 96 = some ⟨false, 1, [.nilFunc], .other⟩ := by kernel_rfl
theorem kd_96 : kindP Tryz.prog 96 = .other := by kernel_rfl
theorem ti_97 : tiP Tryz.prog 97 = some ⟨false, 1, [.map none], .map 9 114⟩ := by kernel_rfl
theorem kd_97 : kindP Tryz.prog 97 = .map 9 114 := by kernel_rfl
theorem ti_98 : tiP Tryz.prog 98 = some ⟨true, 2, [.map none, .int .i64 0], .struct [(0, 1, false), (1, 1, false)]⟩ := by kernel_rfl
theorem kd_98 : kindP Tryz.prog 98 = .struct [(0, 1, false), (1, 1, false)] := by kernel_rfl
theorem ti_99 : tiP Tryz.prog 99 = some ⟨true, 2, [.map none, .int .i64 0], .struct [(0, 1, false), (1, 1, false)]⟩ := by kernel_rfl
theorem kd_99 : kindP Tryz.prog 99 = .struct [(0, 1, false), (1, 1, false)] := by kernel_rfl
theorem ti_100 : tiP Tryz.prog 100 = some ⟨false, 1, [.slice none 0 0], .slice 28 1 8 [.int .i64 0]⟩ := by kernel_rfl
theorem kd_100 : kindP Tryz.prog 100 = .slice 28 1 8 [.int .i64 0] := by kernel_rfl
theorem ti_101 : tiP Tryz.prog 101 = some ⟨false, 1, [.slice none 0 0], .slice 27 4 40 [.int .i64 0, .int .i64 0, .int .i64 0, .string ⟨#[]⟩]⟩ := by kernel_rfl
theorem kd_101 : kindP Tryz.prog 101 = .slice 27 4 40 [.int .i64 0, .int .i64 0, .int .i64 0, .string ⟨#[]⟩] := by kernel_rfl
theorem ti_102 : tiP Tryz.prog 102 = some ⟨false, 1, [.slice none 0 0], .slice 3 1 8 [.int .i64 0]⟩ := by kernel_rfl
theorem kd_102 : kindP Tryz.prog 102 = .slice 3 1 8 [.int .i64 0] := by kernel_rfl
theorem ti_103 : tiP Tryz.prog 103 = some ⟨false, 1, [.nilFunc], .other⟩ := by kernel_rfl
theorem kd_103 : kindP Tryz.prog 103 = .other := by kernel_rfl
theorem ti_104 : tiP Tryz.prog 104 = some ⟨false, 1, [.nilFunc], .other⟩ := by kernel_rfl
theorem kd_104 : kindP Tryz.prog 104 = .other := by kernel_rfl
theorem ti_105 : tiP Tryz.prog 105 = some ⟨false, 1, [.nilFunc], .other⟩ := by kernel_rfl
theorem kd_105 : kindP Tryz.prog 105 = .other := by kernel_rfl
theorem ti_106 : tiP Tryz.prog 106 = some ⟨false, 1, [.nilFunc], .other⟩ := by kernel_rfl
theorem kd_106 : kindP Tryz.prog 106 = .other := by kernel_rfl
theorem ti_107 : tiP Tryz.prog 107 = some ⟨false, 1, [.nilFunc], .other⟩ := by kernel_rfl
theorem kd_107 : kindP Tryz.prog 107 = .other := by kernel_rfl
theorem ti_109 : tiP Tryz.prog 109 = some ⟨true, 8, [.int .i64 0, .int .i64 0, .int .i64 0, .string ⟨#[]⟩, .int .i64 0, .int .i64 0, .int .i64 0, .string ⟨#[]⟩], .arr 2 27 4 true⟩ := by kernel_rfl
theorem kd_109 : kindP Tryz.prog 109 = .arr 2 27 4 true := by kernel_rfl
theorem ti_110 : tiP Tryz.prog 110 = some ⟨false, 1, [.nilFunc], .other⟩ := by kernel_rfl
theorem kd_110 : kindP Tryz.prog 110 = .other := by kernel_rfl
theorem ti_112 : tiP Tryz.prog 112 = some ⟨false, 1, [.nilFunc], .other⟩ := by kernel_rfl
theorem kd_112 : kindP Tryz.prog 112 = .other := by kernel_rfl
theorem ti_113 : tiP Tryz.prog 113 = some ⟨true, 5, [.int .i64 0, .int .i64 0, .int .i64 0, .string ⟨#[]⟩, .int .i64 0], .struct [(0, 4, true), (4, 1, false)]⟩ := by kernel_rfl
theorem kd_113 : kindP Tryz.prog 113 = .struct [(0, 4, true), (4, 1, false)] := by kernel_rfl
theorem ti_114 : tiP Tryz.prog 114 = some ⟨true, 5, [.int .i64 0, .int .i64 0, .int .i64 0, .string ⟨#[]⟩, .int .i64 0], .struct [(0, 4, true), (4, 1, false)]⟩ := by kernel_rfl
theorem kd_114 : kindP Tryz.prog 114 = .struct [(0, 4, true), (4, 1, false)] := by kernel_rfl
theorem ti_116 : tiP Tryz.prog 116 = some ⟨false, 1, [.nilFunc], .other⟩ := by kernel_rfl
theorem kd_116 : kindP Tryz.prog 116 = .other := by kernel_rfl
theorem ti_117 : tiP Tryz.prog 117 = some ⟨false, 1, [.nilFunc], .other⟩ := by kernel_rfl
theorem kd_117 : kindP Tryz.prog 117 = .other := by kernel_rfl
theorem ti_118 : tiP Tryz.prog 118 = some ⟨false, 1, [.nilFunc], .other⟩ := by kernel_rfl
theorem kd_118 : kindP Tryz.prog 118 = .other := by kernel_rfl
theorem ti_119 : tiP Tryz.prog 119 = some ⟨false, 1, [.int .u64 0], .int .u64⟩ := by kernel_rfl
theorem kd_119 : kindP Tryz.prog 119 = .int .u64 := by kernel_rfl
theorem ti_120 : tiP Tryz.prog 120 = some ⟨false, 1, [.nilFunc], .other⟩ := by kernel_rfl
theorem kd_120 : kindP Tryz.prog 120 = .other := by kernel_rfl
theorem ti_121 : tiP Tryz.prog 121 = some ⟨false, 1, [.nilFunc], .other⟩ := by kernel_rfl
theorem kd_121 : kindP Tryz.prog 121 = .other := by kernel_rfl
theorem ti_122 : tiP Tryz.prog 122 = some ⟨false, 1, [.pointer none], .ptr 5⟩ := by kernel_rfl
theorem kd_122 : kindP Tryz.prog 122 = .ptr 5 := by kernel_rfl
theorem ti_123 : tiP Tryz.prog 123 = some ⟨false, 1, [.nilFunc], .other⟩ := by kernel_rfl
theorem kd_123 : kindP Tryz.prog 123 = .other := by kernel_rfl
theorem ti_130 : tiP Tryz.prog 130 = some ⟨false, 1, [.nilFunc], .other⟩ := by kernel_rfl
theorem kd_130 : kindP Tryz.prog 130 = .other := by kernel_rfl
theorem ti_131 : tiP Tryz.prog 131 = some ⟨false, 1, [.nilFunc], .other⟩ := by kernel_rfl
theorem kd_131 : kindP Tryz.prog 131 = .other := by kernel_rfl
theorem ti_132 : tiP Tryz.prog 132 = some ⟨false, 1, [.nilFunc], .other⟩ := by kernel_rfl
theorem kd_132 : kindP Tryz.prog 132 = .other := by kernel_rfl
theorem ti_133 : tiP Tryz.prog 133 = some ⟨false, 1, [.nilFunc], .other⟩ := by kernel_rfl
theorem kd_133 : kindP Tryz.prog 133 = .other := by kernel_rfl
theorem ti_134 : tiP Tryz.prog 134 = some ⟨false, 1, [.nilFunc], .other⟩ := by kernel_rfl
theorem kd_134 : kindP Tryz.prog 134 = .other := by kernel_rfl
theorem ti_135 : tiP Tryz.prog 135 = some ⟨false, 1, [.pointer none], .ptr 27⟩ := by kernel_rfl
theorem kd_135 : kindP Tryz.prog 135 = .ptr 27 := by kernel_rfl
theorem ti_136 : tiP Tryz.prog 136 = some ⟨false, 1, [.slice none 0 0], .slice 135 1 8 [.pointer none]⟩ := by kernel_rfl
theorem kd_136 : kindP Tryz.prog 136 = .slice 135 1 8 [.pointer none] := by kernel_rfl
theorem ti_138 : tiP Tryz.prog 138 = some ⟨false, 1, [.nilFunc], .other⟩ := by kernel_rfl
theorem kd_138 : kindP Tryz.prog 138 = .other := by kernel_rfl
theorem ti_139 : tiP Tryz.prog 139 = some ⟨false, 1, [.nilFunc], .other⟩ := by kernel_rfl
theorem kd_139 : kindP Tryz.prog 139 = .other := by kernel_rfl
theorem ti_143 : tiP Tryz.prog 143 = some ⟨false, 1, [.nilFunc], .other⟩ := by kernel_rfl
theorem kd_143 : kindP Tryz.prog 143 = .other := by kernel_rfl
theorem ti_145 : tiP Tryz.prog 145 = some ⟨false, 1, [.nilFunc], .other⟩ := by kernel_rfl
theorem kd_145 : kindP Tryz.prog 145 = .other := by kernel_rfl
theorem ti_146 : tiP Tryz.prog 146 = some ⟨false, 1, [.nilFunc], .other⟩ := by kernel_rfl
theorem kd_146 : kindP Tryz.prog 146 = .other := by kernel_rfl
theorem ti_147 : tiP Tryz.prog 147 = some ⟨true, 3, [.int .i64 0, .int .i64 0, .int .i64 0], .arr 3 3 1 false⟩ := by kernel_rfl
theorem kd_147 : kindP Tryz.prog 147 = .arr 3 3 1 false := by kernel_rfl
theorem ti_148 : tiP Tryz.prog 148 = some ⟨false, 1, [.nilFunc], .other⟩ := by kernel_rfl
theorem kd_148 : kindP Tryz.prog 148 = .other := by kernel_rfl
theorem ti_149 : tiP Tryz.prog 149 = some ⟨false, 1, [.int .u64 0], .int .u64⟩ := by kernel_rfl
theorem kd_149 : kindP Tryz.prog 149 = .int .u64 := by kernel_rfl
theorem ti_151 : tiP Tryz.prog 151 = some ⟨false, 1, [.nilFunc], .other⟩ := by kernel_rfl
theorem kd_151 : kindP Tryz.prog 151 = .other := by kernel_rfl
theorem ti_152 : tiP Tryz.prog 152 = some ⟨false, 1, [.nilFunc], .other⟩ := by kernel_rfl
theorem kd_152 : kindP Tryz.prog 152 = .other := by kernel_rfl
theorem ti_153 : tiP Tryz.prog 153 = some ⟨false, 1, [.pointer none], .other⟩ := by kernel_rfl
theorem kd_153 : kindP Tryz.prog 153 = .other := by kernel_rfl
theorem ti_154 : tiP Tryz.prog 154 = some ⟨false, 1, [.nilFunc], .other⟩ := by kernel_rfl
theorem kd_154 : kindP Tryz.prog 154 = .other := by kernel_rfl
theorem ti_156 : tiP Tryz.prog 156 = some ⟨false, 1, [.nilFunc], .other⟩ := by kernel_rfl
theorem kd_156 : kindP Tryz.prog 156 = .other := by kernel_rfl
theorem ti_157 : tiP Tryz.prog 157 = some ⟨false, 1, [.nilFunc], .other⟩ := by kernel_rfl
theorem kd_157 : kindP Tryz.prog 157 = .other := by kernel_rfl
theorem ti_158 : tiP Tryz.prog 158 = some ⟨false, 1, [.nilFunc], .other⟩ := by kernel_rfl
theorem kd_158 : kindP Tryz.prog 158 = .other := by kernel_rfl
theorem ti_159 : tiP Tryz.prog 159 = some ⟨false, 1, [.int .u32 0], .int .u32⟩ := by kernel_rfl
theorem kd_159 : kindP Tryz.prog 159 = .int .u32 := by kernel_rfl
theorem ti_161 : tiP Tryz.prog 161 = some ⟨false, 1, [.nilFunc], .other⟩ := by kernel_rfl
theorem kd_161 : kindP Tryz.prog 161 = .other := by kernel_rfl
theorem ti_162 : tiP Tryz.prog 162 = some ⟨false, 1, [.nilFunc], .other⟩ := by kernel_rfl
theorem kd_162 : kindP Tryz.prog 162 = .other := by kernel_rfl
theorem ti_163 : tiP Tryz.prog 163 = some ⟨false, 1, [.nilFunc], .other⟩ := by kernel_rfl
theorem kd_163 : kindP Tryz.prog 163 = .other := by kernel_rfl
theorem ti_166 : tiP Tryz.prog 166 = some ⟨true, 256, [.bool false, .bool false, .bool false, .bool false, .bool false, .bool false, .bool false, .bool false, .bool false, .bool false, .bool false, .bool false, .bool false, .bool false, .bool false, .bool false, .bool false, .bool false, .bool false, .bool false, .bool false, .bool false, .bool false, .bool false, .bool false, .bool false, .bool false, .bool false, .bool false, .bool false, .bool false, .bool false, .bool false, .bool false, .bool false, .bool false, .bool false, .bool false, .bool false, .bool false, .bool false, .bool false, .bool false, .bool false, .bool false, .bool false, .bool false, .bool false, .bool false, .bool false, .bool false, .bool false, .bool false, .bool false, .bool false, .bool false, .bool false, .bool false, .bool false, .bool false, .bool false, .bool false, .bool false, .bool false, .bool false, .bool false, .bool false, .bool false, .bool false, .bool false, .bool false, .bool false, .bool false, .bool false, .bool false, .bool false, .bool false, .bool false, .bool false, .bool false, .bool false, .bool false, .bool false, .bool false, .bool false, .bool false, .bool false, .bool false, .bool false, .bool false, .bool false, .bool false, .bool false, .bool false, .bool false, .bool false, .bool false, .bool false, .bool false, .bool false, .bool false, .bool false, .bool false, .bool false, .bool false, .bool false, .bool false, .bool false, .bool false, .bool false, .bool false, .bool false, .bool false, .bool false, .bool false, .bool false, .bool false, .bool false, .bool false, .bool false, .bool false, .bool false, .bool false, .bool false, .bool false, .bool false, .bool false, .bool false, .bool false, .bool false, .bool false, .bool false, .bool false, .bool false, .bool false, .bool false, .bool false, .bool false, .bool false, .bool false, .bool false, .bool false, .bool false, .bool false, .bool false, .bool false, .bool false, .bool false, .bool false, .bool false, .bool false, .bool false, .bool false, .bool false, .bool false, .bool false, .bool false, .bool false, .bool false, .bool false, .bool false, .bool false, .bool false, .bool false, .bool false, .bool false, .bool false, .bool false, .bool false, .bool false, .bool false, .bool false, .bool false, .bool false, .bool false, .bool false, .bool false, .bool false, .bool false, .bool false, .bool false, .bool false, .bool false, .bool false, .bool false, .bool false, .bool false, .bool false, .bool false, .bool false, .bool false, .bool false, .bool false, .bool false, .bool false, .bool false, .bool false, .bool false, .bool false, .bool false, .bool false, .bool false, .bool false, .bool false, .bool false, .bool false, .bool false, .bool false, .bool false, .bool false, .bool false, .bool false, .bool false, .bool false, .bool false, .bool false, .bool false, .bool false, .bool false, .bool false, .bool false, .bool false, .bool false, .bool false, .bool false, .bool false, .bool false, .bool false, .bool false, .bool false, .bool false, .bool false, .bool false, .bool false, .bool false, .bool false, .bool false, .bool false, .bool false, .bool false, .bool false, .bool false, .bool false, .bool false, .bool false, .bool false, .bool false, .bool false, .bool false, .bool false, .bool false, .bool false, .bool false, .bool false, .bool false, .bool false], .arr 256 4 1 false⟩ := by kernel_rfl
theorem kd_166 : kindP Tryz.prog 166 = .arr 256 4 1 false := by kernel_rfl
theorem ti_167 : tiP Tryz.prog 167 = some ⟨true, 256, [.bool false, .bool false, .bool false, .bool false, .bool false, .bool false, .bool false, .bool false, .bool false, .bool false, .bool false, .bool false, .bool false, .bool false, .bool false, .bool false, .bool false, .bool false, .bool false, .bool false, .bool false, .bool false, .bool false, .bool false, .bool false, .bool false, .bool false, .bool false, .bool false, .bool false, .bool false, .bool false, .bool false, .bool false, .bool false, .bool false, .bool false, .bool false, .bool false, .bool false, .bool false, .bool false, .bool false, .bool false, .bool false, .bool false, .bool false, .bool false, .bool false, .bool false, .bool false, .bool false, .bool false, .bool false, .bool false, .bool false, .bool false, .bool false, .bool false, .bool false, .bool false, .bool false, .bool false, .bool false, .bool false, .bool false, .bool false, .bool false, .bool false, .bool false, .bool false, .bool false, .bool false, .bool false, .bool false, .bool false, .bool false, .bool false, .bool false, .bool false, .bool false, .bool false, .bool false, .bool false, .bool false, .bool false, .bool false, .bool false, .bool false, .bool false, .bool false, .bool false, .bool false, .bool false, .bool false, .bool false, .bool false, .bool false, .bool false, .bool false, .bool false, .bool false, .bool false, .bool false, .bool false, .bool false, .bool false, .bool false, .bool false, .bool false, .bool false, .bool false, .bool false, .bool false, .bool false, .bool false, .bool false, .bool false, .bool false, .bool false, .bool false, .bool false, .bool false, .bool false, .bool false, .bool false, .bool false, .bool false, .bool false, .bool false, .bool false, .bool false, .bool false, .bool false, .bool false, .bool false, .bool false, .bool false, .bool false, .bool false, .bool false, .bool false, .bool false, .bool false, .bool false, .bool false, .bool false, .bool false, .bool false, .bool false, .bool false, .bool false, .bool false, .bool false, .bool false, .bool false, .bool false, .bool false, .bool false, .bool false, .bool false, .bool false, .bool false, .bool false, .bool false, .bool false, .bool false, .bool false, .bool false, .bool false, .bool false, .bool false, .bool false, .bool false, .bool false, .bool false, .bool false, .bool false, .bool false, .bool false, .bool false, .bool false, .bool false, .bool false, .bool false, .bool false, .bool false, .bool false, .bool false, .bool false, .bool false, .bool false, .bool false, .bool false, .bool false, .bool false, .bool false, .bool false, .bool false, .bool false, .bool false, .bool false, .bool false, .bool false, .bool false, .bool false, .bool false, .bool false, .bool false, .bool false, .bool false, .bool false, .bool false, .bool false, .bool false, .bool false, .bool false, .bool false, .bool false, .bool false, .bool false, .bool false, .bool false, .bool false, .bool false, .bool false, .bool false, .bool false, .bool false, .bool false, .bool false, .bool false, .bool false, .bool false, .bool false, .bool false, .bool false, .bool false, .bool false, .bool false, .bool false, .bool false, .bool false, .bool false, .bool false, .bool false, .bool false, .bool false, .bool false, .bool false, .bool false, .bool false, .bool false, .bool false, .bool false, .bool false], .arr 256 4 1 false⟩ := by kernel_rfl
theorem kd_167 : kindP Tryz.prog 167 = .arr 256 4 1 false := by kernel_rfl
theorem ti_170 : tiP Tryz.prog 170 = some ⟨false, 1, [.nilFunc], .other⟩ := by kernel_rfl
theorem kd_170 : kindP Tryz.prog 170 = .other := by kernel_rfl
theorem ti_171 : tiP Tryz.prog 171 = some ⟨false, 1, [.pointer none], .ptr 167⟩ := by kernel_rfl
theorem kd_171 : kindP Tryz.prog 171 = .ptr 167 := by kernel_rfl
theorem ti_172 : tiP Tryz.prog 172 = some ⟨false, 1, [.int .i64 0], .int .i64⟩ := by kernel_rfl
theorem kd_172 : kindP Tryz.prog 172 = .int .i64 := by kernel_rfl
theorem ti_179 : tiP Tryz.prog 179 = some ⟨true, 24, [.int .u8 0, .int .u8 0, .int .u8 0, .int .u8 0, .int .u8 0, .int .u8 0, .int .u8 0, .int .u8 0, .int .u8 0, .int .u8 0, .int .u8 0, .int .u8 0, .int .u8 0, .int .u8 0, .int .u8 0, .int .u8 0, .int .u8 0, .int .u8 0, .int .u8 0, .int .u8 0, .int .u8 0, .int .u8 0, .int .u8 0, .int .u8 0], .arr 24 5 1 false⟩ := by kernel_rfl
theorem kd_179 : kindP Tryz.prog 179 = .arr 24 5 1 false := by kernel_rfl
theorem ti_180 : tiP Tryz.prog 180 = some ⟨false, 1, [.nilFunc], .other⟩ := by kernel_rfl
theorem kd_180 : kindP Tryz.prog 180 = .other := by kernel_rfl
theorem ti_181 : tiP Tryz.prog 181 = some ⟨false, 1, [.nilFunc], .other⟩ := by kernel_rfl
theorem kd_181 : kindP Tryz.prog 181 = .other := by kernel_rfl
theorem ti_200 : tiP Tryz.prog 200 = some ⟨false, 1, [.nilFunc], .other⟩ := by kernel_rfl
theorem kd_200 : kindP Tryz.prog 200 = .other := by kernel_rfl
theorem ti_201 : tiP Tryz.prog 201 = some ⟨true, 20, [.int .u64 0, .int .u64 0, .int .u64 0, .int .u64 0, .int .u64 0, .int .u64 0, .int .u64 0, .int .u64 0, .int .u64 0, .int .u64 0, .int .u64 0, .int .u64 0, .int .u64 0, .int .u64 0, .int .u64 0, .int .u64 0, .int .u64 0, .int .u64 0, .int .u64 0, .int .u64 0], .arr 20 119 1 false⟩ := by kernel_rfl
theorem kd_201 : kindP Tryz.prog 201 = .arr 20 119 1 false := by kernel_rfl
theorem ti_202 : tiP Tryz.prog 202 = some ⟨true, 65, [.int .u8 0, .int .u8 0, .int .u8 0, .int .u8 0, .int .u8 0, .int .u8 0, .int .u8 0, .int .u8 0, .int .u8 0, .int .u8 0, .int .u8 0, .int .u8 0, .int .u8 0, .int .u8 0, .int .u8 0, .int .u8 0, .int .u8 0, .int .u8 0, .int .u8 0, .int .u8 0, .int .u8 0, .int .u8 0, .int .u8 0, .int .u8 0, .int .u8 0, .int .u8 0, .int .u8 0, .int .u8 0, .int .u8 0, .int .u8 0, .int .u8 0, .int .u8 0, .int .u8 0, .int .u8 0, .int .u8 0, .int .u8 0, .int .u8 0, .int .u8 0, .int .u8 0, .int .u8 0, .int .u8 0, .int .u8 0, .int .u8 0, .int .u8 0, .int .u8 0, .int .u8 0, .int .u8 0, .int .u8 0, .int .u8 0, .int .u8 0, .int .u8 0, .int .u8 0, .int .u8 0, .int .u8 0, .int .u8 0, .int .u8 0, .int .u8 0, .int .u8 0, .int .u8 0, .int .u8 0, .int .u8 0, .int .u8 0, .int .u8 0, .int .u8 0, .int .u8 0], .arr 65 5 1 false⟩ := by kernel_rfl
theorem kd_202 : kindP Tryz.prog 202 = .arr 65 5 1 false := by kernel_rfl
theorem ti_204 : tiP Tryz.prog 204 = some ⟨false, 1, [.int .i64 0], .int .i64⟩ := by kernel_rfl
theorem kd_204 : kindP Tryz.prog 204 = .int .i64 := by kernel_rfl
theorem ti_216 : tiP Tryz.prog 216 = some ⟨false, 1, [.int .u64 0], .int .u64⟩ := by kernel_rfl
theorem kd_216 : kindP Tryz.prog 216 = .int .u64 := by kernel_rfl
theorem ti_218 : tiP Tryz.prog 218 = some ⟨false, 1, [.nilFunc], .other⟩ := by kernel_rfl
theorem kd_218 : kindP Tryz.prog 218 = .other := by kernel_rfl
theorem ti_228 : tiP Tryz.prog 228 = some ⟨true, 64, [.int .u8 0, .int .u8 0, .int .u8 0, .int .u8 0, .int .u8 0, .int .u8 0, .int .u8 0, .int .u8 0, .int .u8 0, .int .u8 0, .int .u8 0, .int .u8 0, .int .u8 0, .int .u8 0, .int .u8 0, .int .u8 0, .int .u8 0, .int .u8 0, .int .u8 0, .int .u8 0, .int .u8 0, .int .u8 0, .int .u8 0, .int .u8 0, .int .u8 0, .int .u8 0, .int .u8 0, .int .u8 0, .int .u8 0, .int .u8 0, .int .u8 0, .int .u8 0, .int .u8 0, .int .u8 0, .int .u8 0, .int .u8 0, .int .u8 0, .int .u8 0, .int .u8 0, .int .u8 0, .int .u8 0, .int .u8 0, .int .u8 0, .int .u8 0, .int .u8 0, .int .u8 0, .int .u8 0, .int .u8 0, .int .u8 0, .int .u8 0, .int .u8 0, .int .u8 0, .int .u8 0, .int .u8 0, .int .u8 0, .int .u8 0, .int .u8 0, .int .u8 0, .int .u8 0, .int .u8 0, .int .u8 0, .int .u8 0, .int .u8 0, .int .u8 0], .arr 64 5 1 false⟩ := by kernel_rfl
theorem kd_228 : kindP Tryz.prog 228 = .arr 64 5 1 false := by kernel_rfl
theorem ti_241 : tiP Tryz.prog 241 = some ⟨false, 1, [.int .i32 0], .int .i32⟩ := by kernel_rfl
theorem kd_241 : kindP Tryz.prog 241 = .int .i32 := by kernel_rfl
theorem kk_9 : kkP Tryz.prog 9 = .tk .str := by kernel_rfl
theorem zf_0 : zfP Tryz.prog 0 = false := by kernel_rfl
theorem zf_1 : zfP Tryz.prog 1 = false := by kernel_rfl
theorem zf_2 : zfP Tryz.prog 2 = false := by kernel_rfl
theorem zf_3 : zfP Tryz.prog 3 = false := by kernel_rfl
theorem zf_4 : zfP Tryz.prog 4 = false := by kernel_rfl
theorem zf_5 : zfP Tryz.prog 5 = false := by kernel_rfl
theorem zf_6 : zfP Tryz.prog 6 = false := by kernel_rfl
theorem zf_7 : zfP Tryz.prog 7 = true := by kernel_rfl
theorem zf_8 : zfP Tryz.prog 8 = true := by kernel_rfl
theorem zf_9 : zfP Tryz.prog 9 = false := by kernel_rfl
theorem zf_10 : zfP Tryz.prog 10 = false := by kernel_rfl
theorem zf_11 : zfP Tryz.prog 11 = false := by kernel_rfl
theorem zf_12 : zfP Tryz.prog 12 = false := by kernel_rfl
theorem zf_13 : zfP Tryz.prog 13 = true := by kernel_rfl
theorem zf_14 : zfP Tryz.prog 14 = true := by kernel_rfl
theorem zf_15 : zfP Tryz.prog 15 = false := by kernel_rfl
theorem zf_16 : zfP Tryz.prog 16 = false := by kernel_rfl
theorem zf_17 : zfP Tryz.prog 17 = false := by kernel_rfl
theorem zf_18 : zfP Tryz.prog 18 = true := by kernel_rfl
theorem zf_19 : zfP Tryz.prog 19 = true := by kernel_rfl
theorem zf_20 : zfP Tryz.prog 20 = false := by kernel_rfl
theorem zf_21 : zfP Tryz.prog 21 = false := by kernel_rfl
theorem zf_22 : zfP Tryz.prog 22 = false := by kernel_rfl
theorem zf_23 : zfP Tryz.prog 23 = false := by kernel_rfl
theorem zf_24 : zfP Tryz.prog 24 = false := by kernel_rfl
theorem zf_25 : zfP Tryz.prog 25 = false := by kernel_rfl
theorem zf_26 : zfP Tryz.prog 26 = true := by kernel_rfl
theorem zf_27 : zfP Tryz.prog 27 = true := by kernel_rfl
theorem zf_28 : zfP Tryz.prog 28 = false := by kernel_rfl
theorem zf_29 : zfP Tryz.prog 29 = true := by kernel_rfl
theorem zf_30 : zfP Tryz.prog 30 = true := by kernel_rfl
theorem zf_31 : zfP Tryz.prog 31 = false := by kernel_rfl
theorem zf_32 : zfP Tryz.prog 32 = false := by kernel_rfl
theorem zf_33 : zfP Tryz.prog 33 = false := by kernel_rfl
theorem zf_34 : zfP Tryz.prog 34 = false := by kernel_rfl
theorem zf_35 : zfP Tryz.prog 35 = false := by kernel_rfl
theorem zf_36 : zfP Tryz.prog 36 = false := by kernel_rfl
theorem zf_37 : zfP Tryz.prog 37 = false := by kernel_rfl
theorem zf_38 : zfP Tryz.prog 38 = false := by kernel_rfl
theorem zf_39 : zfP Tryz.prog 39 = false := by kernel_rfl
theorem zf_40 : zfP Tryz.prog 40 = false := by kernel_rfl
theorem zf_41 : zfP Tryz.prog 41 = false := by kernel_rfl
theorem zf_42 : zfP Tryz.prog 42 = false := by kernel_rfl
theorem zf_43 : zfP Tryz.prog 43 = false := by kernel_rfl
theorem zf_44 : zfP Tryz.prog 44 = false := by kernel_rfl
theorem zf_45 : zfP Tryz.prog 45 = false := by kernel_rfl
theorem zf_46 : zfP Tryz.prog 46 = false := by kernel_rfl
theorem zf_47 : zfP Tryz.prog 47 = false := by kernel_rfl
theorem zf_48 : zfP Tryz.prog 48 = false := by kernel_rfl
theorem zf_49 : zfP Tryz.prog 49 = false := by kernel_rfl
theorem zf_50 : zfP Tryz.prog 50 = false := by kernel_rfl
theorem zf_51 : zfP Tryz.prog 51 = false := by kernel_rfl
theorem zf_52 : zfP Tryz.prog 52 = false := by kernel_rfl
theorem zf_53 : zfP Tryz.prog 53 = false := by kernel_rfl
theorem zf_54 : zfP Tryz.prog 54 = false := by kernel_rfl
theorem zf_55 : zfP Tryz.prog 55 = false := by kernel_rfl
theorem zf_56 : zfP Tryz.prog 56 = true := by kernel_rfl
theorem zf_57 : zfP Tryz.prog 57 = true := by kernel_rfl
theorem zf_58 : zfP Tryz.prog 58 = false := by kernel_rfl
theorem zf_59 : zfP Tryz.prog 59 = false := by kernel_rfl
theorem zf_60 : zfP Tryz.prog 60 = false := by kernel_rfl
theorem zf_61 : zfP Tryz.prog 61 = false := by kernel_rfl
theorem zf_62 : zfP Tryz.prog 62 = true := by kernel_rfl
theorem zf_63 : zfP Tryz.prog 63 = true := by kernel_rfl
theorem zf_64 : zfP Tryz.prog 64 = false := by kernel_rfl
theorem zf_65 : zfP Tryz.prog 65 = false := by kernel_rfl
theorem zf_66 : zfP Tryz.prog 66 = false := by kernel_rfl
theorem zf_67 : zfP Tryz.prog 67 = false := by kernel_rfl
theorem zf_68 : zfP Tryz.prog 68 = false := by kernel_rfl
theorem zf_69 : zfP Tryz.prog 69 = false := by kernel_rfl
theorem zf_70 : zfP Tryz.prog 70 = false := by kernel_rfl
theorem zf_71 : zfP Tryz.prog 71 = false := by kernel_rfl
theorem zf_72 : zfP Tryz.prog 72 = false := by kernel_rfl
theorem zf_73 : zfP Tryz.prog 73 = false := by kernel_rfl
theorem zf_74 : zfP Tryz.prog 74 = true := by kernel_rfl
theorem zf_75 : zfP Tryz.prog 75 = true := by kernel_rfl
theorem zf_76 : zfP Tryz.prog 76 = false := by kernel_rfl
theorem zf_77 : zfP Tryz.prog 77 = false := by kernel_rfl
theorem zf_78 : zfP Tryz.prog 78 = false := by kernel_rfl
theorem zf_79 : zfP Tryz.prog 79 = false := by kernel_rfl
theorem zf_80 : zfP Tryz.prog 80 = false := by kernel_rfl
theorem zf_81 : zfP Tryz.prog 81 = false := by kernel_rfl
theorem zf_82 : zfP Tryz.prog 82 = false := by kernel_rfl
theorem zf_83 : zfP Tryz.prog 83 = false := by kernel_rfl
theorem zf_84 : zfP Tryz.prog 84 = false := by kernel_rfl
theorem zf_85 : zfP Tryz.prog 85 = false := by kernel_rfl
theorem zf_86 : zfP Tryz.prog 86 = false := by kernel_rfl
theorem zf_87 : zfP Tryz.prog 87 = false := by kernel_rfl
theorem zf_88 : zfP Tryz.prog 88 = false := by kernel_rfl
theorem zf_89 : zfP Tryz.prog 89 = false := by kernel_rfl
theorem zf_90 : zfP Tryz.prog 90 = false := by kernel_rfl
theorem zf_92 : zfP Tryz.prog 92 = false := by kernel_rfl
theorem zf_94 : zfP Tryz.prog 94 = false := by kernel_rfl
theorem zf_96 : zfP Tryz.prog 96 = false := by kernel_rfl
theorem zf_97 : zfP Tryz.prog 97 = false := by kernel_rfl
theorem zf_98 : zfP Tryz.prog 98 = true := by kernel_rfl
theorem zf_99 : zfP Tryz.prog 99 = true := by kernel_rfl
theorem zf_100 : zfP Tryz.prog 100 = false := by kernel_rfl
theorem zf_101 : zfP Tryz.prog 101 = false := by kernel_rfl
theorem zf_102 : zfP Tryz.prog 102 = false := by kernel_rfl
theorem zf_103 : zfP Tryz.prog 103 = false := by kernel_rfl
theorem zf_104 : zfP Tryz.prog 104 = false := by kernel_rfl
theorem zf_105 : zfP Tryz.prog 105 = false := by kernel_rfl
theorem zf_106 : zfP Tryz.prog 106 = false := by kernel_rfl
theorem zf_107 : zfP Tryz.prog 107 = false := by kernel_rfl
theorem zf_108 : zfP Tryz.prog 108 = false := by kernel_rfl
theorem zf_109 : zfP Tryz.prog 109 = true := by kernel_rfl
theorem zf_110 : zfP Tryz.prog 110 = false := by kernel_rfl
theorem zf_111 : zfP Tryz.prog 111 = false := by kernel_rfl
theorem zf_112 : zfP Tryz.prog 112 = false := by kernel_rfl
theorem zf_113 : zfP Tryz.prog 113 = true := by kernel_rfl
theorem zf_114 : zfP Tryz.prog 114 = true := by kernel_rfl
theorem zf_115 : zfP Tryz.prog 115 = false := by kernel_rfl
theorem zf_116 : zfP Tryz.prog 116 = false := by kernel_rfl
theorem zf_117 : zfP Tryz.prog 117 = false := by kernel_rfl
theorem zf_118 : zfP Tryz.prog 118 = false := by kernel_rfl
theorem zf_119 : zfP Tryz.prog 119 = false := by kernel_rfl
theorem zf_120 : zfP Tryz.prog 120 = false := by kernel_rfl
theorem zf_121 : zfP Tryz.prog 121 = false := by kernel_rfl
theorem zf_122 : zfP Tryz.prog 122 = false := by kernel_rfl
theorem zf_123 : zfP Tryz.prog 123 = false := by kernel_rfl
theorem zf_125 : zfP Tryz.prog 125 = false := by kernel_rfl
theorem zf_127 : zfP Tryz.prog 127 = false := by kernel_rfl
theorem zf_129 : zfP Tryz.prog 129 = false := by kernel_rfl
theorem zf_130 : zfP Tryz.prog 130 = false := by kernel_rfl
theorem zf_131 : zfP Tryz.prog 131 = false := by kernel_rfl
theorem zf_132 : zfP Tryz.prog 132 = false := by kernel_rfl
theorem zf_133 : zfP Tryz.prog 133 = false := by kernel_rfl
theorem zf_134 : zfP Tryz.prog 134 = false := by kernel_rfl
theorem zf_135 : zfP Tryz.prog 135 = false := by kernel_rfl
theorem zf_136 : zfP Tryz.prog 136 = false := by kernel_rfl
theorem zf_137 : zfP Tryz.prog 137 = false := by kernel_rfl
theorem zf_138 : zfP Tryz.prog 138 = false := by kernel_rfl
theorem zf_139 : zfP Tryz.prog 139 = false := by kernel_rfl
theorem zf_143 : zfP Tryz.prog 143 = false := by kernel_rfl
theorem zf_145 : zfP Tryz.prog 145 = false := by kernel_rfl
theorem zf_146 : zfP Tryz.prog 146 = false := by kernel_rfl
theorem zf_147 : zfP Tryz.prog 147 = true := by kernel_rfl
theorem zf_148 : zfP Tryz.prog 148 = false := by kernel_rfl
theorem zf_149 : zfP Tryz.prog 149 = false := by kernel_rfl
theorem zf_150 : zfP Tryz.prog 150 = false := by kernel_rfl
theorem zf_151 : zfP Tryz.prog 151 = false := by kernel_rfl
theorem zf_152 : zfP Tryz.prog 152 = false := by kernel_rfl
theorem zf_153 : zfP Tryz.prog 153 = false := by kernel_rfl
theorem zf_154 : zfP Tryz.prog 154 = false := by kernel_rfl
theorem zf_155 : zfP Tryz.prog 155 = false := by kernel_rfl
theorem zf_156 : zfP Tryz.prog 156 = false := by kernel_rfl
theorem zf_157 : zfP Tryz.prog 157 = false := by kernel_rfl
theorem zf_158 : zfP Tryz.prog 158 = false := by kernel_rfl
theorem zf_159 : zfP Tryz.prog 159 = false := by kernel_rfl
theorem zf_160 : zfP Tryz.prog 160 = false := by kernel_rfl
theorem zf_161 : zfP Tryz.prog 161 = false := by kernel_rfl
theorem zf_162 : zfP Tryz.prog 162 = false := by kernel_rfl
theorem zf_163 : zfP Tryz.prog 163 = false := by kernel_rfl
theorem zf_166 : zfP Tryz.prog 166 = true := by kernel_rfl
theorem zf_167 : zfP Tryz.prog 167 = true := by kernel_rfl
theorem zf_168 : zfP Tryz.prog 168 = false := by kernel_rfl
theorem zf_170 : zfP Tryz.prog 170 = false := by kernel_rfl
theorem zf_171 : zfP Tryz.prog 171 = false := by kernel_rfl
theorem zf_172 : zfP Tryz.prog 172 = false := by kernel_rfl
theorem zf_179 : zfP Tryz.prog 179 = true := by kernel_rfl
theorem zf_180 : zfP Tryz.prog 180 = false := by kernel_rfl
theorem zf_181 : zfP Tryz.prog 181 = false := by kernel_rfl
theorem zf_182 : zfP Tryz.prog 182 = false := by kernel_rfl
theorem zf_185 : zfP Tryz.prog 185 = false := by kernel_rfl
theorem zf_200 : zfP Tryz.prog 200 = false := by kernel_rfl
theorem zf_201 : zfP Tryz.prog 201 = true := by kernel_rfl
theorem zf_202 : zfP Tryz.prog 202 = true := by kernel_rfl
theorem zf_204 : zfP Tryz.prog 204 = false := by kernel_rfl
theorem zf_216 : zfP Tryz.prog 216 = false := by kernel_rfl
theorem zf_218 : zfP Tryz.prog 218 = false := by kernel_rfl
theorem zf_228 : zfP Tryz.prog 228 = true := by kernel_rfl
theorem zf_241 : zfP Tryz.prog 241 = false := by kernel_rfl
theorem zf_244 : zfP Tryz.prog 244 = false := by kernel_rfl
theorem zf_247 : zfP Tryz.prog 247 = false := by kernel_rfl
theorem zf_250 : zfP Tryz.prog 250 = false := by kernel_rfl
theorem zf_270 : zfP Tryz.prog 270 = false := by kernel_rfl
theorem zf_273 : zfP Tryz.prog 273 = false := by kernel_rfl
theorem eq_7 : eqTyP Tryz.prog 7 = some [.i .i64, .i .i64, .b, .i .u8] := by kernel_rfl
theorem ag_7 : aggP Tryz.prog 7 = true := by kernel_rfl
theorem eq_8 : eqTyP Tryz.prog 8 = some [.i .i64, .i .i64, .b, .i .u8] := by kernel_rfl
theorem ag_8 : aggP Tryz.prog 8 = true := by kernel_rfl
theorem eq_26 : eqTyP Tryz.prog 26 = some [.i .i64, .i .i64, .i .i64, .s] := by kernel_rfl
theorem ag_26 : aggP Tryz.prog 26 = true := by kernel_rfl
theorem eq_27 : eqTyP Tryz.prog 27 = some [.i .i64, .i .i64, .i .i64, .s] := by kernel_rfl
theorem ag_27 : aggP Tryz.prog 27 = true := by kernel_rfl
theorem eq_29 : eqTyP Tryz.prog 29 = some [.i .i64, .i .i64, .s, .i .i64, .i .i64, .i .i64, .s, .i .i64, .i .i64, .i .i64, .s, .i .i64, .s] := by kernel_rfl
theorem ag_29 : aggP Tryz.prog 29 = true := by kernel_rfl
theorem eq_30 : eqTyP Tryz.prog 30 = some [.i .i64, .i .i64, .s, .i .i64, .i .i64, .i .i64, .s, .i .i64, .i .i64, .i .i64, .s, .i .i64, .s] := by kernel_rfl
theorem ag_30 : aggP Tryz.prog 30 = true := by kernel_rfl
theorem eq_56 : eqTyP Tryz.prog 56 = some [.s, .i .i64, .i .i64, .i .i64, .s, .i .i64] := by kernel_rfl
theorem ag_56 : aggP Tryz.prog 56 = true := by kernel_rfl
theorem eq_57 : eqTyP Tryz.prog 57 = some [.s, .i .i64, .i .i64, .i .i64, .s, .i .i64] := by kernel_rfl
theorem ag_57 : aggP Tryz.prog 57 = true := by kernel_rfl
theorem eq_113 : eqTyP Tryz.prog 113 = some [.i .i64, .i .i64, .i .i64, .s, .i .i64] := by kernel_rfl
theorem ag_113 : aggP Tryz.prog 113 = true := by kernel_rfl
theorem eq_114 : eqTyP Tryz.prog 114 = some [.i .i64, .i .i64, .i .i64, .s, .i .i64] := by kernel_rfl
theorem ag_114 : aggP Tryz.prog 114 = true := by kernel_rfl
attribute [go_sem] ti_0 kd_0 ti_1 kd_1 ti_2 kd_2 ti_3 kd_3 ti_4 kd_4 ti_5 kd_5 ti_6 kd_6 ti_7 kd_7 ti_8 kd_8 ti_9 kd_9 ti_10 kd_10 ti_11 kd_11 ti_12 kd_12 ti_13 kd_13 ti_14 kd_14 ti_15 kd_15 ti_16 kd_16 ti_17 kd_17 ti_18 kd_18 ti_19 kd_19
attribute [go_sem] ti_20 kd_20 ti_21 kd_21 ti_22 kd_22 ti_23 kd_23 ti_24 kd_24 ti_25 kd_25 ti_26 kd_26 ti_27 kd_27 ti_28 kd_28 ti_29 kd_29 ti_30 kd_30 ti_31 kd_31 ti_32 kd_32 ti_33 kd_33 ti_35 kd_35 ti_36 kd_36 ti_37 kd_37 ti_38 kd_38 ti_40 kd_40 ti_41 kd_41
attribute [go_sem] ti_42 kd_42 ti_43 kd_43 ti_44 kd_44 ti_45 kd_45 ti_46 kd_46 ti_48 kd_48 ti_49 kd_49 ti_50 kd_50 ti_51 kd_51 ti_52 kd_52 ti_54 kd_54 ti_55 kd_55 ti_56 kd_56 ti_57 kd_57 ti_58 kd_58 ti_59 kd_59 ti_60 kd_60 ti_61 kd_61 ti_62 kd_62 ti_63 kd_63
attribute [go_sem] ti_64 kd_64 ti_65 kd_65 ti_66 kd_66 ti_67 kd_67 ti_68 kd_68 ti_69 kd_69 ti_70 kd_70 ti_71 kd_71 ti_72 kd_72 ti_73 kd_73 ti_74 kd_74 ti_75 kd_75 ti_76 kd_76 ti_77 kd_77 ti_79 kd_79 ti_80 kd_80 ti_82 kd_82 ti_83 kd_83 ti_85 kd_85 ti_86 kd_86
attribute [go_sem] ti_87 kd_87 ti_89 kd_89 ti_90 kd_90 ti_92 kd_92 ti_94 kd_94 ti_96 kd_96 ti_97 kd_97 ti_98 kd_98 ti_99 kd_99 ti_100 kd_100 ti_101 kd_101 ti_102 kd_102 ti_103 kd_103 ti_104 kd_104 ti_105 kd_105 ti_106 kd_106 ti_107 kd_107
attribute [go_sem] ti_109 kd_109 ti_110 kd_110 ti_112 kd_112 ti_113 kd_113 ti_114 kd_114 ti_116 kd_116 ti_117 kd_117 ti_118 kd_118 ti_119 kd_119 ti_120 kd_120 ti_121 kd_121 ti_122 kd_122 ti_123 kd_123 ti_130 kd_130 ti_131 kd_131 ti_132 kd_132 ti_133 kd_133
attribute [go_sem] ti_134 kd_134 ti_135 kd_135 ti_136 kd_136 ti_138 kd_138 ti_139 kd_139 ti_143 kd_143 ti_145 kd_145 ti_146 kd_146 ti_147 kd_147 ti_148 kd_148 ti_149 kd_149 ti_151 kd_151 ti_152 kd_152 ti_153 kd_153 ti_154 kd_154 ti_156 kd_156
attribute [go_sem] ti_157 kd_157 ti_158 kd_158 ti_159 kd_159 ti_161 kd_161 ti_162 kd_162 ti_163 kd_163 ti_166 kd_166 ti_167 kd_167 ti_170 kd_170 ti_171 kd_171 ti_172 kd_172 ti_179 kd_179
attribute [go_sem] ti_180 kd_180 ti_181 kd_181 ti_200 kd_200 ti_201 kd_201 ti_202 kd_202
attribute [go_sem] ti_204 kd_204 ti_216 kd_216 ti_218 kd_218
attribute [go_sem] ti_228 kd_228 ti_241 kd_241 kk_9 zf_0 zf_1 zf_2
attribute [go_sem] zf_3 zf_4 zf_5 zf_6 zf_7 zf_8 zf_9 zf_10 zf_11 zf_12 zf_13 zf_14 zf_15 zf_16 zf_17 zf_18 zf_19 zf_20 zf_21 zf_22 zf_23 zf_24 zf_25 zf_26 zf_27 zf_28 zf_29 zf_30 zf_31 zf_32 zf_33 zf_34 zf_35 zf_36 zf_37 zf_38 zf_39 zf_40 zf_41 zf_42
attribute [go_sem] zf_43 zf_44 zf_45 zf_46 zf_47 zf_48 zf_49 zf_50 zf_51 zf_52 zf_53 zf_54 zf_55 zf_56 zf_57 zf_58 zf_59 zf_60 zf_61 zf_62 zf_63 zf_64 zf_65 zf_66 zf_67 zf_68 zf_69 zf_70 zf_71 zf_72 zf_73 zf_74 zf_75 zf_76 zf_77 zf_78 zf_79 zf_80 zf_81 zf_82
attribute [go_sem] zf_83 zf_84 zf_85 zf_86 zf_87 zf_88 zf_89 zf_90 zf_92 zf_94 zf_96 zf_97 zf_98 zf_99 zf_100 zf_101 zf_102 zf_103 zf_104 zf_105 zf_106 zf_107 zf_108 zf_109 zf_110 zf_111 zf_112 zf_113 zf_114 zf_115 zf_116 zf_117 zf_118 zf_119 zf_120 zf_121 zf_122
attribute [go_sem] zf_123 zf_125 zf_127 zf_129 zf_130 zf_131 zf_132 zf_133 zf_134 zf_135 zf_136 zf_137 zf_138 zf_139 zf_143 zf_145 zf_146 zf_147 zf_148 zf_149 zf_150 zf_151 zf_152 zf_153 zf_154 zf_155 zf_156 zf_157 zf_158 zf_159 zf_160 zf_161 zf_162
attribute [go_sem] zf_163 zf_166 zf_167 zf_168 zf_170 zf_171 zf_172 zf_179 zf_180 zf_181 zf_182 zf_185 zf_200 zf_201 zf_202
attribute [go_sem] zf_204 zf_216 zf_218 zf_228 zf_241
attribute [go_sem] zf_244 zf_247 zf_250 zf_270 zf_273
attribute [go_sem] eq_7 ag_7 eq_8 ag_8 eq_26 ag_26 eq_27 ag_27 eq_29 ag_29 eq_30 ag_30 eq_56 ag_56 eq_57 ag_57 eq_113 ag_113 eq_114 ag_114
end Go.Proofs.YtmnohdgjkcjdeaaGreatDoor
