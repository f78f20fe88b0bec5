/- What the program's types are, as the machine reads them. -/
import Derived.Test.YtkekfenkeeiigaaDoorVc4
import Derived.Test.YtkekfenkeeiigaaDoorProg
import Derived.KernelRfl
namespace Go.Proofs.YtkekfenkeeiigaaDoor
open Go.Vc
theorem ti_0 : tiP Tryd.prog 0 = some ⟨false, 1, [.tuple #[]], .other⟩ := by kernel_rfl
theorem kd_0 : kindP Tryd.prog 0 = .other := by kernel_rfl
theorem ti_1 : tiP Tryd.prog 1 = some ⟨false, 1, [.nilFunc], .other⟩ := by kernel_rfl
theorem kd_1 : kindP Tryd.prog 1 = .other := by kernel_rfl
theorem ti_2 : tiP Tryd.prog 2 = some ⟨false, 1, [.int .i64 0], .int .i64⟩ := by kernel_rfl
theorem kd_2 : kindP Tryd.prog 2 = .int .i64 := by kernel_rfl
theorem ti_3 : tiP Tryd.prog 3 = some ⟨false, 1, [.int .i64 0], .int .i64⟩ := by kernel_rfl
theorem kd_3 : kindP Tryd.prog 3 = .int .i64 := by kernel_rfl
theorem ti_4 : tiP Tryd.prog 4 = some ⟨false, 1, [.bool false], .bool⟩ := by kernel_rfl
theorem kd_4 : kindP Tryd.prog 4 = .bool := by kernel_rfl
theorem ti_5 : tiP Tryd.prog 5 = some ⟨false, 1, [.int .u8 0], .int .u8⟩ := by kernel_rfl
theorem kd_5 : kindP Tryd.prog 5 = .int .u8 := by kernel_rfl
theorem ti_6 : tiP Tryd.prog 6 = some ⟨false, 1, [.int .u8 0], .int .u8⟩ := by kernel_rfl
theorem kd_6 : kindP Tryd.prog 6 = .int .u8 := by kernel_rfl
theorem ti_7 : tiP Tryd.prog 7 = some ⟨true, 4, [.int .i64 0, .int .i64 0, .bool false, .int .u8 0], .struct [(0, 1, false), (1, 1, false), (2, 1, false), (3, 1, false)]⟩ := by kernel_rfl
theorem kd_7 : kindP Tryd.prog 7 = .struct [(0, 1, false), (1, 1, false), (2, 1, false), (3, 1, false)] := by kernel_rfl
theorem ti_8 : tiP Tryd.prog 8 = some ⟨true, 4, [.int .i64 0, .int .i64 0, .bool false, .int .u8 0], .struct [(0, 1, false), (1, 1, false), (2, 1, false), (3, 1, false)]⟩ := by kernel_rfl
theorem kd_8 : kindP Tryd.prog 8 = .struct [(0, 1, false), (1, 1, false), (2, 1, false), (3, 1, false)] := by kernel_rfl
theorem ti_9 : tiP Tryd.prog 9 = some ⟨false, 1, [.string ⟨#[]⟩], .str⟩ := by kernel_rfl
theorem kd_9 : kindP Tryd.prog 9 = .str := by kernel_rfl
theorem ti_10 : tiP Tryd.prog 10 = some ⟨false, 1, [.string ⟨#[]⟩], .str⟩ := by kernel_rfl
theorem kd_10 : kindP Tryd.prog 10 = .str := by kernel_rfl
theorem ti_11 : tiP Tryd.prog 11 = some ⟨false, 1, [.string ⟨#[]⟩], .str⟩ := by kernel_rfl
theorem kd_11 : kindP Tryd.prog 11 = .str := by kernel_rfl
theorem ti_13 : tiP Tryd.prog 13 = some ⟨true, 2, [.string ⟨#[]⟩, .int .u64 0], .struct [(0, 1, false), (1, 1, false)]⟩ := by kernel_rfl
theorem kd_13 : kindP Tryd.prog 13 = .struct [(0, 1, false), (1, 1, false)] := by kernel_rfl
theorem ti_14 : tiP Tryd.prog 14 = some ⟨true, 2, [.string ⟨#[]⟩, .int .u64 0], .struct [(0, 1, false), (1, 1, false)]⟩ := by kernel_rfl
theorem kd_14 : kindP Tryd.prog 14 = .struct [(0, 1, false), (1, 1, false)] := by kernel_rfl
theorem ti_15 : tiP Tryd.prog 15 = some ⟨false, 1, [.pointer none], .ptr 195⟩ := by kernel_rfl
theorem kd_15 : kindP Tryd.prog 15 = .ptr 195 := by kernel_rfl
theorem ti_16 : tiP Tryd.prog 16 = some ⟨false, 1, [.pointer none], .ptr 198⟩ := by kernel_rfl
theorem kd_16 : kindP Tryd.prog 16 = .ptr 198 := by kernel_rfl
theorem ti_17 : tiP Tryd.prog 17 = some ⟨false, 1, [.pointer none], .ptr 205⟩ := by kernel_rfl
theorem kd_17 : kindP Tryd.prog 17 = .ptr 205 := by kernel_rfl
theorem ti_18 : tiP Tryd.prog 18 = some ⟨true, 1, [.pointer none], .struct [(0, 1, false)]⟩ := by kernel_rfl
theorem kd_18 : kindP Tryd.prog 18 = .struct [(0, 1, false)] := by kernel_rfl
theorem ti_19 : tiP Tryd.prog 19 = some ⟨true, 1, [.pointer none], .struct [(0, 1, false)]⟩ := by kernel_rfl
theorem kd_19 : kindP Tryd.prog 19 = .struct [(0, 1, false)] := by kernel_rfl
theorem ti_20 : tiP Tryd.prog 20 = some ⟨false, 1, [.nilIface], .other⟩ := by kernel_rfl
theorem kd_20 : kindP Tryd.prog 20 = .other := by kernel_rfl
theorem ti_21 : tiP Tryd.prog 21 = some ⟨false, 1, [.int .i32 0], .int .i32⟩ := by kernel_rfl
theorem kd_21 : kindP Tryd.prog 21 = .int .i32 := by kernel_rfl
theorem ti_22 : tiP Tryd.prog 22 = some ⟨false, 1, [.nilFunc], .other⟩ := by kernel_rfl
theorem kd_22 : kindP Tryd.prog 22 = .other := by kernel_rfl
theorem ti_24 : tiP Tryd.prog 24 = some ⟨false, 1, [.slice none 0 0], .slice 29 2 16 [.int .i64 0, .int .i64 0]⟩ := by kernel_rfl
theorem kd_24 : kindP Tryd.prog 24 = .slice 29 2 16 [.int .i64 0, .int .i64 0] := by kernel_rfl
theorem ti_25 : tiP Tryd.prog 25 = some ⟨false, 1, [.int .i64 0], .int .i64⟩ := by kernel_rfl
theorem kd_25 : kindP Tryd.prog 25 = .int .i64 := by kernel_rfl
theorem ti_28 : tiP Tryd.prog 28 = some ⟨false, 1, [.nilFunc], .other⟩ := by kernel_rfl
theorem kd_28 : kindP Tryd.prog 28 = .other := by kernel_rfl
theorem ti_29 : tiP Tryd.prog 29 = some ⟨true, 2, [.int .i64 0, .int .i64 0], .arr 2 3 1 false⟩ := by kernel_rfl
theorem kd_29 : kindP Tryd.prog 29 = .arr 2 3 1 false := by kernel_rfl
theorem ti_30 : tiP Tryd.prog 30 = some ⟨false, 1, [.nilFunc], .other⟩ := by kernel_rfl
theorem kd_30 : kindP Tryd.prog 30 = .other := by kernel_rfl
theorem ti_31 : tiP Tryd.prog 31 = some ⟨false, 1, [.slice none 0 0], .slice 9 1 16 [.string ⟨#[]⟩]⟩ := by kernel_rfl
theorem kd_31 : kindP Tryd.prog 31 = .slice 9 1 16 [.string ⟨#[]⟩] := by kernel_rfl
theorem ti_32 : tiP Tryd.prog 32 = some ⟨false, 1, [.nilFunc], .other⟩ := by kernel_rfl
theorem kd_32 : kindP Tryd.prog 32 = .other := by kernel_rfl
theorem ti_34 : tiP Tryd.prog 34 = some ⟨false, 1, [.nilFunc], .other⟩ := by kernel_rfl
theorem kd_34 : kindP Tryd.prog 34 = .other := by kernel_rfl
theorem ti_35 : tiP Tryd.prog 35 = some ⟨false, 1, [.nilFunc], .other⟩ := by kernel_rfl
theorem kd_35 : kindP Tryd.prog 35 = .other := by kernel_rfl
theorem ti_39 : tiP Tryd.prog 39 = some ⟨false, 1, [.slice none 0 0], .slice 49 3 32 [.int .i64 0, .int .i64 0, .string ⟨#[]⟩]⟩ := by kernel_rfl
theorem kd_39 : kindP Tryd.prog 39 = .slice 49 3 32 [.int .i64 0, .int .i64 0, .string ⟨#[]⟩] := by kernel_rfl
theorem ti_40 : tiP Tryd.prog 40 = some ⟨true, 5, [.int .i64 0, .int .i64 0, .string ⟨#[]⟩, .string ⟨#[]⟩, .slice none 0 0], .struct [(0, 1, false), (1, 1, false), (2, 1, false), (3, 1, false), (4, 1, false)]⟩ := by kernel_rfl
theorem kd_40 : kindP Tryd.prog 40 = .struct [(0, 1, false), (1, 1, false), (2, 1, false), (3, 1, false), (4, 1, false)] := by kernel_rfl
theorem ti_41 : tiP Tryd.prog 41 = some ⟨true, 5, [.int .i64 0, .int .i64 0, .string ⟨#[]⟩, .string ⟨#[]⟩, .slice none 0 0], .struct [(0, 1, false), (1, 1, false), (2, 1, false), (3, 1, false), (4, 1, false)]⟩ := by kernel_rfl
theorem kd_41 : kindP Tryd.prog 41 = .struct [(0, 1, false), (1, 1, false), (2, 1, false), (3, 1, false), (4, 1, false)] := by kernel_rfl
theorem ti_43 : tiP Tryd.prog 43 = some ⟨false, 1, [.nilFunc], .other⟩ := by kernel_rfl
theorem kd_43 : kindP Tryd.prog 43 = .other := by kernel_rfl
theorem ti_44 : tiP Tryd.prog 44 = some ⟨false, 1, [.slice none 0 0], .slice 5 1 1 [.int .u8 0]⟩ := by kernel_rfl
theorem kd_44 : kindP Tryd.prog 44 = .slice 5 1 1 [.int .u8 0] := by kernel_rfl
theorem ti_46 : tiP Tryd.prog 46 = some ⟨false, 1, [.nilFunc], .other⟩ := by kernel_rfl
theorem kd_46 : kindP Tryd.prog 46 = .other := by kernel_rfl
theorem ti_47 : tiP Tryd.prog 47 = some ⟨false, 1, [.nilFunc], .other⟩ := by kernel_rfl
theorem kd_47 : kindP Tryd.prog 47 = .other := by kernel_rfl
theorem ti_48 : tiP Tryd.prog 48 = some ⟨true, 3, [.int .i64 0, .int .i64 0, .string ⟨#[]⟩], .struct [(0, 1, false), (1, 1, false), (2, 1, false)]⟩ := by kernel_rfl
theorem kd_48 : kindP Tryd.prog 48 = .struct [(0, 1, false), (1, 1, false), (2, 1, false)] := by kernel_rfl
theorem ti_49 : tiP Tryd.prog 49 = some ⟨true, 3, [.int .i64 0, .int .i64 0, .string ⟨#[]⟩], .struct [(0, 1, false), (1, 1, false), (2, 1, false)]⟩ := by kernel_rfl
theorem kd_49 : kindP Tryd.prog 49 = .struct [(0, 1, false), (1, 1, false), (2, 1, false)] := by kernel_rfl
theorem ti_50 : tiP Tryd.prog 50 = some ⟨false, 1, [.nilFunc], .other⟩ := by kernel_rfl
theorem kd_50 : kindP Tryd.prog 50 = .other := by kernel_rfl
theorem ti_51 : tiP Tryd.prog 51 = some ⟨false, 1, [.nilFunc], .other⟩ := by kernel_rfl
theorem kd_51 : kindP Tryd.prog 51 = .other := by kernel_rfl
theorem ti_52 : tiP Tryd.prog 52 = some ⟨false, 1, [.nilFunc], .other⟩ := by kernel_rfl
theorem kd_52 : kindP Tryd.prog 52 = .other := by kernel_rfl
theorem ti_54 : tiP Tryd.prog 54 = some ⟨false, 1, [.nilFunc], .other⟩ := by kernel_rfl
theorem kd_54 : kindP Tryd.prog 54 = .other := by kernel_rfl
theorem ti_57 : tiP Tryd.prog 57 = some ⟨false, 1, [.slice none 0 0], .slice 3 1 8 [.int .i64 0]⟩ := by kernel_rfl
theorem kd_57 : kindP Tryd.prog 57 = .slice 3 1 8 [.int .i64 0] := by kernel_rfl
theorem ti_58 : tiP Tryd.prog 58 = some ⟨false, 1, [.slice none 0 0], .slice 63 3 24 [.int .i64 0, .int .i64 0, .int .i64 0]⟩ := by kernel_rfl
theorem kd_58 : kindP Tryd.prog 58 = .slice 63 3 24 [.int .i64 0, .int .i64 0, .int .i64 0] := by kernel_rfl
theorem ti_59 : tiP Tryd.prog 59 = some ⟨false, 1, [.map none], .map 29 41⟩ := by kernel_rfl
theorem kd_59 : kindP Tryd.prog 59 = .map 29 41 := by kernel_rfl
theorem ti_61 : tiP Tryd.prog 61 = some ⟨false, 1, [.nilFunc], .other⟩ := by kernel_rfl
theorem kd_61 : kindP Tryd.prog 61 = .other := by kernel_rfl
theorem ti_62 : tiP Tryd.prog 62 = some ⟨true, 3, [.int .i64 0, .int .i64 0, .int .i64 0], .struct [(0, 1, false), (1, 1, false), (2, 1, false)]⟩ := by kernel_rfl
theorem kd_62 : kindP Tryd.prog 62 = .struct [(0, 1, false), (1, 1, false), (2, 1, false)] := by kernel_rfl
theorem ti_66 : tiP Tryd.prog 66 = some ⟨false, 1, [.nilFunc], .other⟩ := by kernel_rfl
theorem kd_66 : kindP Tryd.prog 66 = .other := by kernel_rfl
theorem ti_70 : tiP Tryd.prog 70 = some ⟨false, 1, [.nilFunc], .other⟩ := by kernel_rfl
theorem kd_70 : kindP Tryd.prog 70 = .other := by kernel_rfl
theorem ti_71 : tiP Tryd.prog 71 = some ⟨false, 1, [.nilFunc], .other⟩ := by kernel_rfl
theorem kd_71 : kindP Tryd.prog 71 = .other := by kernel_rfl
theorem ti_74 : tiP Tryd.prog 74 = some ⟨false, 1, [.slice none 0 0], .slice 57 1 24 [.slice none 0 0]⟩ := by kernel_rfl
theorem kd_74 : kindP Tryd.prog 74 = .slice 57 1 24 [.slice none 0 0] := by kernel_rfl
theorem ti_75 : tiP Tryd.prog 75 = some ⟨false, 1, [.nilFunc], .other⟩ := by kernel_rfl
theorem kd_75 : kindP Tryd.prog 75 = .other := by kernel_rfl
theorem ti_78 : tiP Tryd.prog 78 = some ⟨false, 1, [.nilFunc], .other⟩ := by kernel_rfl
theorem kd_78 : kindP Tryd.prog 78 = .other := by kernel_rfl
theorem ti_79 : tiP Tryd.prog 79 = some ⟨false, 1, [.pointer none], .ptr 81⟩ := by kernel_rfl
theorem kd_79 : kindP Tryd.prog 79 = .ptr 81 := by kernel_rfl
theorem ti_81 : tiP Tryd.prog 81 = some ⟨true, 2, [.pointer none, .slice none 0 0], .struct [(0, 1, false), (1, 1, false)]⟩ := by kernel_rfl
theorem kd_81 : kindP Tryd.prog 81 = .struct [(0, 1, false), (1, 1, false)] := by kernel_rfl
theorem ti_83 : tiP Tryd.prog 83 = some ⟨false, 1, [.nilFunc], .other⟩ := by kernel_rfl
theorem kd_83 : kindP Tryd.prog 83 = .other := by kernel_rfl
theorem ti_86 : tiP Tryd.prog 86 = some ⟨false, 1, [.nilIface], .other⟩ := by kernel_rfl
theorem kd_86 : kindP Tryd.prog 86 = .other := by kernel_rfl
theorem ti_89 : tiP Tryd.prog 89 = some ⟨false, 1, [.nilFunc], .other⟩ := by kernel_rfl
theorem kd_89 : kindP Tryd.prog 89 = .other := by kernel_rfl
theorem ti_91 : tiP Tryd.prog 91 = some ⟨false, 1, [.nilFunc], .other⟩ := by kernel_rfl
theorem kd_91 : kindP Tryd.prog 91 = .other := by kernel_rfl
theorem ti_92 : tiP Tryd.prog 92 = some ⟨false, 1, [.nilFunc], .other⟩ := by kernel_rfl
theorem kd_92 : kindP Tryd.prog 92 = .other := by kernel_rfl
theorem ti_93 : tiP Tryd.prog 93 = some ⟨false, 1, [.nilFunc], .other⟩ := by kernel_rfl
theorem kd_93 : kindP Tryd.prog 93 = .other := by kernel_rfl
theorem ti_94 : tiP Tryd.prog 94 = some ⟨false, 1, [.nilFunc], .other⟩ := by kernel_rfl
theorem kd_94 : kindP Tryd.prog 94 = .other := by kernel_rfl
theorem ti_95 : tiP Tryd.prog 95 = some ⟨false, 1, [.int .u64 0], .int .u64⟩ := by kernel_rfl
theorem kd_95 : kindP Tryd.prog 95 = .int .u64 := by kernel_rfl
theorem ti_97 : tiP Tryd.prog 97 = some ⟨false, 1, [.nilFunc], .other⟩ := by kernel_rfl
theorem kd_97 : kindP Tryd.prog 97 = .other := by kernel_rfl
theorem ti_98 : tiP Tryd.prog 98 = some ⟨false, 1, [.nilFunc], .other⟩ := by kernel_rfl
theorem kd_98 : kindP Tryd.prog 98 = .other := by kernel_rfl
theorem ti_99 : tiP Tryd.prog 99 = some ⟨false, 1, [.pointer none], .ptr 141⟩ := by kernel_rfl
theorem kd_99 : kindP Tryd.prog 99 = .ptr 141 := by kernel_rfl
theorem ti_100 : tiP Tryd.prog 100 = some ⟨false, 1, [.nilFunc], .other⟩ := by kernel_rfl
theorem kd_100 : kindP Tryd.prog 100 = .other := by kernel_rfl
theorem ti_102 : tiP Tryd.prog 102 = some ⟨false, 1, [.nilFunc], .other⟩ := by kernel_rfl
theorem kd_102 : kindP Tryd.prog 102 = .other := by kernel_rfl
theorem ti_103 : tiP Tryd.prog 103 = some ⟨false, 1, [.nilFunc], .other⟩ := by kernel_rfl
theorem kd_103 : kindP Tryd.prog 103 = .other := by kernel_rfl
theorem ti_104 : tiP Tryd.prog 104 = some ⟨false, 1, [.nilFunc], .other⟩ := by kernel_rfl
theorem kd_104 : kindP Tryd.prog 104 = .other := by kernel_rfl
theorem ti_105 : tiP Tryd.prog 105 = some ⟨false, 1, [.pointer none], .ptr 107⟩ := by kernel_rfl
theorem kd_105 : kindP Tryd.prog 105 = .ptr 107 := by kernel_rfl
theorem ti_108 : tiP Tryd.prog 108 = some ⟨false, 1, [.nilFunc], .other⟩ := by kernel_rfl
theorem kd_108 : kindP Tryd.prog 108 = .other := by kernel_rfl
theorem ti_110 : tiP Tryd.prog 110 = some ⟨false, 1, [.nilFunc], .other⟩ := by kernel_rfl
theorem kd_110 : kindP Tryd.prog 110 = .other := by kernel_rfl
theorem ti_111 : tiP Tryd.prog 111 = some ⟨false, 1, [.nilFunc], .other⟩ := by kernel_rfl
theorem kd_111 : kindP Tryd.prog 111 = .other := by kernel_rfl
theorem ti_112 : tiP Tryd.prog 112 = some ⟨false, 1, [.nilFunc], .other⟩ := by kernel_rfl
theorem kd_112 : kindP Tryd.prog 112 = .other := by kernel_rfl
theorem ti_113 : tiP Tryd.prog 113 = some ⟨false, 1, [.slice none 0 0], .slice 115 4 40 [.int .i64 0, .slice none 0 0, .bool false, .bool false]⟩ := by kernel_rfl
theorem kd_113 : kindP Tryd.prog 113 = .slice 115 4 40 [.int .i64 0, .slice none 0 0, .bool false, .bool false] := by kernel_rfl
theorem ti_114 : tiP Tryd.prog 114 = some ⟨true, 4, [.int .i64 0, .slice none 0 0, .bool false, .bool false], .struct [(0, 1, false), (1, 1, false), (2, 1, false), (3, 1, false)]⟩ := by kernel_rfl
theorem kd_114 : kindP Tryd.prog 114 = .struct [(0, 1, false), (1, 1, false), (2, 1, false), (3, 1, false)] := by kernel_rfl
theorem ti_115 : tiP Tryd.prog 115 = some ⟨true, 4, [.int .i64 0, .slice none 0 0, .bool false, .bool false], .struct [(0, 1, false), (1, 1, false), (2, 1, false), (3, 1, false)]⟩ := by kernel_rfl
theorem kd_115 : kindP Tryd.prog 115 = .struct [(0, 1, false), (1, 1, false), (2, 1, false), (3, 1, false)] := by kernel_rfl
theorem ti_116 : tiP Tryd.prog 116 = some ⟨false, 1, [.nilFunc], .other⟩ := by kernel_rfl
theorem kd_116 : kindP Tryd.prog 116 = .other := by kernel_rfl
theorem ti_117 : tiP Tryd.prog 117 = some ⟨false, 1, [.nilFunc], .other⟩ := by kernel_rfl
theorem kd_117 : kindP Tryd.prog 117 = .other := by kernel_rfl
theorem ti_118 : tiP Tryd.prog 118 = some ⟨false, 1, [.nilFunc], .other⟩ := by kernel_rfl
theorem kd_118 : kindP Tryd.prog 118 = .other := by kernel_rfl
theorem ti_119 : tiP Tryd.prog 119 = some ⟨false, 1, [.nilFunc], .other⟩ := by kernel_rfl
theorem kd_119 : kindP Tryd.prog 119 = .other := by kernel_rfl
theorem ti_121 : tiP Tryd.prog 121 = some ⟨false, 1, [.int .u64 0], .int .u64⟩ := by kernel_rfl
theorem kd_121 : kindP Tryd.prog 121 = .int .u64 := by kernel_rfl
theorem ti_124 : tiP Tryd.prog 124 = some ⟨false, 1, [.nilFunc], .other⟩ := by kernel_rfl
theorem kd_124 : kindP Tryd.prog 124 = .other := by kernel_rfl
theorem ti_125 : tiP Tryd.prog 125 = some ⟨false, 1, [.map none], .map 9 3⟩ := by kernel_rfl
theorem kd_125 : kindP Tryd.prog 125 = .map 9 3 := by kernel_rfl
theorem ti_127 : tiP Tryd.prog 127 = some ⟨false, 1, [.nilFunc], .other⟩ := by kernel_rfl
theorem kd_127 : kindP Tryd.prog 127 = .other := by kernel_rfl
theorem ti_128 : tiP Tryd.prog 128 = some ⟨false, 1, [.nilFunc], .other⟩ := by kernel_rfl
theorem kd_128 : kindP Tryd.prog 128 = .other := by kernel_rfl
theorem ti_129 : tiP Tryd.prog 129 = some ⟨false, 1, [.pointer none], .ptr 5⟩ := by kernel_rfl
theorem kd_129 : kindP Tryd.prog 129 = .ptr 5 := by kernel_rfl
theorem ti_131 : tiP Tryd.prog 131 = some ⟨false, 1, [.int .u32 0], .int .u32⟩ := by kernel_rfl
theorem kd_131 : kindP Tryd.prog 131 = .int .u32 := by kernel_rfl
theorem ti_141 : tiP Tryd.prog 141 = some ⟨true, 2, [.slice none 0 0, .int .i64 0], .struct [(0, 1, false), (1, 1, false)]⟩ := by kernel_rfl
theorem kd_141 : kindP Tryd.prog 141 = .struct [(0, 1, false), (1, 1, false)] := by kernel_rfl
theorem ti_142 : tiP Tryd.prog 142 = some ⟨false, 1, [.nilFunc], .other⟩ := by kernel_rfl
theorem kd_142 : kindP Tryd.prog 142 = .other := by kernel_rfl
theorem ti_143 : tiP Tryd.prog 143 = some ⟨false, 1, [.nilFunc], .other⟩ := by kernel_rfl
theorem kd_143 : kindP Tryd.prog 143 = .other := by kernel_rfl
theorem ti_150 : tiP Tryd.prog 150 = some ⟨false, 1, [.nilFunc], .other⟩ := by kernel_rfl
theorem kd_150 : kindP Tryd.prog 150 = .other := by kernel_rfl
theorem ti_152 : tiP Tryd.prog 152 = some ⟨false, 1, [.pointer none], .other⟩ := by kernel_rfl
theorem kd_152 : kindP Tryd.prog 152 = .other := by kernel_rfl
theorem ti_159 : tiP Tryd.prog 159 = some ⟨false, 1, [.nilFunc], .other⟩ := by kernel_rfl
theorem kd_159 : kindP Tryd.prog 159 = .other := by kernel_rfl
theorem ti_161 : tiP Tryd.prog 161 = some ⟨false, 1, [.nilFunc], .other⟩ := by kernel_rfl
theorem kd_161 : kindP Tryd.prog 161 = .other := by kernel_rfl
theorem ti_171 : tiP Tryd.prog 171 = some ⟨false, 1, [.pointer none], .ptr 180⟩ := by kernel_rfl
theorem kd_171 : kindP Tryd.prog 171 = .ptr 180 := by kernel_rfl
theorem ti_183 : tiP Tryd.prog 183 = some ⟨true, 256, [.int .u8 0, .int .u8 0, .int .u8 0, .int .u8 0, .int .u8 0, .int .u8 0, .int .u8 0, .int .u8 0, .int .u8 0, .int .u8 0, .int .u8 0, .int .u8 0, .int .u8 0, .int .u8 0, .int .u8 0, .int .u8 0, .int .u8 0, .int .u8 0, .int .u8 0, .int .u8 0, .int .u8 0, .int .u8 0, .int .u8 0, .int .u8 0, .int .u8 0, .int .u8 0, .int .u8 0, .int .u8 0, .int .u8 0, .int .u8 0, .int .u8 0, .int .u8 0, .int .u8 0, .int .u8 0, .int .u8 0, .int .u8 0, .int .u8 0, .int .u8 0, .int .u8 0, .int .u8 0, .int .u8 0, .int .u8 0, .int .u8 0, .int .u8 0, .int .u8 0, .int .u8 0, .int .u8 0, .int .u8 0, .int .u8 0, .int .u8 0, .int .u8 0, .int .u8 0, .int .u8 0, .int .u8 0, .int .u8 0, .int .u8 0, .int .u8 0, .int .u8 0, .int .u8 0, .int .u8 0, .int .u8 0, .int .u8 0, .int .u8 0, .int .u8 0, .int .u8 0, .int .u8 0, .int .u8 0, .int .u8 0, .int .u8 0, .int .u8 0, .int .u8 0, .int .u8 0, .int .u8 0, .int .u8 0, .int .u8 0, .int .u8 0, .int .u8 0, .int .u8 0, .int .u8 0, .int .u8 0, .int .u8 0, .int .u8 0, .int .u8 0, .int .u8 0, .int .u8 0, .int .u8 0, .int .u8 0, .int .u8 0, .int .u8 0, .int .u8 0, .int .u8 0, .int .u8 0, .int .u8 0, .int .u8 0, .int .u8 0, .int .u8 0, .int .u8 0, .int .u8 0, .int .u8 0, .int .u8 0, .int .u8 0, .int .u8 0, .int .u8 0, .int .u8 0, .int .u8 0, .int .u8 0, .int .u8 0, .int .u8 0, .int .u8 0, .int .u8 0, .int .u8 0, .int .u8 0, .int .u8 0, .int .u8 0, .int .u8 0, .int .u8 0, .int .u8 0, .int .u8 0, .int .u8 0, .int .u8 0, .int .u8 0, .int .u8 0, .int .u8 0, .int .u8 0, .int .u8 0, .int .u8 0, .int .u8 0, .int .u8 0, .int .u8 0, .int .u8 0, .int .u8 0, .int .u8 0, .int .u8 0, .int .u8 0, .int .u8 0, .int .u8 0, .int .u8 0, .int .u8 0, .int .u8 0, .int .u8 0, .int .u8 0, .int .u8 0, .int .u8 0, .int .u8 0, .int .u8 0, .int .u8 0, .int .u8 0, .int .u8 0, .int .u8 0, .int .u8 0, .int .u8 0, .int .u8 0, .int .u8 0, .int .u8 0, .int .u8 0, .int .u8 0, .int .u8 0, .int .u8 0, .int .u8 0, .int .u8 0, .int .u8 0, .int .u8 0, .int .u8 0, .int .u8 0, .int .u8 0, .int .u8 0, .int .u8 0, .int .u8 0, .int .u8 0, .int .u8 0, .int .u8 0, .int .u8 0, .int .u8 0, .int .u8 0, .int .u8 0, .int .u8 0, .int .u8 0, .int .u8 0, .int .u8 0, .int .u8 0, .int .u8 0, .int .u8 0, .int .u8 0, .int .u8 0, .int .u8 0, .int .u8 0, .int .u8 0, .int .u8 0, .int .u8 0, .int .u8 0, .int .u8 0, .int .u8 0, .int .u8 0, .int .u8 0, .int .u8 0, .int .u8 0, .int .u8 0, .int .u8 0, .int .u8 0, .int .u8 0, .int .u8 0, .int .u8 0, .int .u8 0, .int .u8 0, .int .u8 0, .int .u8 0, .int .u8 0, .int .u8 0, .int .u8 0, .int .u8 0, .int .u8 0, .int .u8 0, .int .u8 0, .int .u8 0, .int .u8 0, .int .u8 0, .int .u8 0, .int .u8 0, .int .u8 0, .int .u8 0, .int .u8 0, .int .u8 0, .int .u8 0, .int .u8 0, .int .u8 0, .int .u8 0, .int .u8 0, .int .u8 0, .int .u8 0, .int .u8 0, .int .u8 0, .int .u8 0, .int .u8 0, .int .u8 0, .int .u8 0, .int .u8 0, .int .u8 0, .int .u8 0, .int .u8 0, .int .u8 0, .int .u8 0, .int .u8 0, .int .u8 0, .int .u8 0, .int .u8 0, .int .u8 0, .int .u8 0, .int .u8 0, .int .u8 0, .int .u8 0, .int .u8 0, .int .u8 0, .int .u8 0, .int .u8 0, .int .u8 0, .int .u8 0], .arr 256 5 1 false⟩ := by kernel_rfl
theorem kd_183 : kindP Tryd.prog 183 = .arr 256 5 1 false := by kernel_rfl
theorem ti_191 : tiP Tryd.prog 191 = some ⟨true, 32, [.int .u8 0, .int .u8 0, .int .u8 0, .int .u8 0, .int .u8 0, .int .u8 0, .int .u8 0, .int .u8 0, .int .u8 0, .int .u8 0, .int .u8 0, .int .u8 0, .int .u8 0, .int .u8 0, .int .u8 0, .int .u8 0, .int .u8 0, .int .u8 0, .int .u8 0, .int .u8 0, .int .u8 0, .int .u8 0, .int .u8 0, .int .u8 0, .int .u8 0, .int .u8 0, .int .u8 0, .int .u8 0, .int .u8 0, .int .u8 0, .int .u8 0, .int .u8 0], .arr 32 5 1 false⟩ := by kernel_rfl
theorem kd_191 : kindP Tryd.prog 191 = .arr 32 5 1 false := by kernel_rfl
theorem ti_202 : tiP Tryd.prog 202 = some ⟨false, 1, [.int .i32 0], .int .i32⟩ := by kernel_rfl
theorem kd_202 : kindP Tryd.prog 202 = .int .i32 := by kernel_rfl
theorem kk_9 : kkP Tryd.prog 9 = .tk .str := by kernel_rfl
theorem kk_29 : kkP Tryd.prog 29 = .tk (.arr 2 3 1 false) := by kernel_rfl
theorem zf_0 : zfP Tryd.prog 0 = false := by kernel_rfl
theorem zf_1 : zfP Tryd.prog 1 = false := by kernel_rfl
theorem zf_2 : zfP Tryd.prog 2 = false := by kernel_rfl
theorem zf_3 : zfP Tryd.prog 3 = false := by kernel_rfl
theorem zf_4 : zfP Tryd.prog 4 = false := by kernel_rfl
theorem zf_5 : zfP Tryd.prog 5 = false := by kernel_rfl
theorem zf_6 : zfP Tryd.prog 6 = false := by kernel_rfl
theorem zf_7 : zfP Tryd.prog 7 = true := by kernel_rfl
theorem zf_8 : zfP Tryd.prog 8 = true := by kernel_rfl
theorem zf_9 : zfP Tryd.prog 9 = false := by kernel_rfl
theorem zf_10 : zfP Tryd.prog 10 = false := by kernel_rfl
theorem zf_11 : zfP Tryd.prog 11 = false := by kernel_rfl
theorem zf_13 : zfP Tryd.prog 13 = true := by kernel_rfl
theorem zf_14 : zfP Tryd.prog 14 = true := by kernel_rfl
theorem zf_15 : zfP Tryd.prog 15 = false := by kernel_rfl
theorem zf_16 : zfP Tryd.prog 16 = false := by kernel_rfl
theorem zf_17 : zfP Tryd.prog 17 = false := by kernel_rfl
theorem zf_18 : zfP Tryd.prog 18 = true := by kernel_rfl
theorem zf_19 : zfP Tryd.prog 19 = true := by kernel_rfl
theorem zf_20 : zfP Tryd.prog 20 = false := by kernel_rfl
theorem zf_21 : zfP Tryd.prog 21 = false := by kernel_rfl
theorem zf_22 : zfP Tryd.prog 22 = false := by kernel_rfl
theorem zf_24 : zfP Tryd.prog 24 = false := by kernel_rfl
theorem zf_25 : zfP Tryd.prog 25 = false := by kernel_rfl
theorem zf_26 : zfP Tryd.prog 26 = false := by kernel_rfl
theorem zf_28 : zfP Tryd.prog 28 = false := by kernel_rfl
theorem zf_29 : zfP Tryd.prog 29 = true := by kernel_rfl
theorem zf_30 : zfP Tryd.prog 30 = false := by kernel_rfl
theorem zf_31 : zfP Tryd.prog 31 = false := by kernel_rfl
theorem zf_32 : zfP Tryd.prog 32 = false := by kernel_rfl
theorem zf_33 : zfP Tryd.prog 33 = false := by kernel_rfl
theorem zf_34 : zfP Tryd.prog 34 = false := by kernel_rfl
theorem zf_35 : zfP Tryd.prog 35 = false := by kernel_rfl
theorem zf_39 : zfP Tryd.prog 39 = false := by kernel_rfl
theorem zf_40 : zfP Tryd.prog 40 = true := by kernel_rfl
theorem zf_41 : zfP Tryd.prog 41 = true := by kernel_rfl
theorem zf_42 : zfP Tryd.prog 42 = false := by kernel_rfl
theorem zf_43 : zfP Tryd.prog 43 = false := by kernel_rfl
theorem zf_44 : zfP Tryd.prog 44 = false := by kernel_rfl
theorem zf_45 : zfP Tryd.prog 45 = false := by kernel_rfl
theorem zf_46 : zfP Tryd.prog 46 = false := by kernel_rfl
theorem zf_47 : zfP Tryd.prog 47 = false := by kernel_rfl
theorem zf_48 : zfP Tryd.prog 48 = true := by kernel_rfl
theorem zf_49 : zfP Tryd.prog 49 = true := by kernel_rfl
theorem zf_50 : zfP Tryd.prog 50 = false := by kernel_rfl
theorem zf_51 : zfP Tryd.prog 51 = false := by kernel_rfl
theorem zf_52 : zfP Tryd.prog 52 = false := by kernel_rfl
theorem zf_54 : zfP Tryd.prog 54 = false := by kernel_rfl
theorem zf_57 : zfP Tryd.prog 57 = false := by kernel_rfl
theorem zf_58 : zfP Tryd.prog 58 = false := by kernel_rfl
theorem zf_59 : zfP Tryd.prog 59 = false := by kernel_rfl
theorem zf_60 : zfP Tryd.prog 60 = false := by kernel_rfl
theorem zf_61 : zfP Tryd.prog 61 = false := by kernel_rfl
theorem zf_62 : zfP Tryd.prog 62 = true := by kernel_rfl
theorem zf_66 : zfP Tryd.prog 66 = false := by kernel_rfl
theorem zf_70 : zfP Tryd.prog 70 = false := by kernel_rfl
theorem zf_71 : zfP Tryd.prog 71 = false := by kernel_rfl
theorem zf_74 : zfP Tryd.prog 74 = false := by kernel_rfl
theorem zf_75 : zfP Tryd.prog 75 = false := by kernel_rfl
theorem zf_78 : zfP Tryd.prog 78 = false := by kernel_rfl
theorem zf_79 : zfP Tryd.prog 79 = false := by kernel_rfl
theorem zf_81 : zfP Tryd.prog 81 = true := by kernel_rfl
theorem zf_82 : zfP Tryd.prog 82 = false := by kernel_rfl
theorem zf_83 : zfP Tryd.prog 83 = false := by kernel_rfl
theorem zf_86 : zfP Tryd.prog 86 = false := by kernel_rfl
theorem zf_87 : zfP Tryd.prog 87 = false := by kernel_rfl
theorem zf_89 : zfP Tryd.prog 89 = false := by kernel_rfl
theorem zf_91 : zfP Tryd.prog 91 = false := by kernel_rfl
theorem zf_92 : zfP Tryd.prog 92 = false := by kernel_rfl
theorem zf_93 : zfP Tryd.prog 93 = false := by kernel_rfl
theorem zf_94 : zfP Tryd.prog 94 = false := by kernel_rfl
theorem zf_95 : zfP Tryd.prog 95 = false := by kernel_rfl
theorem zf_96 : zfP Tryd.prog 96 = false := by kernel_rfl
theorem zf_97 : zfP Tryd.prog 97 = false := by kernel_rfl
theorem zf_98 : zfP Tryd.prog 98 = false := by kernel_rfl
theorem zf_99 : zfP Tryd.prog 99 = false := by kernel_rfl
theorem zf_100 : zfP Tryd.prog 100 = false := by kernel_rfl
theorem zf_101 : zfP Tryd.prog 101 = false := by kernel_rfl
theorem zf_102 : zfP Tryd.prog 102 = false := by kernel_rfl
theorem zf_103 : zfP Tryd.prog 103 = false := by kernel_rfl
theorem zf_104 : zfP Tryd.prog 104 = false := by kernel_rfl
theorem zf_105 : zfP Tryd.prog 105 = false := by kernel_rfl
theorem zf_108 : zfP Tryd.prog 108 = false := by kernel_rfl
theorem zf_110 : zfP Tryd.prog 110 = false := by kernel_rfl
theorem zf_111 : zfP Tryd.prog 111 = false := by kernel_rfl
theorem zf_112 : zfP Tryd.prog 112 = false := by kernel_rfl
theorem zf_113 : zfP Tryd.prog 113 = false := by kernel_rfl
theorem zf_114 : zfP Tryd.prog 114 = true := by kernel_rfl
theorem zf_115 : zfP Tryd.prog 115 = true := by kernel_rfl
theorem zf_116 : zfP Tryd.prog 116 = false := by kernel_rfl
theorem zf_117 : zfP Tryd.prog 117 = false := by kernel_rfl
theorem zf_118 : zfP Tryd.prog 118 = false := by kernel_rfl
theorem zf_119 : zfP Tryd.prog 119 = false := by kernel_rfl
theorem zf_121 : zfP Tryd.prog 121 = false := by kernel_rfl
theorem zf_124 : zfP Tryd.prog 124 = false := by kernel_rfl
theorem zf_125 : zfP Tryd.prog 125 = false := by kernel_rfl
theorem zf_127 : zfP Tryd.prog 127 = false := by kernel_rfl
theorem zf_128 : zfP Tryd.prog 128 = false := by kernel_rfl
theorem zf_129 : zfP Tryd.prog 129 = false := by kernel_rfl
theorem zf_131 : zfP Tryd.prog 131 = false := by kernel_rfl
theorem zf_132 : zfP Tryd.prog 132 = false := by kernel_rfl
theorem zf_134 : zfP Tryd.prog 134 = false := by kernel_rfl
theorem zf_141 : zfP Tryd.prog 141 = true := by kernel_rfl
theorem zf_142 : zfP Tryd.prog 142 = false := by kernel_rfl
theorem zf_143 : zfP Tryd.prog 143 = false := by kernel_rfl
theorem zf_144 : zfP Tryd.prog 144 = false := by kernel_rfl
theorem zf_149 : zfP Tryd.prog 149 = false := by kernel_rfl
theorem zf_150 : zfP Tryd.prog 150 = false := by kernel_rfl
theorem zf_152 : zfP Tryd.prog 152 = false := by kernel_rfl
theorem zf_159 : zfP Tryd.prog 159 = false := by kernel_rfl
theorem zf_161 : zfP Tryd.prog 161 = false := by kernel_rfl
theorem zf_171 : zfP Tryd.prog 171 = false := by kernel_rfl
theorem zf_183 : zfP Tryd.prog 183 = true := by kernel_rfl
theorem zf_191 : zfP Tryd.prog 191 = true := by kernel_rfl
theorem zf_202 : zfP Tryd.prog 202 = false := by kernel_rfl
theorem eq_7 : eqTyP Tryd.prog 7 = some [.i .i64, .i .i64, .b, .i .u8] := by kernel_rfl
theorem ag_7 : aggP Tryd.prog 7 = true := by kernel_rfl
theorem eq_8 : eqTyP Tryd.prog 8 = some [.i .i64, .i .i64, .b, .i .u8] := by kernel_rfl
theorem ag_8 : aggP Tryd.prog 8 = true := by kernel_rfl
theorem eq_29 : eqTyP Tryd.prog 29 = some [.i .i64, .i .i64] := by kernel_rfl
theorem ag_29 : aggP Tryd.prog 29 = true := by kernel_rfl
theorem eq_48 : eqTyP Tryd.prog 48 = some [.i .i64, .i .i64, .s] := by kernel_rfl
theorem ag_48 : aggP Tryd.prog 48 = true := by kernel_rfl
theorem eq_49 : eqTyP Tryd.prog 49 = some [.i .i64, .i .i64, .s] := by kernel_rfl
theorem ag_49 : aggP Tryd.prog 49 = true := by kernel_rfl
theorem eq_62 : eqTyP Tryd.prog 62 = some [.i .i64, .i .i64, .i .i64] := by kernel_rfl
theorem ag_62 : aggP Tryd.prog 62 = true := by kernel_rfl
theorem eq_191 : eqTyP Tryd.prog 191 = some [.i .u8, .i .u8, .i .u8, .i .u8, .i .u8, .i .u8, .i .u8, .i .u8, .i .u8, .i .u8, .i .u8, .i .u8, .i .u8, .i .u8, .i .u8, .i .u8, .i .u8, .i .u8, .i .u8, .i .u8, .i .u8, .i .u8, .i .u8, .i .u8, .i .u8, .i .u8, .i .u8, .i .u8, .i .u8, .i .u8, .i .u8, .i .u8] := by kernel_rfl
theorem ag_191 : aggP Tryd.prog 191 = true := by kernel_rfl
attribute [go_sem] ti_0 kd_0 ti_1 kd_1 ti_2 kd_2 ti_3 kd_3 ti_4 kd_4 ti_5 kd_5 ti_6 kd_6 ti_7 kd_7 ti_8 kd_8 ti_9 kd_9 ti_10 kd_10 ti_11 kd_11 ti_13 kd_13 ti_14 kd_14 ti_15 kd_15 ti_16 kd_16 ti_17 kd_17 ti_18 kd_18 ti_19 kd_19
attribute [go_sem] ti_20 kd_20 ti_21 kd_21 ti_22 kd_22 ti_24 kd_24 ti_25 kd_25 ti_28 kd_28 ti_29 kd_29 ti_30 kd_30 ti_31 kd_31 ti_32 kd_32 ti_34 kd_34 ti_35 kd_35 ti_39 kd_39 ti_40 kd_40 ti_41 kd_41
attribute [go_sem] ti_43 kd_43 ti_44 kd_44 ti_46 kd_46 ti_47 kd_47 ti_48 kd_48 ti_49 kd_49 ti_50 kd_50 ti_51 kd_51 ti_52 kd_52 ti_54 kd_54 ti_57 kd_57 ti_58 kd_58 ti_59 kd_59 ti_61 kd_61 ti_62 kd_62
attribute [go_sem] ti_66 kd_66 ti_70 kd_70 ti_71 kd_71 ti_74 kd_74 ti_75 kd_75 ti_78 kd_78 ti_79 kd_79 ti_81 kd_81 ti_83 kd_83 ti_86 kd_86
attribute [go_sem] ti_89 kd_89 ti_91 kd_91 ti_92 kd_92 ti_93 kd_93 ti_94 kd_94 ti_95 kd_95 ti_97 kd_97 ti_98 kd_98 ti_99 kd_99 ti_100 kd_100 ti_102 kd_102 ti_103 kd_103 ti_104 kd_104 ti_105 kd_105 ti_108 kd_108
attribute [go_sem] ti_110 kd_110 ti_111 kd_111 ti_112 kd_112 ti_113 kd_113 ti_114 kd_114 ti_115 kd_115 ti_116 kd_116 ti_117 kd_117 ti_118 kd_118 ti_119 kd_119 ti_121 kd_121 ti_124 kd_124 ti_125 kd_125 ti_127 kd_127 ti_128 kd_128 ti_129 kd_129
attribute [go_sem] ti_131 kd_131 ti_141 kd_141 ti_142 kd_142 ti_143 kd_143 ti_150 kd_150 ti_152 kd_152
attribute [go_sem] ti_159 kd_159 ti_161 kd_161 ti_171 kd_171
attribute [go_sem] ti_183 kd_183 ti_191 kd_191
attribute [go_sem] ti_202 kd_202 kk_9 kk_29 zf_0 zf_1 zf_2 zf_3 zf_4 zf_5 zf_6 zf_7 zf_8 zf_9 zf_10 zf_11 zf_13 zf_14 zf_15 zf_16 zf_17
attribute [go_sem] zf_18 zf_19 zf_20 zf_21 zf_22 zf_24 zf_25 zf_26 zf_28 zf_29 zf_30 zf_31 zf_32 zf_33 zf_34 zf_35 zf_39 zf_40 zf_41 zf_42 zf_43 zf_44 zf_45 zf_46 zf_47 zf_48 zf_49 zf_50 zf_51 zf_52 zf_54 zf_57
attribute [go_sem] zf_58 zf_59 zf_60 zf_61 zf_62 zf_66 zf_70 zf_71 zf_74 zf_75 zf_78 zf_79 zf_81 zf_82 zf_83 zf_86 zf_87 zf_89 zf_91 zf_92 zf_93 zf_94 zf_95 zf_96 zf_97
attribute [go_sem] zf_98 zf_99 zf_100 zf_101 zf_102 zf_103 zf_104 zf_105 zf_108 zf_110 zf_111 zf_112 zf_113 zf_114 zf_115 zf_116 zf_117 zf_118 zf_119 zf_121 zf_124 zf_125 zf_127 zf_128 zf_129 zf_131 zf_132 zf_134
attribute [go_sem] zf_141 zf_142 zf_143 zf_144 zf_149 zf_150 zf_152 zf_159 zf_161 zf_171
attribute [go_sem] zf_183 zf_191 zf_202 eq_7 ag_7 eq_8 ag_8 eq_29 ag_29 eq_48 ag_48
attribute [go_sem] eq_49 ag_49 eq_62 ag_62 eq_191 ag_191
end Go.Proofs.YtkekfenkeeiigaaDoor
