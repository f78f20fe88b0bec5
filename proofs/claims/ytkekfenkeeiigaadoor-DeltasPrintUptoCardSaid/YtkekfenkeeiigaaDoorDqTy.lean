/- What the program's types are, as the machine reads them. -/
import Derived.Test.YtkekfenkeeiigaaDoorVc4
import Derived.Test.YtkekfenkeeiigaaDoorProg
import Derived.KernelRfl
namespace Go.Proofs.YtkekfenkeeiigaaDoor
open Go.Vc
theorem ti_3 : tiP Tryd.prog 3 = some ⟨false, 1, [.int .i64 0], .int .i64⟩ := by kernel_rfl
theorem kd_3 : kindP Tryd.prog 3 = .int .i64 := by kernel_rfl
theorem ti_4 : tiP Tryd.prog 4 = some ⟨false, 1, [.bool false], .bool⟩ := by kernel_rfl
theorem ti_5 : tiP Tryd.prog 5 = some ⟨false, 1, [.int .u8 0], .int .u8⟩ := by kernel_rfl
theorem kd_5 : kindP Tryd.prog 5 = .int .u8 := by kernel_rfl
theorem ti_9 : tiP Tryd.prog 9 = some ⟨false, 1, [.string ⟨#[]⟩], .str⟩ := by kernel_rfl
theorem kd_9 : kindP Tryd.prog 9 = .str := by kernel_rfl
theorem kd_21 : kindP Tryd.prog 21 = .int .i32 := by kernel_rfl
theorem ti_25 : tiP Tryd.prog 25 = some ⟨false, 1, [.int .i64 0], .int .i64⟩ := by kernel_rfl
theorem kd_25 : kindP Tryd.prog 25 = .int .i64 := by kernel_rfl
theorem ti_39 : tiP Tryd.prog 39 = some ⟨false, 1, [.slice none 0 0], .slice 49 3 32 [.int .i64 0, .int .i64 0, .string ⟨#[]⟩]⟩ := by kernel_rfl
theorem kd_39 : kindP Tryd.prog 39 = .slice 49 3 32 [.int .i64 0, .int .i64 0, .string ⟨#[]⟩] := by kernel_rfl
theorem ti_41 : tiP Tryd.prog 41 = some ⟨true, 5, [.int .i64 0, .int .i64 0, .string ⟨#[]⟩, .string ⟨#[]⟩, .slice none 0 0], .struct [(0, 1, false), (1, 1, false), (2, 1, false), (3, 1, false), (4, 1, false)]⟩ := by kernel_rfl
theorem ti_44 : tiP Tryd.prog 44 = some ⟨false, 1, [.slice none 0 0], .slice 5 1 1 [.int .u8 0]⟩ := by kernel_rfl
theorem kd_44 : kindP Tryd.prog 44 = .slice 5 1 1 [.int .u8 0] := by kernel_rfl
theorem ti_49 : tiP Tryd.prog 49 = some ⟨true, 3, [.int .i64 0, .int .i64 0, .string ⟨#[]⟩], .struct [(0, 1, false), (1, 1, false), (2, 1, false)]⟩ := by kernel_rfl
theorem kd_49 : kindP Tryd.prog 49 = .struct [(0, 1, false), (1, 1, false), (2, 1, false)] := by kernel_rfl
theorem ti_79 : tiP Tryd.prog 79 = some ⟨false, 1, [.pointer none], .ptr 81⟩ := by kernel_rfl
theorem kd_79 : kindP Tryd.prog 79 = .ptr 81 := by kernel_rfl
theorem ti_81 : tiP Tryd.prog 81 = some ⟨true, 2, [.pointer none, .slice none 0 0], .struct [(0, 1, false), (1, 1, false)]⟩ := by kernel_rfl
theorem kd_86 : kindP Tryd.prog 86 = .other := by kernel_rfl
theorem ti_95 : tiP Tryd.prog 95 = some ⟨false, 1, [.int .u64 0], .int .u64⟩ := by kernel_rfl
theorem kd_95 : kindP Tryd.prog 95 = .int .u64 := by kernel_rfl
theorem ti_107 : tiP Tryd.prog 107 = some ⟨true, 3, [.string ⟨#[]⟩, .int .i64 0, .bool false], .struct [(0, 1, false), (1, 1, false), (2, 1, false)]⟩ := by kernel_rfl
theorem ti_108 : tiP Tryd.prog 108 = some ⟨false, 1, [.nilFunc], .other⟩ := by kernel_rfl
theorem ti_121 : tiP Tryd.prog 121 = some ⟨false, 1, [.int .u64 0], .int .u64⟩ := by kernel_rfl
theorem kd_121 : kindP Tryd.prog 121 = .int .u64 := by kernel_rfl
theorem ti_130 : tiP Tryd.prog 130 = some ⟨false, 1, [.slice none 0 0], .slice 25 1 8 [.int .i64 0]⟩ := by kernel_rfl
theorem kd_130 : kindP Tryd.prog 130 = .slice 25 1 8 [.int .i64 0] := by kernel_rfl
theorem ti_136 : tiP Tryd.prog 136 = some ⟨false, 1, [.slice none 0 0], .slice 157 2 16 [.int .u8 0, .int .i64 0]⟩ := by kernel_rfl
theorem kd_136 : kindP Tryd.prog 136 = .slice 157 2 16 [.int .u8 0, .int .i64 0] := by kernel_rfl
theorem ti_138 : tiP Tryd.prog 138 = some ⟨true, 4, [.int .i64 0, .int .i64 0, .int .i64 0, .slice none 0 0], .struct [(0, 1, false), (1, 1, false), (2, 1, false), (3, 1, false)]⟩ := by kernel_rfl
theorem ti_139 : tiP Tryd.prog 139 = some ⟨false, 1, [.slice none 0 0], .slice 138 4 48 [.int .i64 0, .int .i64 0, .int .i64 0, .slice none 0 0]⟩ := by kernel_rfl
theorem kd_139 : kindP Tryd.prog 139 = .slice 138 4 48 [.int .i64 0, .int .i64 0, .int .i64 0, .slice none 0 0] := by kernel_rfl
theorem ti_141 : tiP Tryd.prog 141 = some ⟨true, 2, [.slice none 0 0, .int .i64 0], .struct [(0, 1, false), (1, 1, false)]⟩ := by kernel_rfl
theorem ti_152 : tiP Tryd.prog 152 = some ⟨false, 1, [.pointer none], .other⟩ := by kernel_rfl
theorem kd_152 : kindP Tryd.prog 152 = .other := by kernel_rfl
theorem ti_157 : tiP Tryd.prog 157 = some ⟨true, 2, [.int .u8 0, .int .i64 0], .struct [(0, 1, false), (1, 1, false)]⟩ := by kernel_rfl
theorem kd_157 : kindP Tryd.prog 157 = .struct [(0, 1, false), (1, 1, false)] := by kernel_rfl
theorem ti_160 : tiP Tryd.prog 160 = some ⟨true, 24, [.int .u8 0, .int .u8 0, .int .u8 0, .int .u8 0, .int .u8 0, .int .u8 0, .int .u8 0, .int .u8 0, .int .u8 0, .int .u8 0, .int .u8 0, .int .u8 0, .int .u8 0, .int .u8 0, .int .u8 0, .int .u8 0, .int .u8 0, .int .u8 0, .int .u8 0, .int .u8 0, .int .u8 0, .int .u8 0, .int .u8 0, .int .u8 0], .arr 24 5 1 false⟩ := by kernel_rfl
theorem ti_177 : tiP Tryd.prog 177 = some ⟨true, 65, [.int .u8 0, .int .u8 0, .int .u8 0, .int .u8 0, .int .u8 0, .int .u8 0, .int .u8 0, .int .u8 0, .int .u8 0, .int .u8 0, .int .u8 0, .int .u8 0, .int .u8 0, .int .u8 0, .int .u8 0, .int .u8 0, .int .u8 0, .int .u8 0, .int .u8 0, .int .u8 0, .int .u8 0, .int .u8 0, .int .u8 0, .int .u8 0, .int .u8 0, .int .u8 0, .int .u8 0, .int .u8 0, .int .u8 0, .int .u8 0, .int .u8 0, .int .u8 0, .int .u8 0, .int .u8 0, .int .u8 0, .int .u8 0, .int .u8 0, .int .u8 0, .int .u8 0, .int .u8 0, .int .u8 0, .int .u8 0, .int .u8 0, .int .u8 0, .int .u8 0, .int .u8 0, .int .u8 0, .int .u8 0, .int .u8 0, .int .u8 0, .int .u8 0, .int .u8 0, .int .u8 0, .int .u8 0, .int .u8 0, .int .u8 0, .int .u8 0, .int .u8 0, .int .u8 0, .int .u8 0, .int .u8 0, .int .u8 0, .int .u8 0, .int .u8 0, .int .u8 0], .arr 65 5 1 false⟩ := by kernel_rfl
theorem ti_192 : tiP Tryd.prog 192 = some ⟨true, 64, [.int .u8 0, .int .u8 0, .int .u8 0, .int .u8 0, .int .u8 0, .int .u8 0, .int .u8 0, .int .u8 0, .int .u8 0, .int .u8 0, .int .u8 0, .int .u8 0, .int .u8 0, .int .u8 0, .int .u8 0, .int .u8 0, .int .u8 0, .int .u8 0, .int .u8 0, .int .u8 0, .int .u8 0, .int .u8 0, .int .u8 0, .int .u8 0, .int .u8 0, .int .u8 0, .int .u8 0, .int .u8 0, .int .u8 0, .int .u8 0, .int .u8 0, .int .u8 0, .int .u8 0, .int .u8 0, .int .u8 0, .int .u8 0, .int .u8 0, .int .u8 0, .int .u8 0, .int .u8 0, .int .u8 0, .int .u8 0, .int .u8 0, .int .u8 0, .int .u8 0, .int .u8 0, .int .u8 0, .int .u8 0, .int .u8 0, .int .u8 0, .int .u8 0, .int .u8 0, .int .u8 0, .int .u8 0, .int .u8 0, .int .u8 0, .int .u8 0, .int .u8 0, .int .u8 0, .int .u8 0, .int .u8 0, .int .u8 0, .int .u8 0, .int .u8 0], .arr 64 5 1 false⟩ := by kernel_rfl
theorem eq_7 : eqTyP Tryd.prog 7 = some [.i .i64, .i .i64, .b, .i .u8] := by kernel_rfl
theorem eq_8 : eqTyP Tryd.prog 8 = some [.i .i64, .i .i64, .b, .i .u8] := by kernel_rfl
theorem eq_49 : eqTyP Tryd.prog 49 = some [.i .i64, .i .i64, .s] := by kernel_rfl
theorem ag_49 : aggP Tryd.prog 49 = true := by kernel_rfl
attribute [go_sem] ti_3 kd_3 ti_4 ti_5 kd_5 ti_9 kd_9
attribute [go_sem] kd_21 ti_25 kd_25 ti_39 kd_39 ti_41
attribute [go_sem] ti_44 kd_44 ti_49 kd_49
attribute [go_sem] ti_79 kd_79 ti_81 kd_86
attribute [go_sem] ti_95 kd_95 ti_107 ti_108
attribute [go_sem] ti_121 kd_121
attribute [go_sem] ti_130 kd_130 ti_136 kd_136 ti_138 ti_139 kd_139 ti_141 ti_152 kd_152
attribute [go_sem] ti_157 kd_157 ti_160
attribute [go_sem] ti_177 ti_192
attribute [go_sem] eq_7 eq_8
attribute [go_sem] eq_49 ag_49
end Go.Proofs.YtkekfenkeeiigaaDoor
