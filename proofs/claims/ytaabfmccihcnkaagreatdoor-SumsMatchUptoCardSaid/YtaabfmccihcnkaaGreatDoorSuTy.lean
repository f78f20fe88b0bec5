/- What the program's types are, as the machine reads them. -/
import Derived.Test.YtaabfmccihcnkaaGreatDoorVc3
import Derived.Test.YtaabfmccihcnkaaGreatDoorProg
import Derived.KernelRfl
namespace Go.Proofs.YtaabfmccihcnkaaGreatDoor
open Go.Vc
theorem ti_3 : tiP Tryz.prog 3 = some ⟨false, 1, [.int .i64 0], .int .i64⟩ := by kernel_rfl
theorem kd_3 : kindP Tryz.prog 3 = .int .i64 := by kernel_rfl
theorem ti_4 : tiP Tryz.prog 4 = some ⟨false, 1, [.bool false], .bool⟩ := by kernel_rfl
theorem kd_4 : kindP Tryz.prog 4 = .bool := by kernel_rfl
theorem ti_5 : tiP Tryz.prog 5 = some ⟨false, 1, [.int .u8 0], .int .u8⟩ := by kernel_rfl
theorem kd_5 : kindP Tryz.prog 5 = .int .u8 := by kernel_rfl
theorem ti_9 : tiP Tryz.prog 9 = some ⟨false, 1, [.string ⟨#[]⟩], .str⟩ := by kernel_rfl
theorem kd_9 : kindP Tryz.prog 9 = .str := by kernel_rfl
theorem ti_22 : tiP Tryz.prog 22 = some ⟨false, 1, [.slice none 0 0], .slice 40 2 32 [.string ⟨#[]⟩, .string ⟨#[]⟩]⟩ := by kernel_rfl
theorem kd_22 : kindP Tryz.prog 22 = .slice 40 2 32 [.string ⟨#[]⟩, .string ⟨#[]⟩] := by kernel_rfl
theorem ti_23 : tiP Tryz.prog 23 = some ⟨false, 1, [.slice none 0 0], .slice 38 3 40 [.string ⟨#[]⟩, .string ⟨#[]⟩, .bool false]⟩ := by kernel_rfl
theorem kd_23 : kindP Tryz.prog 23 = .slice 38 3 40 [.string ⟨#[]⟩, .string ⟨#[]⟩, .bool false] := by kernel_rfl
theorem ti_24 : tiP Tryz.prog 24 = some ⟨false, 1, [.slice none 0 0], .slice 42 4 40 [.string ⟨#[]⟩, .string ⟨#[]⟩, .bool false, .bool false]⟩ := by kernel_rfl
theorem kd_24 : kindP Tryz.prog 24 = .slice 42 4 40 [.string ⟨#[]⟩, .string ⟨#[]⟩, .bool false, .bool false] := by kernel_rfl
theorem ti_26 : tiP Tryz.prog 26 = some ⟨true, 4, [.slice none 0 0, .slice none 0 0, .slice none 0 0, .slice none 0 0], .struct [(0, 1, false), (1, 1, false), (2, 1, false), (3, 1, false)]⟩ := by kernel_rfl
theorem ti_29 : tiP Tryz.prog 29 = some ⟨false, 1, [.int .i64 0], .int .i64⟩ := by kernel_rfl
theorem kd_29 : kindP Tryz.prog 29 = .int .i64 := by kernel_rfl
theorem ti_38 : tiP Tryz.prog 38 = some ⟨true, 3, [.string ⟨#[]⟩, .string ⟨#[]⟩, .bool false], .struct [(0, 1, false), (1, 1, false), (2, 1, false)]⟩ := by kernel_rfl
theorem kd_38 : kindP Tryz.prog 38 = .struct [(0, 1, false), (1, 1, false), (2, 1, false)] := by kernel_rfl
theorem ti_40 : tiP Tryz.prog 40 = some ⟨true, 2, [.string ⟨#[]⟩, .string ⟨#[]⟩], .struct [(0, 1, false), (1, 1, false)]⟩ := by kernel_rfl
theorem kd_40 : kindP Tryz.prog 40 = .struct [(0, 1, false), (1, 1, false)] := by kernel_rfl
theorem ti_42 : tiP Tryz.prog 42 = some ⟨true, 4, [.string ⟨#[]⟩, .string ⟨#[]⟩, .bool false, .bool false], .struct [(0, 1, false), (1, 1, false), (2, 1, false), (3, 1, false)]⟩ := by kernel_rfl
theorem kd_42 : kindP Tryz.prog 42 = .struct [(0, 1, false), (1, 1, false), (2, 1, false), (3, 1, false)] := by kernel_rfl
theorem ti_44 : tiP Tryz.prog 44 = some ⟨true, 10, [.int .i64 0, .string ⟨#[]⟩, .string ⟨#[]⟩, .bool false, .string ⟨#[]⟩, .string ⟨#[]⟩, .string ⟨#[]⟩, .string ⟨#[]⟩, .bool false, .bool false], .struct [(0, 1, false), (1, 3, true), (4, 2, true), (6, 4, true)]⟩ := by kernel_rfl
theorem kd_44 : kindP Tryz.prog 44 = .struct [(0, 1, false), (1, 3, true), (4, 2, true), (6, 4, true)] := by kernel_rfl
theorem ti_103 : tiP Tryz.prog 103 = some ⟨false, 1, [.slice none 0 0], .slice 5 1 1 [.int .u8 0]⟩ := by kernel_rfl
theorem kd_103 : kindP Tryz.prog 103 = .slice 5 1 1 [.int .u8 0] := by kernel_rfl
theorem ti_127 : tiP Tryz.prog 127 = some ⟨false, 1, [.slice none 0 0], .slice 44 10 120 [.int .i64 0, .string ⟨#[]⟩, .string ⟨#[]⟩, .bool false, .string ⟨#[]⟩, .string ⟨#[]⟩, .string ⟨#[]⟩, .string ⟨#[]⟩, .bool false, .bool false]⟩ := by kernel_rfl
theorem kd_127 : kindP Tryz.prog 127 = .slice 44 10 120 [.int .i64 0, .string ⟨#[]⟩, .string ⟨#[]⟩, .bool false, .string ⟨#[]⟩, .string ⟨#[]⟩, .string ⟨#[]⟩, .string ⟨#[]⟩, .bool false, .bool false] := by kernel_rfl
theorem ti_138 : tiP Tryz.prog 138 = some ⟨false, 1, [.map none], .map 9 4⟩ := by kernel_rfl
theorem kd_138 : kindP Tryz.prog 138 = .map 9 4 := by kernel_rfl
theorem ti_157 : tiP Tryz.prog 157 = some ⟨false, 1, [.map none], .map 9 38⟩ := by kernel_rfl
theorem kd_157 : kindP Tryz.prog 157 = .map 9 38 := by kernel_rfl
theorem ti_158 : tiP Tryz.prog 158 = some ⟨false, 1, [.map none], .map 9 9⟩ := by kernel_rfl
theorem kd_158 : kindP Tryz.prog 158 = .map 9 9 := by kernel_rfl
theorem ti_159 : tiP Tryz.prog 159 = some ⟨false, 1, [.map none], .map 9 42⟩ := by kernel_rfl
theorem kd_159 : kindP Tryz.prog 159 = .map 9 42 := by kernel_rfl
theorem ti_161 : tiP Tryz.prog 161 = some ⟨true, 4, [.slice none 0 0, .map none, .map none, .map none], .struct [(0, 1, false), (1, 1, false), (2, 1, false), (3, 1, false)]⟩ := by kernel_rfl
theorem kd_165 : kindP Tryz.prog 165 = .int .u64 := by kernel_rfl
theorem ti_168 : tiP Tryz.prog 168 = some ⟨false, 1, [.pointer none], .ptr 170⟩ := by kernel_rfl
theorem kd_168 : kindP Tryz.prog 168 = .ptr 170 := by kernel_rfl
theorem ti_170 : tiP Tryz.prog 170 = some ⟨true, 2, [.pointer none, .slice none 0 0], .struct [(0, 1, false), (1, 1, false)]⟩ := by kernel_rfl
theorem ti_189 : tiP Tryz.prog 189 = some ⟨false, 1, [.slice none 0 0], .slice 9 1 16 [.string ⟨#[]⟩]⟩ := by kernel_rfl
theorem kd_189 : kindP Tryz.prog 189 = .slice 9 1 16 [.string ⟨#[]⟩] := by kernel_rfl
theorem ti_280 : tiP Tryz.prog 280 = some ⟨false, 1, [.slice none 0 0], .slice 29 1 8 [.int .i64 0]⟩ := by kernel_rfl
theorem kd_280 : kindP Tryz.prog 280 = .slice 29 1 8 [.int .i64 0] := by kernel_rfl
theorem ti_302 : tiP Tryz.prog 302 = some ⟨false, 1, [.int .u64 0], .int .u64⟩ := by kernel_rfl
theorem kd_302 : kindP Tryz.prog 302 = .int .u64 := by kernel_rfl
theorem ti_345 : tiP Tryz.prog 345 = some ⟨true, 24, [.int .u8 0, .int .u8 0, .int .u8 0, .int .u8 0, .int .u8 0, .int .u8 0, .int .u8 0, .int .u8 0, .int .u8 0, .int .u8 0, .int .u8 0, .int .u8 0, .int .u8 0, .int .u8 0, .int .u8 0, .int .u8 0, .int .u8 0, .int .u8 0, .int .u8 0, .int .u8 0, .int .u8 0, .int .u8 0, .int .u8 0, .int .u8 0], .arr 24 5 1 false⟩ := by kernel_rfl
theorem ti_355 : tiP Tryz.prog 355 = some ⟨false, 1, [.pointer none], .other⟩ := by kernel_rfl
theorem kd_355 : kindP Tryz.prog 355 = .other := by kernel_rfl
theorem ti_389 : tiP Tryz.prog 389 = some ⟨true, 65, [.int .u8 0, .int .u8 0, .int .u8 0, .int .u8 0, .int .u8 0, .int .u8 0, .int .u8 0, .int .u8 0, .int .u8 0, .int .u8 0, .int .u8 0, .int .u8 0, .int .u8 0, .int .u8 0, .int .u8 0, .int .u8 0, .int .u8 0, .int .u8 0, .int .u8 0, .int .u8 0, .int .u8 0, .int .u8 0, .int .u8 0, .int .u8 0, .int .u8 0, .int .u8 0, .int .u8 0, .int .u8 0, .int .u8 0, .int .u8 0, .int .u8 0, .int .u8 0, .int .u8 0, .int .u8 0, .int .u8 0, .int .u8 0, .int .u8 0, .int .u8 0, .int .u8 0, .int .u8 0, .int .u8 0, .int .u8 0, .int .u8 0, .int .u8 0, .int .u8 0, .int .u8 0, .int .u8 0, .int .u8 0, .int .u8 0, .int .u8 0, .int .u8 0, .int .u8 0, .int .u8 0, .int .u8 0, .int .u8 0, .int .u8 0, .int .u8 0, .int .u8 0, .int .u8 0, .int .u8 0, .int .u8 0, .int .u8 0, .int .u8 0, .int .u8 0, .int .u8 0], .arr 65 5 1 false⟩ := by kernel_rfl
theorem ti_436 : tiP Tryz.prog 436 = some ⟨true, 64, [.int .u8 0, .int .u8 0, .int .u8 0, .int .u8 0, .int .u8 0, .int .u8 0, .int .u8 0, .int .u8 0, .int .u8 0, .int .u8 0, .int .u8 0, .int .u8 0, .int .u8 0, .int .u8 0, .int .u8 0, .int .u8 0, .int .u8 0, .int .u8 0, .int .u8 0, .int .u8 0, .int .u8 0, .int .u8 0, .int .u8 0, .int .u8 0, .int .u8 0, .int .u8 0, .int .u8 0, .int .u8 0, .int .u8 0, .int .u8 0, .int .u8 0, .int .u8 0, .int .u8 0, .int .u8 0, .int .u8 0, .int .u8 0, .int .u8 0, .int .u8 0, .int .u8 0, .int .u8 0, .int .u8 0, .int .u8 0, .int .u8 0, .int .u8 0, .int .u8 0, .int .u8 0, .int .u8 0, .int .u8 0, .int .u8 0, .int .u8 0, .int .u8 0, .int .u8 0, .int .u8 0, .int .u8 0, .int .u8 0, .int .u8 0, .int .u8 0, .int .u8 0, .int .u8 0, .int .u8 0, .int .u8 0, .int .u8 0, .int .u8 0, .int .u8 0], .arr 64 5 1 false⟩ := by kernel_rfl
theorem zf_4 : zfP Tryz.prog 4 = false := by kernel_rfl
theorem zf_9 : zfP Tryz.prog 9 = false := by kernel_rfl
theorem zf_38 : zfP Tryz.prog 38 = true := by kernel_rfl
theorem zf_42 : zfP Tryz.prog 42 = true := by kernel_rfl
theorem eq_7 : eqTyP Tryz.prog 7 = some [.i .i64, .i .i64, .b, .i .u8] := by kernel_rfl
theorem eq_8 : eqTyP Tryz.prog 8 = some [.i .i64, .i .i64, .b, .i .u8] := by kernel_rfl
theorem eq_38 : eqTyP Tryz.prog 38 = some [.s, .s, .b] := by kernel_rfl
theorem ag_38 : aggP Tryz.prog 38 = true := by kernel_rfl
theorem eq_40 : eqTyP Tryz.prog 40 = some [.s, .s] := by kernel_rfl
theorem ag_40 : aggP Tryz.prog 40 = true := by kernel_rfl
theorem eq_42 : eqTyP Tryz.prog 42 = some [.s, .s, .b, .b] := by kernel_rfl
theorem ag_42 : aggP Tryz.prog 42 = true := by kernel_rfl
theorem eq_44 : eqTyP Tryz.prog 44 = some [.i .i64, .s, .s, .b, .s, .s, .s, .s, .b, .b] := by kernel_rfl
theorem ag_44 : aggP Tryz.prog 44 = true := by kernel_rfl
attribute [go_sem] ti_3 kd_3 ti_4 kd_4 ti_5 kd_5 ti_9 kd_9
attribute [go_sem] ti_22 kd_22 ti_23 kd_23 ti_24 kd_24 ti_26 ti_29 kd_29 ti_38 kd_38 ti_40 kd_40
attribute [go_sem] ti_42 kd_42 ti_44 kd_44
attribute [go_sem] ti_103 kd_103
attribute [go_sem] ti_127 kd_127
attribute [go_sem] ti_138 kd_138
attribute [go_sem] ti_157 kd_157 ti_158 kd_158 ti_159 kd_159 ti_161 kd_165 ti_168 kd_168 ti_170
attribute [go_sem] ti_189 kd_189
attribute [go_sem] ti_280 kd_280
attribute [go_sem] ti_302 kd_302
attribute [go_sem] ti_345
attribute [go_sem] ti_355 kd_355
attribute [go_sem] ti_389
attribute [go_sem] ti_436
attribute [go_sem] zf_4
attribute [go_sem] zf_9 zf_38 zf_42
attribute [go_sem] eq_7 eq_8 eq_38 ag_38 eq_40 ag_40 eq_42 ag_42 eq_44 ag_44
end Go.Proofs.YtaabfmccihcnkaaGreatDoor
