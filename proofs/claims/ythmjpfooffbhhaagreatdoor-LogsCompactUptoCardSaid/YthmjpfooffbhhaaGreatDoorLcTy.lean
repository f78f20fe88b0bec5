/- What the program's types are, as the machine reads them. -/
import Derived.Test.YthmjpfooffbhhaaGreatDoorVc3
import Derived.Test.YthmjpfooffbhhaaGreatDoorProg
import Derived.KernelRfl
namespace Go.Proofs.YthmjpfooffbhhaaGreatDoor
open Go.Vc
theorem ti_3 : tiP Tryz.prog 3 = some ⟨false, 1, [.int .i64 0], .int .i64⟩ := by kernel_rfl
theorem kd_3 : kindP Tryz.prog 3 = .int .i64 := by kernel_rfl
theorem kd_4 : kindP Tryz.prog 4 = .bool := by kernel_rfl
theorem kd_5 : kindP Tryz.prog 5 = .int .u8 := by kernel_rfl
theorem ti_9 : tiP Tryz.prog 9 = some ⟨false, 1, [.string ⟨#[]⟩], .str⟩ := by kernel_rfl
theorem kd_9 : kindP Tryz.prog 9 = .str := by kernel_rfl
theorem ti_22 : tiP Tryz.prog 22 = some ⟨false, 1, [.slice none 0 0], .slice 32 13 136 [.int .i64 0, .int .i64 0, .string ⟨#[]⟩, .int .i64 0, .int .i64 0, .int .i64 0, .string ⟨#[]⟩, .int .i64 0, .int .i64 0, .int .i64 0, .string ⟨#[]⟩, .int .i64 0, .string ⟨#[]⟩]⟩ := by kernel_rfl
theorem kd_22 : kindP Tryz.prog 22 = .slice 32 13 136 [.int .i64 0, .int .i64 0, .string ⟨#[]⟩, .int .i64 0, .int .i64 0, .int .i64 0, .string ⟨#[]⟩, .int .i64 0, .int .i64 0, .int .i64 0, .string ⟨#[]⟩, .int .i64 0, .string ⟨#[]⟩] := by kernel_rfl
theorem ti_25 : tiP Tryz.prog 25 = some ⟨false, 1, [.int .i64 0], .int .i64⟩ := by kernel_rfl
theorem kd_25 : kindP Tryz.prog 25 = .int .i64 := by kernel_rfl
theorem ti_30 : tiP Tryz.prog 30 = some ⟨true, 4, [.int .i64 0, .int .i64 0, .int .i64 0, .string ⟨#[]⟩], .struct [(0, 1, false), (1, 1, false), (2, 1, false), (3, 1, false)]⟩ := by kernel_rfl
theorem kd_30 : kindP Tryz.prog 30 = .struct [(0, 1, false), (1, 1, false), (2, 1, false), (3, 1, false)] := by kernel_rfl
theorem ti_32 : tiP Tryz.prog 32 = some ⟨true, 13, [.int .i64 0, .int .i64 0, .string ⟨#[]⟩, .int .i64 0, .int .i64 0, .int .i64 0, .string ⟨#[]⟩, .int .i64 0, .int .i64 0, .int .i64 0, .string ⟨#[]⟩, .int .i64 0, .string ⟨#[]⟩], .struct [(0, 1, false), (1, 1, false), (2, 1, false), (3, 4, true), (7, 4, true), (11, 1, false), (12, 1, false)]⟩ := by kernel_rfl
theorem kd_32 : kindP Tryz.prog 32 = .struct [(0, 1, false), (1, 1, false), (2, 1, false), (3, 4, true), (7, 4, true), (11, 1, false), (12, 1, false)] := by kernel_rfl
theorem ti_37 : tiP Tryz.prog 37 = some ⟨false, 1, [.slice none 0 0], .slice 42 6 64 [.string ⟨#[]⟩, .int .i64 0, .int .i64 0, .int .i64 0, .string ⟨#[]⟩, .int .i64 0]⟩ := by kernel_rfl
theorem kd_37 : kindP Tryz.prog 37 = .slice 42 6 64 [.string ⟨#[]⟩, .int .i64 0, .int .i64 0, .int .i64 0, .string ⟨#[]⟩, .int .i64 0] := by kernel_rfl
theorem ti_42 : tiP Tryz.prog 42 = some ⟨true, 6, [.string ⟨#[]⟩, .int .i64 0, .int .i64 0, .int .i64 0, .string ⟨#[]⟩, .int .i64 0], .struct [(0, 1, false), (1, 4, true), (5, 1, false)]⟩ := by kernel_rfl
theorem kd_42 : kindP Tryz.prog 42 = .struct [(0, 1, false), (1, 4, true), (5, 1, false)] := by kernel_rfl
theorem kd_55 : kindP Tryz.prog 55 = .map 9 42 := by kernel_rfl
theorem ti_61 : tiP Tryz.prog 61 = some ⟨false, 1, [.slice none 0 0], .slice 9 1 16 [.string ⟨#[]⟩]⟩ := by kernel_rfl
theorem kd_61 : kindP Tryz.prog 61 = .slice 9 1 16 [.string ⟨#[]⟩] := by kernel_rfl
theorem ti_77 : tiP Tryz.prog 77 = some ⟨true, 5, [.int .i64 0, .int .i64 0, .int .i64 0, .string ⟨#[]⟩, .int .i64 0], .struct [(0, 4, true), (4, 1, false)]⟩ := by kernel_rfl
theorem ti_79 : tiP Tryz.prog 79 = some ⟨false, 1, [.map none], .map 9 77⟩ := by kernel_rfl
theorem kd_79 : kindP Tryz.prog 79 = .map 9 77 := by kernel_rfl
theorem ti_81 : tiP Tryz.prog 81 = some ⟨true, 2, [.map none, .int .i64 0], .struct [(0, 1, false), (1, 1, false)]⟩ := by kernel_rfl
theorem ti_101 : tiP Tryz.prog 101 = some ⟨false, 1, [.slice none 0 0], .slice 25 1 8 [.int .i64 0]⟩ := by kernel_rfl
theorem kd_101 : kindP Tryz.prog 101 = .slice 25 1 8 [.int .i64 0] := by kernel_rfl
theorem ti_116 : tiP Tryz.prog 116 = some ⟨false, 1, [.slice none 0 0], .slice 30 4 40 [.int .i64 0, .int .i64 0, .int .i64 0, .string ⟨#[]⟩]⟩ := by kernel_rfl
theorem kd_116 : kindP Tryz.prog 116 = .slice 30 4 40 [.int .i64 0, .int .i64 0, .int .i64 0, .string ⟨#[]⟩] := by kernel_rfl
theorem ti_117 : tiP Tryz.prog 117 = some ⟨false, 1, [.slice none 0 0], .slice 3 1 8 [.int .i64 0]⟩ := by kernel_rfl
theorem kd_117 : kindP Tryz.prog 117 = .slice 3 1 8 [.int .i64 0] := by kernel_rfl
theorem ti_123 : tiP Tryz.prog 123 = some ⟨true, 8, [.int .i64 0, .int .i64 0, .int .i64 0, .string ⟨#[]⟩, .int .i64 0, .int .i64 0, .int .i64 0, .string ⟨#[]⟩], .arr 2 30 4 true⟩ := by kernel_rfl
theorem ti_128 : tiP Tryz.prog 128 = some ⟨false, 1, [.int .u64 0], .int .u64⟩ := by kernel_rfl
theorem kd_128 : kindP Tryz.prog 128 = .int .u64 := by kernel_rfl
theorem ti_130 : tiP Tryz.prog 130 = some ⟨true, 3, [.int .i64 0, .int .i64 0, .int .i64 0], .arr 3 3 1 false⟩ := by kernel_rfl
theorem zf_42 : zfP Tryz.prog 42 = true := by kernel_rfl
theorem zf_77 : zfP Tryz.prog 77 = true := by kernel_rfl
theorem eq_7 : eqTyP Tryz.prog 7 = some [.i .i64, .i .i64, .b, .i .u8] := by kernel_rfl
theorem eq_8 : eqTyP Tryz.prog 8 = some [.i .i64, .i .i64, .b, .i .u8] := by kernel_rfl
theorem eq_30 : eqTyP Tryz.prog 30 = some [.i .i64, .i .i64, .i .i64, .s] := by kernel_rfl
theorem ag_30 : aggP Tryz.prog 30 = true := by kernel_rfl
theorem eq_32 : eqTyP Tryz.prog 32 = some [.i .i64, .i .i64, .s, .i .i64, .i .i64, .i .i64, .s, .i .i64, .i .i64, .i .i64, .s, .i .i64, .s] := by kernel_rfl
theorem ag_32 : aggP Tryz.prog 32 = true := by kernel_rfl
theorem eq_42 : eqTyP Tryz.prog 42 = some [.s, .i .i64, .i .i64, .i .i64, .s, .i .i64] := by kernel_rfl
theorem ag_42 : aggP Tryz.prog 42 = true := by kernel_rfl
attribute [go_sem] ti_3 kd_3 kd_4 kd_5 ti_9 kd_9
attribute [go_sem] ti_22 kd_22 ti_25 kd_25 ti_30 kd_30 ti_32 kd_32 ti_37 kd_37
attribute [go_sem] ti_42 kd_42 kd_55 ti_61 kd_61
attribute [go_sem] ti_77 ti_79 kd_79 ti_81
attribute [go_sem] ti_101 kd_101
attribute [go_sem] ti_116 kd_116 ti_117 kd_117 ti_123
attribute [go_sem] ti_128 kd_128 ti_130
attribute [go_sem] zf_42 zf_77
attribute [go_sem] eq_7 eq_8 eq_30 ag_30 eq_32 ag_32 eq_42 ag_42
end Go.Proofs.YthmjpfooffbhhaaGreatDoor
