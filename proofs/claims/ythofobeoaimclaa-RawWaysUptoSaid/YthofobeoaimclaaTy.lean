/- Type facts of the seat's program. -/
import Derived.Test.YthofobeoaimclaaVc2
import Derived.Test.YthofobeoaimclaaProg
import Derived.KernelRfl
namespace Go.Proofs.Ythofobeoaimclaa
open Go.Vc
theorem ti_0 : tiP Try.prog 0 = some ⟨false, 1, [Go.Value.tuple #[]], Go.Vc.Tk.other⟩ := by kernel_rfl
theorem ti_1 : tiP Try.prog 1 = some ⟨false, 1, [Go.Value.nilFunc], Go.Vc.Tk.other⟩ := by kernel_rfl
theorem ti_2 : tiP Try.prog 2 = some ⟨false, 1, [Go.Value.int Go.IntKind.i64 0], Go.Vc.Tk.int Go.IntKind.i64⟩ := by kernel_rfl
theorem kd_2 : kindP Try.prog 2 = Go.Vc.Tk.int Go.IntKind.i64 := by kernel_rfl
theorem ti_3 : tiP Try.prog 3 = some ⟨false, 1, [Go.Value.int Go.IntKind.i64 0], Go.Vc.Tk.int Go.IntKind.i64⟩ := by kernel_rfl
theorem kd_3 : kindP Try.prog 3 = Go.Vc.Tk.int Go.IntKind.i64 := by kernel_rfl
theorem ti_4 : tiP Try.prog 4 = some ⟨false, 1, [Go.Value.bool false], Go.Vc.Tk.bool⟩ := by kernel_rfl
theorem kd_4 : kindP Try.prog 4 = Go.Vc.Tk.bool := by kernel_rfl
theorem ti_5 : tiP Try.prog 5 = some ⟨false, 1, [Go.Value.int Go.IntKind.u8 0], Go.Vc.Tk.int Go.IntKind.u8⟩ := by kernel_rfl
theorem kd_5 : kindP Try.prog 5 = Go.Vc.Tk.int Go.IntKind.u8 := by kernel_rfl
theorem ti_6 : tiP Try.prog 6 = some ⟨false, 1, [Go.Value.int Go.IntKind.u8 0], Go.Vc.Tk.int Go.IntKind.u8⟩ := by kernel_rfl
theorem kd_6 : kindP Try.prog 6 = Go.Vc.Tk.int Go.IntKind.u8 := by kernel_rfl
theorem ti_7 : tiP Try.prog 7 = some ⟨true, 4, [Go.Value.int Go.IntKind.i64 0, Go.Value.int Go.IntKind.i64 0, Go.Value.bool false, Go.Value.int Go.IntKind.u8 0], Go.Vc.Tk.struct [(0, 1, false), (1, 1, false), (2, 1, false), (3, 1, false)]⟩ := by kernel_rfl
theorem kd_7 : kindP Try.prog 7 = Go.Vc.Tk.struct [(0, 1, false), (1, 1, false), (2, 1, false), (3, 1, false)] := by kernel_rfl
theorem ti_8 : tiP Try.prog 8 = some ⟨true, 4, [Go.Value.int Go.IntKind.i64 0, Go.Value.int Go.IntKind.i64 0, Go.Value.bool false, Go.Value.int Go.IntKind.u8 0], Go.Vc.Tk.struct [(0, 1, false), (1, 1, false), (2, 1, false), (3, 1, false)]⟩ := by kernel_rfl
theorem kd_8 : kindP Try.prog 8 = Go.Vc.Tk.struct [(0, 1, false), (1, 1, false), (2, 1, false), (3, 1, false)] := by kernel_rfl
theorem ti_9 : tiP Try.prog 9 = some ⟨false, 1, [Go.Value.string ⟨#[]⟩], Go.Vc.Tk.str⟩ := by kernel_rfl
theorem kd_9 : kindP Try.prog 9 = Go.Vc.Tk.str := by kernel_rfl
theorem ti_10 : tiP Try.prog 10 = some ⟨false, 1, [Go.Value.string ⟨#[]⟩], Go.Vc.Tk.str⟩ := by kernel_rfl
theorem kd_10 : kindP Try.prog 10 = Go.Vc.Tk.str := by kernel_rfl
theorem ti_11 : tiP Try.prog 11 = some ⟨false, 1, [Go.Value.string ⟨#[]⟩], Go.Vc.Tk.str⟩ := by kernel_rfl
theorem kd_11 : kindP Try.prog 11 = Go.Vc.Tk.str := by kernel_rfl
theorem ti_12 : tiP Try.prog 12 = some ⟨false, 1, [Go.Value.int Go.IntKind.u64 0], Go.Vc.Tk.int Go.IntKind.u64⟩ := by kernel_rfl
theorem kd_12 : kindP Try.prog 12 = Go.Vc.Tk.int Go.IntKind.u64 := by kernel_rfl
theorem ti_13 : tiP Try.prog 13 = some ⟨true, 2, [Go.Value.string ⟨#[]⟩, Go.Value.int Go.IntKind.u64 0], Go.Vc.Tk.struct [(0, 1, false), (1, 1, false)]⟩ := by kernel_rfl
theorem kd_13 : kindP Try.prog 13 = Go.Vc.Tk.struct [(0, 1, false), (1, 1, false)] := by kernel_rfl
theorem ti_14 : tiP Try.prog 14 = some ⟨true, 2, [Go.Value.string ⟨#[]⟩, Go.Value.int Go.IntKind.u64 0], Go.Vc.Tk.struct [(0, 1, false), (1, 1, false)]⟩ := by kernel_rfl
theorem kd_14 : kindP Try.prog 14 = Go.Vc.Tk.struct [(0, 1, false), (1, 1, false)] := by kernel_rfl
theorem ti_15 : tiP Try.prog 15 = some ⟨false, 1, [Go.Value.pointer none], Go.Vc.Tk.ptr 139⟩ := by kernel_rfl
theorem kd_15 : kindP Try.prog 15 = Go.Vc.Tk.ptr 139 := by kernel_rfl
theorem ti_16 : tiP Try.prog 16 = some ⟨false, 1, [Go.Value.pointer none], Go.Vc.Tk.ptr 142⟩ := by kernel_rfl
theorem kd_16 : kindP Try.prog 16 = Go.Vc.Tk.ptr 142 := by kernel_rfl
theorem ti_17 : tiP Try.prog 17 = some ⟨false, 1, [Go.Value.pointer none], Go.Vc.Tk.ptr 150⟩ := by kernel_rfl
theorem kd_17 : kindP Try.prog 17 = Go.Vc.Tk.ptr 150 := by kernel_rfl
theorem ti_18 : tiP Try.prog 18 = some ⟨true, 1, [Go.Value.pointer none], Go.Vc.Tk.struct [(0, 1, false)]⟩ := by kernel_rfl
theorem kd_18 : kindP Try.prog 18 = Go.Vc.Tk.struct [(0, 1, false)] := by kernel_rfl
theorem ti_19 : tiP Try.prog 19 = some ⟨true, 1, [Go.Value.pointer none], Go.Vc.Tk.struct [(0, 1, false)]⟩ := by kernel_rfl
theorem kd_19 : kindP Try.prog 19 = Go.Vc.Tk.struct [(0, 1, false)] := by kernel_rfl
theorem ti_20 : tiP Try.prog 20 = some ⟨false, 1, [Go.Value.nilIface], Go.Vc.Tk.other⟩ := by kernel_rfl
theorem ti_21 : tiP Try.prog 21 = some ⟨false, 1, [Go.Value.int Go.IntKind.i32 0], Go.Vc.Tk.int Go.IntKind.i32⟩ := by kernel_rfl
theorem kd_21 : kindP Try.prog 21 = Go.Vc.Tk.int Go.IntKind.i32 := by kernel_rfl
theorem ti_22 : tiP Try.prog 22 = some ⟨false, 1, [Go.Value.slice none 0 0], Go.Vc.Tk.slice 47 3 24 [Go.Value.int Go.IntKind.i64 0, Go.Value.int Go.IntKind.i64 0, Go.Value.int Go.IntKind.i64 0]⟩ := by kernel_rfl
theorem kd_22 : kindP Try.prog 22 = Go.Vc.Tk.slice 47 3 24 [Go.Value.int Go.IntKind.i64 0, Go.Value.int Go.IntKind.i64 0, Go.Value.int Go.IntKind.i64 0] := by kernel_rfl
theorem ti_23 : tiP Try.prog 23 = some ⟨false, 1, [Go.Value.slice none 0 0], Go.Vc.Tk.slice 3 1 8 [Go.Value.int Go.IntKind.i64 0]⟩ := by kernel_rfl
theorem kd_23 : kindP Try.prog 23 = Go.Vc.Tk.slice 3 1 8 [Go.Value.int Go.IntKind.i64 0] := by kernel_rfl
theorem ti_24 : tiP Try.prog 24 = some ⟨false, 1, [Go.Value.nilFunc], Go.Vc.Tk.other⟩ := by kernel_rfl
theorem ti_25 : tiP Try.prog 25 = some ⟨false, 1, [Go.Value.int Go.IntKind.i64 0], Go.Vc.Tk.int Go.IntKind.i64⟩ := by kernel_rfl
theorem kd_25 : kindP Try.prog 25 = Go.Vc.Tk.int Go.IntKind.i64 := by kernel_rfl
theorem ti_26 : tiP Try.prog 26 = some ⟨false, 1, [Go.Value.nilFunc], Go.Vc.Tk.other⟩ := by kernel_rfl
theorem ti_27 : tiP Try.prog 27 = some ⟨false, 1, [Go.Value.nilFunc], Go.Vc.Tk.other⟩ := by kernel_rfl
theorem ti_28 : tiP Try.prog 28 = some ⟨false, 1, [Go.Value.slice none 0 0], Go.Vc.Tk.slice 55 3 32 [Go.Value.int Go.IntKind.i64 0, Go.Value.int Go.IntKind.i64 0, Go.Value.string ⟨#[]⟩]⟩ := by kernel_rfl
theorem kd_28 : kindP Try.prog 28 = Go.Vc.Tk.slice 55 3 32 [Go.Value.int Go.IntKind.i64 0, Go.Value.int Go.IntKind.i64 0, Go.Value.string ⟨#[]⟩] := by kernel_rfl
theorem ti_29 : tiP Try.prog 29 = some ⟨true, 5, [Go.Value.int Go.IntKind.i64 0, Go.Value.int Go.IntKind.i64 0, Go.Value.string ⟨#[]⟩, Go.Value.string ⟨#[]⟩, Go.Value.slice none 0 0], Go.Vc.Tk.struct [(0, 1, false), (1, 1, false), (2, 1, false), (3, 1, false), (4, 1, false)]⟩ := by kernel_rfl
theorem kd_29 : kindP Try.prog 29 = Go.Vc.Tk.struct [(0, 1, false), (1, 1, false), (2, 1, false), (3, 1, false), (4, 1, false)] := by kernel_rfl
theorem ti_30 : tiP Try.prog 30 = some ⟨true, 5, [Go.Value.int Go.IntKind.i64 0, Go.Value.int Go.IntKind.i64 0, Go.Value.string ⟨#[]⟩, Go.Value.string ⟨#[]⟩, Go.Value.slice none 0 0], Go.Vc.Tk.struct [(0, 1, false), (1, 1, false), (2, 1, false), (3, 1, false), (4, 1, false)]⟩ := by kernel_rfl
theorem kd_30 : kindP Try.prog 30 = Go.Vc.Tk.struct [(0, 1, false), (1, 1, false), (2, 1, false), (3, 1, false), (4, 1, false)] := by kernel_rfl
theorem ti_31 : tiP Try.prog 31 = some ⟨false, 1, [Go.Value.nilFunc], Go.Vc.Tk.other⟩ := by kernel_rfl
theorem ti_33 : tiP Try.prog 33 = some ⟨false, 1, [Go.Value.nilFunc], Go.Vc.Tk.other⟩ := by kernel_rfl
theorem ti_34 : tiP Try.prog 34 = some ⟨false, 1, [Go.Value.nilFunc], Go.Vc.Tk.other⟩ := by kernel_rfl
theorem ti_35 : tiP Try.prog 35 = some ⟨false, 1, [Go.Value.nilFunc], Go.Vc.Tk.other⟩ := by kernel_rfl
theorem ti_36 : tiP Try.prog 36 = some ⟨false, 1, [Go.Value.nilFunc], Go.Vc.Tk.other⟩ := by kernel_rfl
theorem ti_38 : tiP Try.prog 38 = some ⟨false, 1, [Go.Value.nilFunc], Go.Vc.Tk.other⟩ := by kernel_rfl
theorem ti_39 : tiP Try.prog 39 = some ⟨false, 1, [Go.Value.nilFunc], Go.Vc.Tk.other⟩ := by kernel_rfl
theorem ti_41 : tiP Try.prog 41 = some ⟨false, 1, [Go.Value.nilFunc], Go.Vc.Tk.other⟩ := by kernel_rfl
theorem ti_42 : tiP Try.prog 42 = some ⟨false, 1, [Go.Value.nilFunc], Go.Vc.Tk.other⟩ := by kernel_rfl
theorem ti_43 : tiP Try.prog 43 = some ⟨false, 1, [Go.Value.nilFunc], Go.Vc.Tk.other⟩ := by kernel_rfl
theorem ti_44 : tiP Try.prog 44 = some ⟨false, 1, [Go.Value.nilFunc], Go.Vc.Tk.other⟩ := by kernel_rfl
theorem ti_45 : tiP Try.prog 45 = some ⟨false, 1, [Go.Value.nilFunc], Go.Vc.Tk.other⟩ := by kernel_rfl
theorem ti_46 : tiP Try.prog 46 = some ⟨true, 3, [Go.Value.int Go.IntKind.i64 0, Go.Value.int Go.IntKind.i64 0, Go.Value.int Go.IntKind.i64 0], Go.Vc.Tk.struct [(0, 1, false), (1, 1, false), (2, 1, false)]⟩ := by kernel_rfl
theorem kd_46 : kindP Try.prog 46 = Go.Vc.Tk.struct [(0, 1, false), (1, 1, false), (2, 1, false)] := by kernel_rfl
theorem ti_47 : tiP Try.prog 47 = some ⟨true, 3, [Go.Value.int Go.IntKind.i64 0, Go.Value.int Go.IntKind.i64 0, Go.Value.int Go.IntKind.i64 0], Go.Vc.Tk.struct [(0, 1, false), (1, 1, false), (2, 1, false)]⟩ := by kernel_rfl
theorem kd_47 : kindP Try.prog 47 = Go.Vc.Tk.struct [(0, 1, false), (1, 1, false), (2, 1, false)] := by kernel_rfl
theorem ti_48 : tiP Try.prog 48 = some ⟨false, 1, [Go.Value.nilFunc], Go.Vc.Tk.other⟩ := by kernel_rfl
theorem ti_49 : tiP Try.prog 49 = some ⟨false, 1, [Go.Value.nilFunc], Go.Vc.Tk.other⟩ := by kernel_rfl
theorem ti_50 : tiP Try.prog 50 = some ⟨false, 1, [Go.Value.pointer none], Go.Vc.Tk.ptr 97⟩ := by kernel_rfl
theorem kd_50 : kindP Try.prog 50 = Go.Vc.Tk.ptr 97 := by kernel_rfl
theorem ti_51 : tiP Try.prog 51 = some ⟨false, 1, [Go.Value.nilFunc], Go.Vc.Tk.other⟩ := by kernel_rfl
theorem ti_53 : tiP Try.prog 53 = some ⟨false, 1, [Go.Value.nilFunc], Go.Vc.Tk.other⟩ := by kernel_rfl
theorem ti_54 : tiP Try.prog 54 = some ⟨true, 3, [Go.Value.int Go.IntKind.i64 0, Go.Value.int Go.IntKind.i64 0, Go.Value.string ⟨#[]⟩], Go.Vc.Tk.struct [(0, 1, false), (1, 1, false), (2, 1, false)]⟩ := by kernel_rfl
theorem kd_54 : kindP Try.prog 54 = Go.Vc.Tk.struct [(0, 1, false), (1, 1, false), (2, 1, false)] := by kernel_rfl
theorem ti_55 : tiP Try.prog 55 = some ⟨true, 3, [Go.Value.int Go.IntKind.i64 0, Go.Value.int Go.IntKind.i64 0, Go.Value.string ⟨#[]⟩], Go.Vc.Tk.struct [(0, 1, false), (1, 1, false), (2, 1, false)]⟩ := by kernel_rfl
theorem kd_55 : kindP Try.prog 55 = Go.Vc.Tk.struct [(0, 1, false), (1, 1, false), (2, 1, false)] := by kernel_rfl
theorem ti_56 : tiP Try.prog 56 = some ⟨true, 10, [Go.Value.int Go.IntKind.i64 0, Go.Value.int Go.IntKind.i64 0, Go.Value.string ⟨#[]⟩, Go.Value.string ⟨#[]⟩, Go.Value.slice none 0 0, Go.Value.int Go.IntKind.i64 0, Go.Value.int Go.IntKind.i64 0, Go.Value.string ⟨#[]⟩, Go.Value.string ⟨#[]⟩, Go.Value.slice none 0 0], Go.Vc.Tk.arr 2 30 5 true⟩ := by kernel_rfl
theorem kd_56 : kindP Try.prog 56 = Go.Vc.Tk.arr 2 30 5 true := by kernel_rfl
theorem ti_57 : tiP Try.prog 57 = some ⟨false, 1, [Go.Value.nilFunc], Go.Vc.Tk.other⟩ := by kernel_rfl
theorem ti_58 : tiP Try.prog 58 = some ⟨false, 1, [Go.Value.nilFunc], Go.Vc.Tk.other⟩ := by kernel_rfl
theorem ti_59 : tiP Try.prog 59 = some ⟨false, 1, [Go.Value.nilFunc], Go.Vc.Tk.other⟩ := by kernel_rfl
theorem ti_61 : tiP Try.prog 61 = some ⟨false, 1, [Go.Value.nilFunc], Go.Vc.Tk.other⟩ := by kernel_rfl
theorem ti_62 : tiP Try.prog 62 = some ⟨false, 1, [Go.Value.nilFunc], Go.Vc.Tk.other⟩ := by kernel_rfl
theorem ti_63 : tiP Try.prog 63 = some ⟨false, 1, [Go.Value.slice none 0 0], Go.Vc.Tk.slice 65 2 24 [Go.Value.int Go.IntKind.i64 0, Go.Value.string ⟨#[]⟩]⟩ := by kernel_rfl
theorem kd_63 : kindP Try.prog 63 = Go.Vc.Tk.slice 65 2 24 [Go.Value.int Go.IntKind.i64 0, Go.Value.string ⟨#[]⟩] := by kernel_rfl
theorem ti_64 : tiP Try.prog 64 = some ⟨true, 2, [Go.Value.int Go.IntKind.i64 0, Go.Value.string ⟨#[]⟩], Go.Vc.Tk.struct [(0, 1, false), (1, 1, false)]⟩ := by kernel_rfl
theorem kd_64 : kindP Try.prog 64 = Go.Vc.Tk.struct [(0, 1, false), (1, 1, false)] := by kernel_rfl
theorem ti_65 : tiP Try.prog 65 = some ⟨true, 2, [Go.Value.int Go.IntKind.i64 0, Go.Value.string ⟨#[]⟩], Go.Vc.Tk.struct [(0, 1, false), (1, 1, false)]⟩ := by kernel_rfl
theorem kd_65 : kindP Try.prog 65 = Go.Vc.Tk.struct [(0, 1, false), (1, 1, false)] := by kernel_rfl
theorem ti_66 : tiP Try.prog 66 = some ⟨false, 1, [Go.Value.pointer none], Go.Vc.Tk.ptr 69⟩ := by kernel_rfl
theorem kd_66 : kindP Try.prog 66 = Go.Vc.Tk.ptr 69 := by kernel_rfl
theorem ti_67 : tiP Try.prog 67 = some ⟨false, 1, [Go.Value.slice none 0 0], Go.Vc.Tk.slice 5 1 1 [Go.Value.int Go.IntKind.u8 0]⟩ := by kernel_rfl
theorem kd_67 : kindP Try.prog 67 = Go.Vc.Tk.slice 5 1 1 [Go.Value.int Go.IntKind.u8 0] := by kernel_rfl
theorem ti_68 : tiP Try.prog 68 = some ⟨true, 2, [Go.Value.pointer none, Go.Value.slice none 0 0], Go.Vc.Tk.struct [(0, 1, false), (1, 1, false)]⟩ := by kernel_rfl
theorem kd_68 : kindP Try.prog 68 = Go.Vc.Tk.struct [(0, 1, false), (1, 1, false)] := by kernel_rfl
theorem ti_69 : tiP Try.prog 69 = some ⟨true, 2, [Go.Value.pointer none, Go.Value.slice none 0 0], Go.Vc.Tk.struct [(0, 1, false), (1, 1, false)]⟩ := by kernel_rfl
theorem kd_69 : kindP Try.prog 69 = Go.Vc.Tk.struct [(0, 1, false), (1, 1, false)] := by kernel_rfl
theorem ti_70 : tiP Try.prog 70 = some ⟨false, 1, [Go.Value.nilIface], Go.Vc.Tk.other⟩ := by kernel_rfl
theorem ti_71 : tiP Try.prog 71 = some ⟨false, 1, [Go.Value.nilIface], Go.Vc.Tk.other⟩ := by kernel_rfl
theorem ti_73 : tiP Try.prog 73 = some ⟨false, 1, [Go.Value.nilFunc], Go.Vc.Tk.other⟩ := by kernel_rfl
theorem ti_74 : tiP Try.prog 74 = some ⟨false, 1, [Go.Value.nilFunc], Go.Vc.Tk.other⟩ := by kernel_rfl
theorem ti_75 : tiP Try.prog 75 = some ⟨false, 1, [Go.Value.slice none 0 0], Go.Vc.Tk.slice 77 4 40 [Go.Value.int Go.IntKind.i64 0, Go.Value.slice none 0 0, Go.Value.bool false, Go.Value.bool false]⟩ := by kernel_rfl
theorem kd_75 : kindP Try.prog 75 = Go.Vc.Tk.slice 77 4 40 [Go.Value.int Go.IntKind.i64 0, Go.Value.slice none 0 0, Go.Value.bool false, Go.Value.bool false] := by kernel_rfl
theorem ti_76 : tiP Try.prog 76 = some ⟨true, 4, [Go.Value.int Go.IntKind.i64 0, Go.Value.slice none 0 0, Go.Value.bool false, Go.Value.bool false], Go.Vc.Tk.struct [(0, 1, false), (1, 1, false), (2, 1, false), (3, 1, false)]⟩ := by kernel_rfl
theorem kd_76 : kindP Try.prog 76 = Go.Vc.Tk.struct [(0, 1, false), (1, 1, false), (2, 1, false), (3, 1, false)] := by kernel_rfl
theorem ti_77 : tiP Try.prog 77 = some ⟨true, 4, [Go.Value.int Go.IntKind.i64 0, Go.Value.slice none 0 0, Go.Value.bool false, Go.Value.bool false], Go.Vc.Tk.struct [(0, 1, false), (1, 1, false), (2, 1, false), (3, 1, false)]⟩ := by kernel_rfl
theorem kd_77 : kindP Try.prog 77 = Go.Vc.Tk.struct [(0, 1, false), (1, 1, false), (2, 1, false), (3, 1, false)] := by kernel_rfl
theorem ti_78 : tiP Try.prog 78 = some ⟨false, 1, [Go.Value.nilFunc], Go.Vc.Tk.other⟩ := by kernel_rfl
theorem ti_79 : tiP Try.prog 79 = some ⟨false, 1, [Go.Value.nilFunc], Go.Vc.Tk.other⟩ := by kernel_rfl
theorem ti_80 : tiP Try.prog 80 = some ⟨false, 1, [Go.Value.nilFunc], Go.Vc.Tk.other⟩ := by kernel_rfl
theorem ti_81 : tiP Try.prog 81 = some ⟨true, 2, [Go.Value.int Go.IntKind.i64 0, Go.Value.slice none 0 0], Go.Vc.Tk.struct [(0, 1, false), (1, 1, false)]⟩ := by kernel_rfl
theorem kd_81 : kindP Try.prog 81 = Go.Vc.Tk.struct [(0, 1, false), (1, 1, false)] := by kernel_rfl
theorem ti_82 : tiP Try.prog 82 = some ⟨true, 2, [Go.Value.int Go.IntKind.i64 0, Go.Value.slice none 0 0], Go.Vc.Tk.struct [(0, 1, false), (1, 1, false)]⟩ := by kernel_rfl
theorem kd_82 : kindP Try.prog 82 = Go.Vc.Tk.struct [(0, 1, false), (1, 1, false)] := by kernel_rfl
theorem ti_83 : tiP Try.prog 83 = some ⟨false, 1, [Go.Value.map none], Go.Vc.Tk.map 3 82⟩ := by kernel_rfl
theorem kd_83 : kindP Try.prog 83 = Go.Vc.Tk.map 3 82 := by kernel_rfl
theorem ti_84 : tiP Try.prog 84 = some ⟨false, 1, [Go.Value.nilFunc], Go.Vc.Tk.other⟩ := by kernel_rfl
theorem ti_85 : tiP Try.prog 85 = some ⟨false, 1, [Go.Value.nilFunc], Go.Vc.Tk.other⟩ := by kernel_rfl
theorem ti_87 : tiP Try.prog 87 = some ⟨false, 1, [Go.Value.nilFunc], Go.Vc.Tk.other⟩ := by kernel_rfl
theorem ti_88 : tiP Try.prog 88 = some ⟨false, 1, [Go.Value.nilFunc], Go.Vc.Tk.other⟩ := by kernel_rfl
theorem ti_89 : tiP Try.prog 89 = some ⟨false, 1, [Go.Value.nilFunc], Go.Vc.Tk.other⟩ := by kernel_rfl
theorem ti_90 : tiP Try.prog 90 = some ⟨false, 1, [Go.Value.slice none 0 0], Go.Vc.Tk.slice 25 1 8 [Go.Value.int Go.IntKind.i64 0]⟩ := by kernel_rfl
theorem kd_90 : kindP Try.prog 90 = Go.Vc.Tk.slice 25 1 8 [Go.Value.int Go.IntKind.i64 0] := by kernel_rfl
theorem ti_91 : tiP Try.prog 91 = some ⟨false, 1, [Go.Value.int Go.IntKind.u64 0], Go.Vc.Tk.int Go.IntKind.u64⟩ := by kernel_rfl
theorem kd_91 : kindP Try.prog 91 = Go.Vc.Tk.int Go.IntKind.u64 := by kernel_rfl
theorem ti_92 : tiP Try.prog 92 = some ⟨false, 1, [Go.Value.slice none 0 0], Go.Vc.Tk.slice 109 2 16 [Go.Value.int Go.IntKind.u8 0, Go.Value.int Go.IntKind.i64 0]⟩ := by kernel_rfl
theorem kd_92 : kindP Try.prog 92 = Go.Vc.Tk.slice 109 2 16 [Go.Value.int Go.IntKind.u8 0, Go.Value.int Go.IntKind.i64 0] := by kernel_rfl
theorem ti_93 : tiP Try.prog 93 = some ⟨true, 4, [Go.Value.int Go.IntKind.i64 0, Go.Value.int Go.IntKind.i64 0, Go.Value.int Go.IntKind.i64 0, Go.Value.slice none 0 0], Go.Vc.Tk.struct [(0, 1, false), (1, 1, false), (2, 1, false), (3, 1, false)]⟩ := by kernel_rfl
theorem kd_93 : kindP Try.prog 93 = Go.Vc.Tk.struct [(0, 1, false), (1, 1, false), (2, 1, false), (3, 1, false)] := by kernel_rfl
theorem ti_94 : tiP Try.prog 94 = some ⟨true, 4, [Go.Value.int Go.IntKind.i64 0, Go.Value.int Go.IntKind.i64 0, Go.Value.int Go.IntKind.i64 0, Go.Value.slice none 0 0], Go.Vc.Tk.struct [(0, 1, false), (1, 1, false), (2, 1, false), (3, 1, false)]⟩ := by kernel_rfl
theorem kd_94 : kindP Try.prog 94 = Go.Vc.Tk.struct [(0, 1, false), (1, 1, false), (2, 1, false), (3, 1, false)] := by kernel_rfl
theorem ti_95 : tiP Try.prog 95 = some ⟨false, 1, [Go.Value.slice none 0 0], Go.Vc.Tk.slice 94 4 48 [Go.Value.int Go.IntKind.i64 0, Go.Value.int Go.IntKind.i64 0, Go.Value.int Go.IntKind.i64 0, Go.Value.slice none 0 0]⟩ := by kernel_rfl
theorem kd_95 : kindP Try.prog 95 = Go.Vc.Tk.slice 94 4 48 [Go.Value.int Go.IntKind.i64 0, Go.Value.int Go.IntKind.i64 0, Go.Value.int Go.IntKind.i64 0, Go.Value.slice none 0 0] := by kernel_rfl
theorem ti_96 : tiP Try.prog 96 = some ⟨true, 2, [Go.Value.slice none 0 0, Go.Value.int Go.IntKind.i64 0], Go.Vc.Tk.struct [(0, 1, false), (1, 1, false)]⟩ := by kernel_rfl
theorem kd_96 : kindP Try.prog 96 = Go.Vc.Tk.struct [(0, 1, false), (1, 1, false)] := by kernel_rfl
theorem ti_97 : tiP Try.prog 97 = some ⟨true, 2, [Go.Value.slice none 0 0, Go.Value.int Go.IntKind.i64 0], Go.Vc.Tk.struct [(0, 1, false), (1, 1, false)]⟩ := by kernel_rfl
theorem kd_97 : kindP Try.prog 97 = Go.Vc.Tk.struct [(0, 1, false), (1, 1, false)] := by kernel_rfl
theorem ti_98 : tiP Try.prog 98 = some ⟨false, 1, [Go.Value.nilFunc], Go.Vc.Tk.other⟩ := by kernel_rfl
theorem ti_99 : tiP Try.prog 99 = some ⟨false, 1, [Go.Value.nilFunc], Go.Vc.Tk.other⟩ := by kernel_rfl
theorem ti_100 : tiP Try.prog 100 = some ⟨false, 1, [Go.Value.slice none 0 0], Go.Vc.Tk.slice 9 1 16 [Go.Value.string ⟨#[]⟩]⟩ := by kernel_rfl
theorem kd_100 : kindP Try.prog 100 = Go.Vc.Tk.slice 9 1 16 [Go.Value.string ⟨#[]⟩] := by kernel_rfl
theorem ti_101 : tiP Try.prog 101 = some ⟨false, 1, [Go.Value.nilFunc], Go.Vc.Tk.other⟩ := by kernel_rfl
theorem ti_102 : tiP Try.prog 102 = some ⟨false, 1, [Go.Value.pointer none], Go.Vc.Tk.ptr 5⟩ := by kernel_rfl
theorem kd_102 : kindP Try.prog 102 = Go.Vc.Tk.ptr 5 := by kernel_rfl
theorem ti_103 : tiP Try.prog 103 = some ⟨false, 1, [Go.Value.nilFunc], Go.Vc.Tk.other⟩ := by kernel_rfl
theorem ti_104 : tiP Try.prog 104 = some ⟨false, 1, [Go.Value.nilFunc], Go.Vc.Tk.other⟩ := by kernel_rfl
theorem ti_105 : tiP Try.prog 105 = some ⟨false, 1, [Go.Value.nilFunc], Go.Vc.Tk.other⟩ := by kernel_rfl
theorem ti_106 : tiP Try.prog 106 = some ⟨false, 1, [Go.Value.nilFunc], Go.Vc.Tk.other⟩ := by kernel_rfl
theorem ti_107 : tiP Try.prog 107 = some ⟨false, 1, [Go.Value.pointer none], Go.Vc.Tk.ptr 94⟩ := by kernel_rfl
theorem kd_107 : kindP Try.prog 107 = Go.Vc.Tk.ptr 94 := by kernel_rfl
theorem ti_108 : tiP Try.prog 108 = some ⟨true, 2, [Go.Value.int Go.IntKind.u8 0, Go.Value.int Go.IntKind.i64 0], Go.Vc.Tk.struct [(0, 1, false), (1, 1, false)]⟩ := by kernel_rfl
theorem kd_108 : kindP Try.prog 108 = Go.Vc.Tk.struct [(0, 1, false), (1, 1, false)] := by kernel_rfl
theorem ti_109 : tiP Try.prog 109 = some ⟨true, 2, [Go.Value.int Go.IntKind.u8 0, Go.Value.int Go.IntKind.i64 0], Go.Vc.Tk.struct [(0, 1, false), (1, 1, false)]⟩ := by kernel_rfl
theorem kd_109 : kindP Try.prog 109 = Go.Vc.Tk.struct [(0, 1, false), (1, 1, false)] := by kernel_rfl
theorem ti_110 : tiP Try.prog 110 = some ⟨false, 1, [Go.Value.nilFunc], Go.Vc.Tk.other⟩ := by kernel_rfl
theorem ti_111 : tiP Try.prog 111 = some ⟨false, 1, [Go.Value.pointer none], Go.Vc.Tk.other⟩ := by kernel_rfl
theorem ti_112 : tiP Try.prog 112 = some ⟨false, 1, [Go.Value.nilFunc], Go.Vc.Tk.other⟩ := by kernel_rfl
theorem ti_113 : tiP Try.prog 113 = some ⟨false, 1, [Go.Value.nilFunc], Go.Vc.Tk.other⟩ := by kernel_rfl
theorem ti_114 : tiP Try.prog 114 = some ⟨false, 1, [Go.Value.nilFunc], Go.Vc.Tk.other⟩ := by kernel_rfl
theorem ti_115 : tiP Try.prog 115 = some ⟨false, 1, [Go.Value.nilFunc], Go.Vc.Tk.other⟩ := by kernel_rfl
theorem ti_116 : tiP Try.prog 116 = some ⟨false, 1, [Go.Value.int Go.IntKind.u64 0], Go.Vc.Tk.int Go.IntKind.u64⟩ := by kernel_rfl
theorem kd_116 : kindP Try.prog 116 = Go.Vc.Tk.int Go.IntKind.u64 := by kernel_rfl
theorem ti_117 : tiP Try.prog 117 = some ⟨false, 1, [Go.Value.nilFunc], Go.Vc.Tk.other⟩ := by kernel_rfl
theorem ti_118 : tiP Try.prog 118 = some ⟨false, 1, [Go.Value.int Go.IntKind.i64 0], Go.Vc.Tk.int Go.IntKind.i64⟩ := by kernel_rfl
theorem kd_118 : kindP Try.prog 118 = Go.Vc.Tk.int Go.IntKind.i64 := by kernel_rfl
theorem ti_120 : tiP Try.prog 120 = some ⟨false, 1, [Go.Value.nilFunc], Go.Vc.Tk.other⟩ := by kernel_rfl
theorem ti_121 : tiP Try.prog 121 = some ⟨false, 1, [Go.Value.nilFunc], Go.Vc.Tk.other⟩ := by kernel_rfl
theorem ti_122 : tiP Try.prog 122 = some ⟨false, 1, [Go.Value.nilFunc], Go.Vc.Tk.other⟩ := by kernel_rfl
theorem ti_123 : tiP Try.prog 123 = some ⟨false, 1, [Go.Value.nilFunc], Go.Vc.Tk.other⟩ := by kernel_rfl
theorem ti_125 : tiP Try.prog 125 = some ⟨false, 1, [Go.Value.nilFunc], Go.Vc.Tk.other⟩ := by kernel_rfl
theorem ti_126 : tiP Try.prog 126 = some ⟨false, 1, [Go.Value.nilFunc], Go.Vc.Tk.other⟩ := by kernel_rfl
theorem ti_127 : tiP Try.prog 127 = some ⟨false, 1, [Go.Value.int Go.IntKind.u32 0], Go.Vc.Tk.int Go.IntKind.u32⟩ := by kernel_rfl
theorem kd_127 : kindP Try.prog 127 = Go.Vc.Tk.int Go.IntKind.u32 := by kernel_rfl
theorem ti_128 : tiP Try.prog 128 = some ⟨false, 1, [Go.Value.nilFunc], Go.Vc.Tk.other⟩ := by kernel_rfl
theorem ti_129 : tiP Try.prog 129 = some ⟨false, 1, [Go.Value.nilFunc], Go.Vc.Tk.other⟩ := by kernel_rfl
theorem ti_130 : tiP Try.prog 130 = some ⟨false, 1, [Go.Value.int Go.IntKind.u64 0], Go.Vc.Tk.int Go.IntKind.u64⟩ := by kernel_rfl
theorem kd_130 : kindP Try.prog 130 = Go.Vc.Tk.int Go.IntKind.u64 := by kernel_rfl
theorem ti_131 : tiP Try.prog 131 = some ⟨false, 1, [Go.Value.nilFunc], Go.Vc.Tk.other⟩ := by kernel_rfl
theorem ti_132 : tiP Try.prog 132 = some ⟨false, 1, [Go.Value.nilFunc], Go.Vc.Tk.other⟩ := by kernel_rfl
theorem ti_133 : tiP Try.prog 133 = some ⟨false, 1, [Go.Value.nilFunc], Go.Vc.Tk.other⟩ := by kernel_rfl
theorem ti_134 : tiP Try.prog 134 = some ⟨false, 1, [Go.Value.pointer none], Go.Vc.Tk.ptr 3⟩ := by kernel_rfl
theorem kd_134 : kindP Try.prog 134 = Go.Vc.Tk.ptr 3 := by kernel_rfl
theorem ti_135 : tiP Try.prog 135 = some ⟨false, 1, [Go.Value.nilFunc], Go.Vc.Tk.other⟩ := by kernel_rfl
theorem ti_136 : tiP Try.prog 136 = some ⟨false, 1, [Go.Value.pointer none], Go.Vc.Tk.ptr 130⟩ := by kernel_rfl
theorem kd_136 : kindP Try.prog 136 = Go.Vc.Tk.ptr 130 := by kernel_rfl
theorem ti_137 : tiP Try.prog 137 = some ⟨false, 1, [Go.Value.nilFunc], Go.Vc.Tk.other⟩ := by kernel_rfl
theorem ti_138 : tiP Try.prog 138 = some ⟨true, 4, [Go.Value.pointer none, Go.Value.pointer none, Go.Value.pointer none, Go.Value.string ⟨#[]⟩], Go.Vc.Tk.struct [(0, 1, false), (1, 1, false), (2, 1, false), (3, 1, false)]⟩ := by kernel_rfl
theorem kd_138 : kindP Try.prog 138 = Go.Vc.Tk.struct [(0, 1, false), (1, 1, false), (2, 1, false), (3, 1, false)] := by kernel_rfl
theorem ti_139 : tiP Try.prog 139 = some ⟨true, 4, [Go.Value.pointer none, Go.Value.pointer none, Go.Value.pointer none, Go.Value.string ⟨#[]⟩], Go.Vc.Tk.struct [(0, 1, false), (1, 1, false), (2, 1, false), (3, 1, false)]⟩ := by kernel_rfl
theorem kd_139 : kindP Try.prog 139 = Go.Vc.Tk.struct [(0, 1, false), (1, 1, false), (2, 1, false), (3, 1, false)] := by kernel_rfl
theorem ti_140 : tiP Try.prog 140 = some ⟨true, 0, [], Go.Vc.Tk.arr 0 16 1 false⟩ := by kernel_rfl
theorem kd_140 : kindP Try.prog 140 = Go.Vc.Tk.arr 0 16 1 false := by kernel_rfl
theorem ti_141 : tiP Try.prog 141 = some ⟨true, 0, [], Go.Vc.Tk.struct [(0, 0, true)]⟩ := by kernel_rfl
theorem kd_141 : kindP Try.prog 141 = Go.Vc.Tk.struct [(0, 0, true)] := by kernel_rfl
theorem ti_142 : tiP Try.prog 142 = some ⟨true, 0, [], Go.Vc.Tk.struct [(0, 0, true)]⟩ := by kernel_rfl
theorem kd_142 : kindP Try.prog 142 = Go.Vc.Tk.struct [(0, 0, true)] := by kernel_rfl
theorem ti_143 : tiP Try.prog 143 = some ⟨false, 1, [Go.Value.nilFunc], Go.Vc.Tk.other⟩ := by kernel_rfl
theorem ti_144 : tiP Try.prog 144 = some ⟨false, 1, [Go.Value.int Go.IntKind.u8 0], Go.Vc.Tk.int Go.IntKind.u8⟩ := by kernel_rfl
theorem kd_144 : kindP Try.prog 144 = Go.Vc.Tk.int Go.IntKind.u8 := by kernel_rfl
theorem ti_145 : tiP Try.prog 145 = some ⟨false, 1, [Go.Value.int Go.IntKind.u8 0], Go.Vc.Tk.int Go.IntKind.u8⟩ := by kernel_rfl
theorem kd_145 : kindP Try.prog 145 = Go.Vc.Tk.int Go.IntKind.u8 := by kernel_rfl
theorem ti_146 : tiP Try.prog 146 = some ⟨false, 1, [Go.Value.nilFunc], Go.Vc.Tk.other⟩ := by kernel_rfl
theorem ti_147 : tiP Try.prog 147 = some ⟨false, 1, [Go.Value.int Go.IntKind.i32 0], Go.Vc.Tk.int Go.IntKind.i32⟩ := by kernel_rfl
theorem kd_147 : kindP Try.prog 147 = Go.Vc.Tk.int Go.IntKind.i32 := by kernel_rfl
theorem ti_148 : tiP Try.prog 148 = some ⟨false, 1, [Go.Value.int Go.IntKind.i32 0], Go.Vc.Tk.int Go.IntKind.i32⟩ := by kernel_rfl
theorem kd_148 : kindP Try.prog 148 = Go.Vc.Tk.int Go.IntKind.i32 := by kernel_rfl
theorem ti_149 : tiP Try.prog 149 = some ⟨true, 11, [Go.Value.int Go.IntKind.u64 0, Go.Value.int Go.IntKind.u64 0, Go.Value.int Go.IntKind.u32 0, Go.Value.int Go.IntKind.u8 0, Go.Value.int Go.IntKind.u8 0, Go.Value.int Go.IntKind.u8 0, Go.Value.int Go.IntKind.u8 0, Go.Value.nilFunc, Go.Value.pointer none, Go.Value.int Go.IntKind.i32 0, Go.Value.int Go.IntKind.i32 0], Go.Vc.Tk.struct [(0, 1, false), (1, 1, false), (2, 1, false), (3, 1, false), (4, 1, false), (5, 1, false), (6, 1, false), (7, 1, false), (8, 1, false), (9, 1, false), (10, 1, false)]⟩ := by kernel_rfl
theorem kd_149 : kindP Try.prog 149 = Go.Vc.Tk.struct [(0, 1, false), (1, 1, false), (2, 1, false), (3, 1, false), (4, 1, false), (5, 1, false), (6, 1, false), (7, 1, false), (8, 1, false), (9, 1, false), (10, 1, false)] := by kernel_rfl
theorem ti_150 : tiP Try.prog 150 = some ⟨true, 11, [Go.Value.int Go.IntKind.u64 0, Go.Value.int Go.IntKind.u64 0, Go.Value.int Go.IntKind.u32 0, Go.Value.int Go.IntKind.u8 0, Go.Value.int Go.IntKind.u8 0, Go.Value.int Go.IntKind.u8 0, Go.Value.int Go.IntKind.u8 0, Go.Value.nilFunc, Go.Value.pointer none, Go.Value.int Go.IntKind.i32 0, Go.Value.int Go.IntKind.i32 0], Go.Vc.Tk.struct [(0, 1, false), (1, 1, false), (2, 1, false), (3, 1, false), (4, 1, false), (5, 1, false), (6, 1, false), (7, 1, false), (8, 1, false), (9, 1, false), (10, 1, false)]⟩ := by kernel_rfl
theorem kd_150 : kindP Try.prog 150 = Go.Vc.Tk.struct [(0, 1, false), (1, 1, false), (2, 1, false), (3, 1, false), (4, 1, false), (5, 1, false), (6, 1, false), (7, 1, false), (8, 1, false), (9, 1, false), (10, 1, false)] := by kernel_rfl
attribute [go_sem] ti_0 ti_1 ti_2 kd_2 ti_3 kd_3 ti_4 kd_4 ti_5 kd_5 ti_6 kd_6 ti_7 kd_7 ti_8 kd_8 ti_9 kd_9 ti_10 kd_10 ti_11 kd_11 ti_12 kd_12 ti_13 kd_13 ti_14 kd_14 ti_15 kd_15 ti_16 kd_16 ti_17 kd_17 ti_18 kd_18 ti_19 kd_19 ti_20 ti_21
attribute [go_sem] kd_21 ti_22 kd_22 ti_23 kd_23 ti_24 ti_25 kd_25 ti_26 ti_27 ti_28 kd_28 ti_29 kd_29 ti_30 kd_30 ti_31 ti_33 ti_34 ti_35 ti_36 ti_38 ti_39 ti_41 ti_42 ti_43 ti_44 ti_45 ti_46 kd_46 ti_47 kd_47 ti_48 ti_49 ti_50 kd_50 ti_51 ti_53 ti_54 kd_54
attribute [go_sem] ti_55 kd_55 ti_56 kd_56 ti_57 ti_58 ti_59 ti_61 ti_62 ti_63 kd_63 ti_64 kd_64 ti_65 kd_65 ti_66 kd_66 ti_67 kd_67 ti_68 kd_68 ti_69 kd_69 ti_70 ti_71 ti_73 ti_74 ti_75 kd_75 ti_76 kd_76 ti_77 kd_77 ti_78 ti_79 ti_80 ti_81 kd_81 ti_82 kd_82
attribute [go_sem] ti_83 kd_83 ti_84 ti_85 ti_87 ti_88 ti_89 ti_90 kd_90 ti_91 kd_91 ti_92 kd_92 ti_93 kd_93 ti_94 kd_94 ti_95 kd_95 ti_96 kd_96 ti_97 kd_97 ti_98 ti_99 ti_100 kd_100 ti_101 ti_102 kd_102 ti_103 ti_104 ti_105 ti_106 ti_107 kd_107 ti_108 kd_108 ti_109 kd_109
attribute [go_sem] ti_110 ti_111 ti_112 ti_113 ti_114 ti_115 ti_116 kd_116 ti_117 ti_118 kd_118 ti_120 ti_121 ti_122 ti_123 ti_125 ti_126 ti_127 kd_127 ti_128 ti_129 ti_130 kd_130 ti_131 ti_132 ti_133 ti_134 kd_134 ti_135 ti_136 kd_136 ti_137 ti_138 kd_138 ti_139 kd_139 ti_140 kd_140 ti_141 kd_141
attribute [go_sem] ti_142 kd_142 ti_143 ti_144 kd_144 ti_145 kd_145 ti_146 ti_147 kd_147 ti_148 kd_148 ti_149 kd_149 ti_150 kd_150
end Go.Proofs.Ythofobeoaimclaa
