/- Facts that the walks use. -/
import Derived.Test.YtbfemlilfeahkaaGreatDoorTfMd
import Derived.Test.YtbfemlilfeahkaaGreatDoorTy
import Derived.Test.YtbfemlilfeahkaaGreatDoorSo
set_option linter.unusedSimpArgs false
set_option linter.unusedVariables false
open Go.Proofs Go.Shelf
namespace Go.Proofs.YtbfemlilfeahkaaGreatDoor
open Go.Vc Go.Md
theorem cv_120_214_122_2 : cvP Tryz.prog 120 214 122 2 = true := by kernel_rfl
attribute [go_sem] cv_120_214_122_2
theorem cv_214_120_122_2 : cvP Tryz.prog 214 120 122 2 = true := by kernel_rfl
attribute [go_sem] cv_214_120_122_2
theorem nvi_188 : NvI Tryz.prog 188 := NvI.noEscape Tryz.func188 (by kernel_rfl) (by kernel_rfl) (by kernel_rfl) (by kernel_rfl)
theorem pi_122 : (Tryz.prog.info? 122).isSome = true := by kernel_rfl
attribute [go_sem] pi_122
theorem sb_181_5 : sbP Tryz.prog 181 5 = true := by kernel_rfl
attribute [go_sem] sb_181_5
theorem nv_171 (s : List UInt8) (c : List UInt8) : Nv Tryz.prog 171 [.p (.s s), .p (.s c)] (.p (.i .i64 (cmpB s c))) := Nv.compare Tryz.func171 (by kernel_rfl) (by kernel_rfl) (by kernel_rfl) (by kernel_rfl) s c
theorem nv_212 (s : List UInt8) (c : Int) : Nv Tryz.prog 212 [.p (.s s), .p (.i .u8 c)] (.p (.i .i64 (cntByte s c))) := Nv.countByte Tryz.func212 (by kernel_rfl) (by kernel_rfl) (by kernel_rfl) (by kernel_rfl) s c
theorem nv_213 (s : List UInt8) (c : Int) : Nv Tryz.prog 213 [.p (.s s), .p (.i .u8 c)] (.p (.i .i64 (ixByte s c))) := Nv.indexByte Tryz.func213 (by kernel_rfl) (by kernel_rfl) (by kernel_rfl) (by kernel_rfl) s c
theorem sg {p : Prop} (h : p := by simp only [go_sem, simprocAttr]) : p := h
theorem si {p : Prop} (h : p := by (simp only [go_sem, simprocAttr]; exact Is.mk)) : p := h
theorem sb {p q : Prop} (hp : p) (h : p → q := by first | exact fun h => h | (intro h; simpa using h)) : q := h hp
theorem se1 {p : Prop} (h : p := by simp [ecB, ecI_i64, ecI_u8, ecS, enc_api_File, enc_api_Machine, enc_api_Service, enc_api_Setting, List.map_set, List.map_replicate]) : p := h
theorem se2 {p : Prop} (h : p := by simp [ecB, ecI_i64, ecI_u8, ecS, enc_api_Change, enc_api_File, enc_api_Machine, enc_api_Service, enc_api_Setting, List.map_set, List.map_replicate]) : p := h
end Go.Proofs.YtbfemlilfeahkaaGreatDoor
