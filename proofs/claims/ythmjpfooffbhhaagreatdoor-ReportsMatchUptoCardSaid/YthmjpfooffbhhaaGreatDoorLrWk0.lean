/- Facts that the walks use. -/
import Derived.Test.YthmjpfooffbhhaaGreatDoorLrMd
import Derived.Test.YthmjpfooffbhhaaGreatDoorLrTy
import Derived.Test.YthmjpfooffbhhaaGreatDoorSo
import Derived.Test.YthmjpfooffbhhaaGreatDoorSh
set_option linter.unusedSimpArgs false
set_option linter.unusedVariables false
open Go.Proofs Go.Shelf
namespace Go.Proofs.YthmjpfooffbhhaaGreatDoor
open Go.Vc Go.Md
theorem cv_131_68_71_2 : cvP Tryz.prog 131 68 71 2 = true := by kernel_rfl
attribute [go_sem] cv_131_68_71_2
theorem cv_68_131_71_2 : cvP Tryz.prog 68 131 71 2 = true := by kernel_rfl
attribute [go_sem] cv_68_131_71_2
theorem nvi_90 : NvI Tryz.prog 90 := NvI.noEscape Tryz.func90 (by kernel_rfl) (by kernel_rfl) (by kernel_rfl) (by kernel_rfl)
theorem pi_71 : (Tryz.prog.info? 71).isSome = true := by kernel_rfl
attribute [go_sem] pi_71
theorem sb_111_5 : sbP Tryz.prog 111 5 = true := by kernel_rfl
attribute [go_sem] sb_111_5
theorem nv_135 (s : List UInt8) (c : List UInt8) : Nv Tryz.prog 135 [.p (.s s), .p (.s c)] (.p (.i .i64 (cmpB s c))) := Nv.compare Tryz.func135 (by kernel_rfl) (by kernel_rfl) (by kernel_rfl) (by kernel_rfl) s c
theorem nv_149 (s : List UInt8) (c : Int) : Nv Tryz.prog 149 [.p (.s s), .p (.i .u8 c)] (.p (.i .i64 (cntByte s c))) := Nv.countByte Tryz.func149 (by kernel_rfl) (by kernel_rfl) (by kernel_rfl) (by kernel_rfl) s c
theorem nv_167 (s : List UInt8) (c : Int) : Nv Tryz.prog 167 [.p (.s s), .p (.i .u8 c)] (.p (.i .i64 (ixByte s c))) := Nv.indexByte Tryz.func167 (by kernel_rfl) (by kernel_rfl) (by kernel_rfl) (by kernel_rfl) s c
theorem sg {p : Prop} (h : p := by simp only [go_sem, simprocAttr]) : p := h
theorem si {p : Prop} (h : p := by first | (simp only [go_sem, simprocAttr]; exact Is.mk) | (simp only [go_sem, simprocAttr, List.map_append, ecB, ecI_i64, ecI_u8, ecS, enc_api_Record, enc_api_Version]; exact Is.mk)) : p := h
theorem qS {P : Program} {kl : List Bool} {n : Nat} {B : Bs} {Q : Qt} {E E' : Env} {H H' : List Ob} {id : Nat} {l : List Oper} {y : Code} (h : Wp P kl n B y Q E' H') (h1 : ∀ K : Env → List Ob → Prop, K E' H' → RgEnd P kl n B l.toArray K (run1 P kl n l l ⟨E, H, True⟩) := by (intro K hK; simp only [go_sem, simprocAttr]; first | exact hK | exact ⟨sd, hK⟩)) : Wp P kl n B (.seq (.region id l.toArray false) y) Q E H := Wp.seqR fun K hK => h1 K (hK _ _ h)
theorem qR {P : Program} {kl : List Bool} {n : Nat} {B : Bs} {Q : Qt} {E E' : Env} {H H' : List Ob} {id : Nat} {l : List Oper} (h : Q .normal E' H') (h1 : ∀ K : Env → List Ob → Prop, K E' H' → RgEnd P kl n B l.toArray K (run1 P kl n l l ⟨E, H, True⟩) := by (intro K hK; simp only [go_sem, simprocAttr]; first | exact hK | exact ⟨sd, hK⟩)) : Wp P kl n B (.region id l.toArray false) Q E H := Wp.region fun K hK => h1 K (hK _ _ h)
theorem sb {p q : Prop} (hp : p) (h : p → q := by first | exact fun h => h | (intro h; simpa using h)) : q := h hp
theorem iw1 : IntKind.i64.wrap 1 = 1 := by decide
theorem iw2 : IntKind.i64.wrap 2 = 2 := by decide
theorem iw3 : IntKind.i64.wrap 3 = 3 := by decide
theorem iw4 : IntKind.i64.wrap 4 = 4 := by decide
theorem iw5 : IntKind.i64.wrap 5 = 5 := by decide
theorem iw6 : IntKind.i64.wrap 6 = 6 := by decide
theorem iw7 : IntKind.i64.wrap 7 = 7 := by decide
theorem iw8 : IntKind.i64.wrap 8 = 8 := by decide
theorem iw9 : IntKind.i64.wrap 9 = 9 := by decide
attribute [go_sem] iw1 iw2 iw3 iw4 iw5 iw6 iw7 iw8 iw9
theorem se1 {p : Prop} (h : p := by simp [ecB, ecI_i64, ecI_u8, ecS, enc_api_Record, enc_api_Version, List.map_set, List.map_replicate]) : p := h
theorem fse1 {p : Prop} (h : p := by (simp only [go_sem, simprocAttr] <;> simp [ecB, ecI_i64, ecI_u8, ecS, enc_api_Record, enc_api_Version, List.map_set, List.map_replicate])) : p := h
theorem se2 {p : Prop} (h : p := by simp [ecB, ecI_i64, ecI_u8, ecS, enc_api_Had, enc_api_Record, enc_api_Version, List.map_set, List.map_replicate]) : p := h
theorem fse2 {p : Prop} (h : p := by (simp only [go_sem, simprocAttr] <;> simp [ecB, ecI_i64, ecI_u8, ecS, enc_api_Had, enc_api_Record, enc_api_Version, List.map_set, List.map_replicate])) : p := h
theorem se3 {p : Prop} (h : p := by simp [ecB, ecI_i64, ecI_u8, ecS, enc_api_Had, enc_api_Record, enc_api_Version, enc_log_had, List.map_set, List.map_replicate]) : p := h
theorem fse3 {p : Prop} (h : p := by (simp only [go_sem, simprocAttr] <;> simp [ecB, ecI_i64, ecI_u8, ecS, enc_api_Had, enc_api_Record, enc_api_Version, enc_log_had, List.map_set, List.map_replicate])) : p := h
theorem se4 {p : Prop} (h : p := by simp [ecB, ecI_i64, ecI_u8, ecS, enc_api_Had, enc_api_Record, enc_api_Version, enc_log_done, enc_log_had, List.map_set, List.map_replicate]) : p := h
theorem fse4 {p : Prop} (h : p := by (simp only [go_sem, simprocAttr] <;> simp [ecB, ecI_i64, ecI_u8, ecS, enc_api_Had, enc_api_Record, enc_api_Version, enc_log_done, enc_log_had, List.map_set, List.map_replicate])) : p := h
theorem cM {P : Program} {kl : List Bool} {n : Nat} {B : Bs} {Q : Qt} {E : Env} {H : List Ob} {c : Operand} {x y : Code} {b c' : Bool} {Z : Type} {z : Z} {u v : Option Z} (hm : (bif c' then u else v) = some z) (ht : b = true → u = some z → Wp P kl n B x Q E H) (hf : b = false → v = some z → Wp P kl n B y Q E H) (hc : rnd E c = .p (.b b) := by exact rfl) (hk : rndOk c := by exact ⟨⟩) (h1 : b = true → c' = true := by first | exact fun h => h | (intro h; simpa using h)) (h2 : b = false → c' = false := by first | exact fun h => h | (intro h; simpa using h)) : Wp P kl n B (.cond c x y) Q E H := Wp.cond hc hk (fun h => ht h (brT hm (h1 h))) (fun h => hf h (brF hm (h2 h)))
end Go.Proofs.YthmjpfooffbhhaaGreatDoor
