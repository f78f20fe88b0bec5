/- Facts that the walks use. -/
import Derived.Test.YtaabfmccihcnkaaGreatDoorSuMd
import Derived.Test.YtaabfmccihcnkaaGreatDoorSuTy
import Derived.Test.YtaabfmccihcnkaaGreatDoorSo
set_option linter.unusedSimpArgs false
set_option linter.unusedVariables false
open Go.Proofs Go.Shelf
namespace Go.Proofs.YtaabfmccihcnkaaGreatDoor
open Go.Vc Go.Md
def growRen : Go.Shelf.Ren := ⟨fun | 165 => 230 | 240 => 234 | 241 => 304 | 276 => 305 | 277 => 356 | n => n, fun | 0 => 0 | 3 => 3 | 4 => 4 | 5 => 5 | 9 => 9 | 20 => 20 | 37 => 103 | 70 => 168 | 72 => 170 | 164 => 355 | n => n, fun n => n⟩
theorem growLay : Lays.n165 Tryz.prog growRen := {
  mixed := by kernel_rfl
  f165 := Tryz.func230.trans (congrArg some (by kernel_rfl))
  f240 := Tryz.func234.trans (congrArg some (by kernel_rfl))
  f241 := Tryz.func304.trans (congrArg some (by kernel_rfl))
  f276 := Tryz.func305.trans (congrArg some (by kernel_rfl))
  f277 := Tryz.func356.trans (congrArg some (by kernel_rfl))
  t0 := Tryz.underlying0
  a0 := Tryz.isAgg0
  z0 := Tryz.sizeOf0
  v0 := Tryz.zeroValue0
  t3 := Tryz.underlying3
  a3 := Tryz.isAgg3
  z3 := Tryz.sizeOf3
  v3 := Tryz.zeroValue3
  t4 := Tryz.underlying4
  a4 := Tryz.isAgg4
  z4 := Tryz.sizeOf4
  v4 := Tryz.zeroValue4
  t9 := Tryz.underlying9
  a9 := Tryz.isAgg9
  z9 := Tryz.sizeOf9
  v9 := Tryz.zeroValue9
  t20 := Tryz.underlying20
  a20 := Tryz.isAgg20
  z20 := Tryz.sizeOf20
  v20 := Tryz.zeroValue20
  t37 := Tryz.underlying103
  a37 := Tryz.isAgg103
  z37 := Tryz.sizeOf103
  v37 := Tryz.zeroValue103
  t70 := Tryz.underlying168
  a70 := Tryz.isAgg168
  z70 := Tryz.sizeOf168
  v70 := Tryz.zeroValue168
  t72 := Tryz.underlying170
  a72 := Tryz.isAgg170
  z72 := Tryz.sizeOf170
  v72 := Tryz.zeroValue170
  t164 := Tryz.underlying355
  a164 := Tryz.isAgg355
  z164 := Tryz.sizeOf355
  v164 := Tryz.zeroValue355 }
theorem growExt : Builder.Extra Tryz.prog growRen := {
  t5 := Tryz.underlying5
  a5 := Tryz.isAgg5
  z5 := Tryz.sizeOf5
  v5 := Tryz.zeroValue5
  sizeBuilder := by kernel_rfl
  liesBuilder := by kernel_rfl
  infoByte := by kernel_rfl
  cellsByte := by kernel_rfl
  sizeByte := by kernel_rfl
  neB5 := by decide }
theorem cv_168_355_170_2 : cvP Tryz.prog 168 355 170 2 = true := by kernel_rfl
attribute [go_sem] cv_168_355_170_2
theorem cv_355_168_170_2 : cvP Tryz.prog 355 168 170 2 = true := by kernel_rfl
attribute [go_sem] cv_355_168_170_2
theorem nvi_305 : NvI Tryz.prog 305 := NvI.noEscape Tryz.func305 (by kernel_rfl) (by kernel_rfl) (by kernel_rfl) (by kernel_rfl)
theorem pi_170 : (Tryz.prog.info? 170).isSome = true := by kernel_rfl
attribute [go_sem] pi_170
theorem sb_307_5 : sbP Tryz.prog 307 5 = true := by kernel_rfl
attribute [go_sem] sb_307_5
theorem nv_288 (s : List UInt8) (c : List UInt8) : Nv Tryz.prog 288 [.p (.s s), .p (.s c)] (.p (.i .i64 (cmpB s c))) := Nv.compare Tryz.func288 (by kernel_rfl) (by kernel_rfl) (by kernel_rfl) (by kernel_rfl) s c
theorem nv_367 (s : List UInt8) (c : Int) : Nv Tryz.prog 367 [.p (.s s), .p (.i .u8 c)] (.p (.i .i64 (cntByte s c))) := Nv.countByte Tryz.func367 (by kernel_rfl) (by kernel_rfl) (by kernel_rfl) (by kernel_rfl) s c
theorem nv_407 (s : List UInt8) (c : Int) : Nv Tryz.prog 407 [.p (.s s), .p (.i .u8 c)] (.p (.i .i64 (ixByte s c))) := Nv.indexByte Tryz.func407 (by kernel_rfl) (by kernel_rfl) (by kernel_rfl) (by kernel_rfl) s c
theorem sg {p : Prop} (h : p := by simp only [go_sem, simprocAttr]) : p := h
theorem si {p : Prop} (h : p := by first | (simp only [go_sem, simprocAttr]; exact Is.mk) | (simp only [go_sem, simprocAttr, List.map_append, ecB, ecI_i64, ecI_u8, ecS, enc_api_File, enc_api_Machine, enc_api_Service, enc_api_Setting]; exact Is.mk)) : p := h
theorem qS {P : Program} {kl : List Bool} {n : Nat} {B : Bs} {Q : Qt} {E E' : Env} {H H' : List Ob} {id : Nat} {l : List Oper} {y : Code} (h : Wp P kl n B y Q E' H') (h1 : ∀ K : Env → List Ob → Prop, K E' H' → RgEnd P kl n B l.toArray K (run1 P kl n l l ⟨E, H, True⟩) := by (intro K hK; simp only [go_sem, simprocAttr]; first | exact hK | exact ⟨sd, hK⟩)) : Wp P kl n B (.seq (.region id l.toArray false) y) Q E H := Wp.seqR fun K hK => h1 K (hK _ _ h)
theorem qR {P : Program} {kl : List Bool} {n : Nat} {B : Bs} {Q : Qt} {E E' : Env} {H H' : List Ob} {id : Nat} {l : List Oper} (h : Q .normal E' H') (h1 : ∀ K : Env → List Ob → Prop, K E' H' → RgEnd P kl n B l.toArray K (run1 P kl n l l ⟨E, H, True⟩) := by (intro K hK; simp only [go_sem, simprocAttr]; first | exact hK | exact ⟨sd, hK⟩)) : Wp P kl n B (.region id l.toArray false) Q E H := Wp.region fun K hK => h1 K (hK _ _ h)
theorem sb {p q : Prop} (hp : p) (h : p → q := by first | exact fun h => h | (intro h; simpa using h)) : q := h hp
theorem se1 {p : Prop} (h : p := by simp [ecB, ecI_i64, ecI_u8, ecS, enc_api_File, enc_api_Machine, enc_api_Service, enc_api_Setting, List.map_set, List.map_replicate]) : p := h
theorem fse1 {p : Prop} (h : p := by (simp only [go_sem, simprocAttr] <;> simp [ecB, ecI_i64, ecI_u8, ecS, enc_api_File, enc_api_Machine, enc_api_Service, enc_api_Setting, List.map_set, List.map_replicate])) : p := h
theorem se2 {p : Prop} (h : p := by simp [ecB, ecI_i64, ecI_u8, ecS, enc_api_Change, enc_api_File, enc_api_Machine, enc_api_Service, enc_api_Setting, List.map_set, List.map_replicate]) : p := h
theorem fse2 {p : Prop} (h : p := by (simp only [go_sem, simprocAttr] <;> simp [ecB, ecI_i64, ecI_u8, ecS, enc_api_Change, enc_api_File, enc_api_Machine, enc_api_Service, enc_api_Setting, List.map_set, List.map_replicate])) : p := h
theorem cM {P : Program} {kl : List Bool} {n : Nat} {B : Bs} {Q : Qt} {E : Env} {H : List Ob} {c : Operand} {x y : Code} {b c' : Bool} {Z : Type} {z : Z} {u v : Option Z} (hm : (bif c' then u else v) = some z) (ht : b = true → u = some z → Wp P kl n B x Q E H) (hf : b = false → v = some z → Wp P kl n B y Q E H) (hc : rnd E c = .p (.b b) := by exact rfl) (hk : rndOk c := by exact ⟨⟩) (h1 : b = true → c' = true := by first | exact fun h => h | (intro h; simpa using h)) (h2 : b = false → c' = false := by first | exact fun h => h | (intro h; simpa using h)) : Wp P kl n B (.cond c x y) Q E H := Wp.cond hc hk (fun h => ht h (brT hm (h1 h))) (fun h => hf h (brF hm (h2 h)))
end Go.Proofs.YtaabfmccihcnkaaGreatDoor
