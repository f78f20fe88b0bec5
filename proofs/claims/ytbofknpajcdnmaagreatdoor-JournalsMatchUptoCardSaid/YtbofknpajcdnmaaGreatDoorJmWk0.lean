/- Facts that the walks use. -/
import Derived.Test.YtbofknpajcdnmaaGreatDoorJmMd
import Derived.Test.YtbofknpajcdnmaaGreatDoorJmTy
import Derived.Test.YtbofknpajcdnmaaGreatDoorSh
set_option linter.unusedSimpArgs false
set_option linter.unusedVariables false
open Go.Proofs Go.Shelf
namespace Go.Proofs.YtbofknpajcdnmaaGreatDoor
open Go.Vc Go.Md
def growRen:Go.Shelf.Ren:=⟨fun | 165=>194 | 240=>222 | 241=>245 | 276=>258 | 277=>274 | n=>n,fun | 0=>0 | 3=>3 | 4=>4 | 5=>5 | 9=>9 | 20=>20 | 37=>75 | 70=>209 | 72=>211 | 164=>277 | n=>n,fun n=>n⟩
theorem growLay:Lays.n165 Tryz.prog growRen:={
  mixed:=by kernel_rfl
  f165:=Tryz.func194.trans (congrArg some (by kernel_rfl))
  f240:=Tryz.func222.trans (congrArg some (by kernel_rfl))
  f241:=Tryz.func245.trans (congrArg some (by kernel_rfl))
  f276:=Tryz.func258.trans (congrArg some (by kernel_rfl))
  f277:=Tryz.func274.trans (congrArg some (by kernel_rfl))
  t0:=Tryz.underlying0
  a0:=Tryz.isAgg0
  z0:=Tryz.sizeOf0
  v0:=Tryz.zeroValue0
  t3:=Tryz.underlying3
  a3:=Tryz.isAgg3
  z3:=Tryz.sizeOf3
  v3:=Tryz.zeroValue3
  t4:=Tryz.underlying4
  a4:=Tryz.isAgg4
  z4:=Tryz.sizeOf4
  v4:=Tryz.zeroValue4
  t9:=Tryz.underlying9
  a9:=Tryz.isAgg9
  z9:=Tryz.sizeOf9
  v9:=Tryz.zeroValue9
  t20:=Tryz.underlying20
  a20:=Tryz.isAgg20
  z20:=Tryz.sizeOf20
  v20:=Tryz.zeroValue20
  t37:=Tryz.underlying75
  a37:=Tryz.isAgg75
  z37:=Tryz.sizeOf75
  v37:=Tryz.zeroValue75
  t70:=Tryz.underlying209
  a70:=Tryz.isAgg209
  z70:=Tryz.sizeOf209
  v70:=Tryz.zeroValue209
  t72:=Tryz.underlying211
  a72:=Tryz.isAgg211
  z72:=Tryz.sizeOf211
  v72:=Tryz.zeroValue211
  t164:=Tryz.underlying277
  a164:=Tryz.isAgg277
  z164:=Tryz.sizeOf277
  v164:=Tryz.zeroValue277 }
theorem growExt:Builder.Extra Tryz.prog growRen:={
  t5:=Tryz.underlying5
  a5:=Tryz.isAgg5
  z5:=Tryz.sizeOf5
  v5:=Tryz.zeroValue5
  sizeBuilder:=by kernel_rfl
  liesBuilder:=by kernel_rfl
  infoByte:=by kernel_rfl
  cellsByte:=by kernel_rfl
  sizeByte:=by kernel_rfl
  neB5:=by decide }
theorem cv_209_277_211_2:cvP Tryz.prog 209 277 211 2=true:=by kernel_rfl
attribute [go_sem] cv_209_277_211_2
theorem cv_277_209_211_2:cvP Tryz.prog 277 209 211 2=true:=by kernel_rfl
attribute [go_sem] cv_277_209_211_2
theorem if_167:ifP Tryz.prog 167=true:=by kernel_rfl
attribute [go_sem] if_167
theorem nvi_258:NvI Tryz.prog 258:=NvI.noEscape Tryz.func258 (by kernel_rfl) (by kernel_rfl) (by kernel_rfl) (by kernel_rfl)
theorem pi_211:(Tryz.prog.info? 211).isSome=true:=by kernel_rfl
attribute [go_sem] pi_211
theorem sb_256_5:sbP Tryz.prog 256 5=true:=by kernel_rfl
attribute [go_sem] sb_256_5
theorem nv_205 (s:List UInt8) (c:List UInt8):Nv Tryz.prog 205 [.p (.s s),.p (.s c)] (.p (.i .i64 (cmpB s c))):=Nv.compare Tryz.func205 (by kernel_rfl) (by kernel_rfl) (by kernel_rfl) (by kernel_rfl) s c
theorem nv_267 (s:List UInt8) (c:Int):Nv Tryz.prog 267 [.p (.s s),.p (.i .u8 c)] (.p (.i .i64 (cntByte s c))):=Nv.countByte Tryz.func267 (by kernel_rfl) (by kernel_rfl) (by kernel_rfl) (by kernel_rfl) s c
theorem nv_321 (s:List UInt8) (c:Int):Nv Tryz.prog 321 [.p (.s s),.p (.i .u8 c)] (.p (.i .i64 (ixByte s c))):=Nv.indexByte Tryz.func321 (by kernel_rfl) (by kernel_rfl) (by kernel_rfl) (by kernel_rfl) s c
theorem sg {p:Prop} (h:p:=by simp only [go_sem,simprocAttr]):p:=h
theorem si {p:Prop} (h:p:=by first | (simp only [go_sem,simprocAttr]; exact Is.mk) | (simp only [go_sem,simprocAttr,List.map_append,ecB,ecI_i64,ecI_u8,ecS,enc_api_Change,enc_api_File,enc_api_Machine,enc_api_Service,enc_api_Setting,enc_outlaw1_Act]; exact Is.mk)):p:=h
theorem qS {P:Program} {kl:List Bool} {n:Nat} {B:Bs} {Q:Qt} {E E':Env} {H H':List Ob} {id:Nat} {l:List Oper} {y:Code} (h:Wp P kl n B y Q E' H') (h1:∀ K:Env→List Ob→Prop,K E' H'→RgEnd P kl n B l.toArray K (run1 P kl n l l ⟨E,H,True⟩):=by (intro K hK; simp only [go_sem,simprocAttr]; first | exact hK | exact ⟨sd,hK⟩)):Wp P kl n B (.seq (.region id l.toArray false) y) Q E H:=Wp.seqR fun K hK=>h1 K (hK _ _ h)
theorem qR {P:Program} {kl:List Bool} {n:Nat} {B:Bs} {Q:Qt} {E E':Env} {H H':List Ob} {id:Nat} {l:List Oper} (h:Q .normal E' H') (h1:∀ K:Env→List Ob→Prop,K E' H'→RgEnd P kl n B l.toArray K (run1 P kl n l l ⟨E,H,True⟩):=by (intro K hK; simp only [go_sem,simprocAttr]; first | exact hK | exact ⟨sd,hK⟩)):Wp P kl n B (.region id l.toArray false) Q E H:=Wp.region fun K hK=>h1 K (hK _ _ h)
theorem sb {p q:Prop} (hp:p) (h:p→q:=by first | exact fun h=>h | (intro h; simpa using h)):q:=h hp
theorem se1 {p:Prop} (h:p:=by simp [ecB,ecI_i64,ecI_u8,ecS,enc_api_Change,enc_api_File,enc_api_Machine,enc_api_Service,enc_api_Setting,enc_outlaw1_Act,List.map_set,List.map_replicate]):p:=h
theorem fse1 {p:Prop} (h:p:=by (simp only [go_sem,simprocAttr] <;> simp [ecB,ecI_i64,ecI_u8,ecS,enc_api_Change,enc_api_File,enc_api_Machine,enc_api_Service,enc_api_Setting,enc_outlaw1_Act,List.map_set,List.map_replicate])):p:=h
theorem se2 {p:Prop} (h:p:=by simp [ecB,ecI_i64,ecI_u8,ecS,enc_api_Change,enc_api_File,enc_api_Journal,enc_api_Machine,enc_api_Service,enc_api_Setting,enc_outlaw1_Act,enc_stage_place,List.map_set,List.map_replicate]):p:=h
theorem fse2 {p:Prop} (h:p:=by (simp only [go_sem,simprocAttr] <;> simp [ecB,ecI_i64,ecI_u8,ecS,enc_api_Change,enc_api_File,enc_api_Journal,enc_api_Machine,enc_api_Service,enc_api_Setting,enc_outlaw1_Act,enc_stage_place,List.map_set,List.map_replicate])):p:=h
theorem se3 {p:Prop} (h:p:=by simp [ecB,ecI_i64,ecI_u8,ecS,enc_api_Change,enc_api_File,enc_api_Journal,enc_api_Machine,enc_api_Service,enc_api_Setting,enc_disk_line,enc_outlaw1_Act,enc_stage_place,List.map_set,List.map_replicate]):p:=h
theorem fse3 {p:Prop} (h:p:=by (simp only [go_sem,simprocAttr] <;> simp [ecB,ecI_i64,ecI_u8,ecS,enc_api_Change,enc_api_File,enc_api_Journal,enc_api_Machine,enc_api_Service,enc_api_Setting,enc_disk_line,enc_outlaw1_Act,enc_stage_place,List.map_set,List.map_replicate])):p:=h
theorem se4 {p:Prop} (h:p:=by simp [ecB,ecI_i64,ecI_u8,ecS,enc_S_word_l,enc_api_Change,enc_api_File,enc_api_Journal,enc_api_Machine,enc_api_Service,enc_api_Setting,enc_disk_line,enc_outlaw1_Act,enc_stage_place,List.map_set,List.map_replicate]):p:=h
theorem fse4 {p:Prop} (h:p:=by (simp only [go_sem,simprocAttr] <;> simp [ecB,ecI_i64,ecI_u8,ecS,enc_S_word_l,enc_api_Change,enc_api_File,enc_api_Journal,enc_api_Machine,enc_api_Service,enc_api_Setting,enc_disk_line,enc_outlaw1_Act,enc_stage_place,List.map_set,List.map_replicate])):p:=h
theorem cM {P:Program} {kl:List Bool} {n:Nat} {B:Bs} {Q:Qt} {E:Env} {H:List Ob} {c:Operand} {x y:Code} {b c':Bool} {Z:Type} {z:Z} {u v:Option Z} (hm:(bif c' then u else v)=some z) (ht:b=true→u=some z→Wp P kl n B x Q E H) (hf:b=false→v=some z→Wp P kl n B y Q E H) (hc:rnd E c=.p (.b b):=by exact rfl) (hk:rndOk c:=by exact ⟨⟩) (h1:b=true→c'=true:=by first | exact fun h=>h | (intro h; simpa using h)) (h2:b=false→c'=false:=by first | exact fun h=>h | (intro h; simpa using h)):Wp P kl n B (.cond c x y) Q E H:=Wp.cond hc hk (fun h=>ht h (brT hm (h1 h))) (fun h=>hf h (brF hm (h2 h)))
end Go.Proofs.YtbofknpajcdnmaaGreatDoor
