/- Facts that the walks use. -/
import Derived.Test.YtkekfenkeeiigaaDcMd
import Derived.Test.YtkekfenkeeiigaaDcTy
set_option linter.unusedSimpArgs false
set_option linter.unusedVariables false
open Go.Proofs Go.Shelf
namespace Go.Proofs.Ytkekfenkeeiigaa
open Go.Vc Go.Md
def growRen:Go.Shelf.Ren:=⟨fun | 165=>40 | 240=>38 | 241=>42 | 276=>41 | 277=>43 | n=>n,fun | 0=>0 | 3=>3 | 4=>4 | 5=>5 | 9=>9 | 20=>20 | 37=>56 | 70=>55 | 72=>58 | 164=>84 | n=>n,fun n=>n⟩
theorem growLay:Lays.n165 Try.prog growRen:={
  mixed:=by kernel_rfl
  f165:=Try.func40.trans (congrArg some (by kernel_rfl))
  f240:=Try.func38.trans (congrArg some (by kernel_rfl))
  f241:=Try.func42.trans (congrArg some (by kernel_rfl))
  f276:=Try.func41.trans (congrArg some (by kernel_rfl))
  f277:=Try.func43.trans (congrArg some (by kernel_rfl))
  t0:=Try.underlying0
  a0:=Try.isAgg0
  z0:=Try.sizeOf0
  v0:=Try.zeroValue0
  t3:=Try.underlying3
  a3:=Try.isAgg3
  z3:=Try.sizeOf3
  v3:=Try.zeroValue3
  t4:=Try.underlying4
  a4:=Try.isAgg4
  z4:=Try.sizeOf4
  v4:=Try.zeroValue4
  t9:=Try.underlying9
  a9:=Try.isAgg9
  z9:=Try.sizeOf9
  v9:=Try.zeroValue9
  t20:=Try.underlying20
  a20:=Try.isAgg20
  z20:=Try.sizeOf20
  v20:=Try.zeroValue20
  t37:=Try.underlying56
  a37:=Try.isAgg56
  z37:=Try.sizeOf56
  v37:=Try.zeroValue56
  t70:=Try.underlying55
  a70:=Try.isAgg55
  z70:=Try.sizeOf55
  v70:=Try.zeroValue55
  t72:=Try.underlying58
  a72:=Try.isAgg58
  z72:=Try.sizeOf58
  v72:=Try.zeroValue58
  t164:=Try.underlying84
  a164:=Try.isAgg84
  z164:=Try.sizeOf84
  v164:=Try.zeroValue84 }
theorem growExt:Builder.Extra Try.prog growRen:={
  t5:=Try.underlying5
  a5:=Try.isAgg5
  z5:=Try.sizeOf5
  v5:=Try.zeroValue5
  sizeBuilder:=by kernel_rfl
  liesBuilder:=by kernel_rfl
  infoByte:=by kernel_rfl
  cellsByte:=by kernel_rfl
  sizeByte:=by kernel_rfl
  neB5:=by decide }
theorem cv_55_84_58_2:cvP Try.prog 55 84 58 2=true:=by kernel_rfl
attribute [go_sem] cv_55_84_58_2
theorem cv_84_55_58_2:cvP Try.prog 84 55 58 2=true:=by kernel_rfl
attribute [go_sem] cv_84_55_58_2
theorem nvi_41:NvI Try.prog 41:=NvI.noEscape Try.func41 (by kernel_rfl) (by kernel_rfl) (by kernel_rfl) (by kernel_rfl)
theorem pi_58:(Try.prog.info? 58).isSome=true:=by kernel_rfl
attribute [go_sem] pi_58
theorem sb_79_5:sbP Try.prog 79 5=true:=by kernel_rfl
attribute [go_sem] sb_79_5
theorem sg {p:Prop} (h:p:=by simp only [go_sem,simprocAttr]):p:=h
theorem si {p:Prop} (h:p:=by first | (simp only [go_sem,simprocAttr]; exact Is.mk) | (simp only [go_sem,simprocAttr,List.map_append,eN_enc_delta_state,ecB,ecI_i64,ecI_u8,ecS,enc_api_Delta,enc_api_Piece,iN_enc_delta_state]; exact Is.mk)):p:=h
theorem qS {P:Program} {kl:List Bool} {n:Nat} {B:Bs} {Q:Qt} {E E':Env} {H H':List Ob} {id:Nat} {l:List Oper} {y:Code} (h:Wp P kl n B y Q E' H') (h1:∀ K:Env→List Ob→Prop,K E' H'→RgEnd P kl n B l.toArray K (run1 P kl n l l ⟨E,H,True⟩):=by (intro K hK; simp only [go_sem,simprocAttr]; first | exact hK | exact ⟨sd,hK⟩)):Wp P kl n B (.seq (.region id l.toArray false) y) Q E H:=Wp.seqR fun K hK=>h1 K (hK _ _ h)
theorem qR {P:Program} {kl:List Bool} {n:Nat} {B:Bs} {Q:Qt} {E E':Env} {H H':List Ob} {id:Nat} {l:List Oper} (h:Q .normal E' H') (h1:∀ K:Env→List Ob→Prop,K E' H'→RgEnd P kl n B l.toArray K (run1 P kl n l l ⟨E,H,True⟩):=by (intro K hK; simp only [go_sem,simprocAttr]; first | exact hK | exact ⟨sd,hK⟩)):Wp P kl n B (.region id l.toArray false) Q E H:=Wp.region fun K hK=>h1 K (hK _ _ h)
theorem sb {p q:Prop} (hp:p) (h:p→q:=by first | exact fun h=>h | (intro h; simpa using h)):q:=h hp
theorem iw1:IntKind.i64.wrap 1=1:=by decide
theorem iw2:IntKind.i64.wrap 2=2:=by decide
theorem iw3:IntKind.i64.wrap 3=3:=by decide
theorem iw4:IntKind.i64.wrap 4=4:=by decide
theorem iw5:IntKind.i64.wrap 5=5:=by decide
theorem iw6:IntKind.i64.wrap 6=6:=by decide
theorem iw7:IntKind.i64.wrap 7=7:=by decide
theorem iw8:IntKind.i64.wrap 8=8:=by decide
theorem iw9:IntKind.i64.wrap 9=9:=by decide
attribute [go_sem] iw1 iw2 iw3 iw4 iw5 iw6 iw7 iw8 iw9
theorem se1 {p:Prop} (h:p:=by simp [eN_enc_delta_state,ecB,ecI_i64,ecI_u8,ecS,enc_api_Delta,enc_api_Piece,iN_enc_delta_state,List.map_set,List.map_replicate]):p:=h
theorem fse1 {p:Prop} (h:p:=by (simp only [go_sem,simprocAttr] <;> simp [eN_enc_delta_state,ecB,ecI_i64,ecI_u8,ecS,enc_api_Delta,enc_api_Piece,iN_enc_delta_state,List.map_set,List.map_replicate])):p:=h
theorem se2 {p:Prop} (h:p:=by simp [eN_enc_delta_state,ecB,ecI_i64,ecI_u8,ecS,enc_api_Delta,enc_api_Piece,enc_delta_edge,enc_delta_state,iN_enc_delta_state,List.map_set,List.map_replicate]):p:=h
theorem fse2 {p:Prop} (h:p:=by (simp only [go_sem,simprocAttr] <;> simp [eN_enc_delta_state,ecB,ecI_i64,ecI_u8,ecS,enc_api_Delta,enc_api_Piece,enc_delta_edge,enc_delta_state,iN_enc_delta_state,List.map_set,List.map_replicate])):p:=h
theorem se3 {p:Prop} (h:p:=by simp [eN_enc_delta_state,ecB,ecI_i64,ecI_u8,ecS,enc_api_Delta,enc_api_Piece,enc_delta_edge,enc_delta_state,enc_outref1_origin,iN_enc_delta_state,List.map_set,List.map_replicate]):p:=h
theorem fse3 {p:Prop} (h:p:=by (simp only [go_sem,simprocAttr] <;> simp [eN_enc_delta_state,ecB,ecI_i64,ecI_u8,ecS,enc_api_Delta,enc_api_Piece,enc_delta_edge,enc_delta_state,enc_outref1_origin,iN_enc_delta_state,List.map_set,List.map_replicate])):p:=h
theorem cM {P:Program} {kl:List Bool} {n:Nat} {B:Bs} {Q:Qt} {E:Env} {H:List Ob} {c:Operand} {x y:Code} {b c':Bool} {Z:Type} {z:Z} {u v:Option Z} (hm:(bif c' then u else v)=some z) (ht:b=true→u=some z→Wp P kl n B x Q E H) (hf:b=false→v=some z→Wp P kl n B y Q E H) (hc:rnd E c=.p (.b b):=by exact rfl) (hk:rndOk c:=by exact ⟨⟩) (h1:b=true→c'=true:=by first | exact fun h=>h | (intro h; simpa using h)) (h2:b=false→c'=false:=by first | exact fun h=>h | (intro h; simpa using h)):Wp P kl n B (.cond c x y) Q E H:=Wp.cond hc hk (fun h=>ht h (brT hm (h1 h))) (fun h=>hf h (brF hm (h2 h)))
end Go.Proofs.Ytkekfenkeeiigaa
