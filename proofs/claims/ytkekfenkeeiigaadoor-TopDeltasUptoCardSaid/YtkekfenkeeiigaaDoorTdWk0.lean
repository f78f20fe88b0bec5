/- Facts that the walks use. -/
import Derived.Test.YtkekfenkeeiigaaDoorTdMd
import Derived.Test.YtkekfenkeeiigaaDoorTdTy
set_option linter.unusedSimpArgs false
set_option linter.unusedVariables false
namespace Go.Proofs.YtkekfenkeeiigaaDoor
open Go.Vc Go.Md
theorem cv_152_79_81_2:cvP Tryd.prog 152 79 81 2=true:=by kernel_rfl
attribute [go_sem] cv_152_79_81_2
theorem cv_79_152_81_2:cvP Tryd.prog 79 152 81 2=true:=by kernel_rfl
attribute [go_sem] cv_79_152_81_2
theorem if_86:ifP Tryd.prog 86=true:=by kernel_rfl
attribute [go_sem] if_86
theorem nvi_115:NvI Tryd.prog 115:=NvI.noEscape Tryd.func115 (by kernel_rfl) (by kernel_rfl) (by kernel_rfl) (by kernel_rfl)
theorem pi_81:(Tryd.prog.info? 81).isSome=true:=by kernel_rfl
attribute [go_sem] pi_81
theorem sb_129_5:sbP Tryd.prog 129 5=true:=by kernel_rfl
attribute [go_sem] sb_129_5
theorem sg {p:Prop} (h:p:=by simp only [go_sem,simprocAttr]):p:=h
theorem si {p:Prop} (h:p:=by first | (simp only [go_sem,simprocAttr]; exact Is.mk) | (simp only [go_sem,simprocAttr,List.map_append,eN_enc_delta_state,ecB,ecI_i64,ecI_u8,ecS,iN_enc_delta_state]; exact Is.mk)):p:=h
theorem qS {P:Program} {kl:List Bool} {n:Nat} {B:Bs} {Q:Qt} {E E':Env} {H H':List Ob} {id:Nat} {l:List Oper} {y:Code} (h:Wp P kl n B y Q E' H') (h1:∀ K:Env→List Ob→Prop,K E' H'→RgEnd P kl n B l.toArray K (run1 P kl n l l ⟨E,H,True⟩):=by (intro K hK; simp only [go_sem,simprocAttr]; first | exact hK | exact ⟨sd,hK⟩)):Wp P kl n B (.seq (.region id l.toArray false) y) Q E H:=Wp.seqR fun K hK=>h1 K (hK _ _ h)
theorem qR {P:Program} {kl:List Bool} {n:Nat} {B:Bs} {Q:Qt} {E E':Env} {H H':List Ob} {id:Nat} {l:List Oper} (h:Q .normal E' H') (h1:∀ K:Env→List Ob→Prop,K E' H'→RgEnd P kl n B l.toArray K (run1 P kl n l l ⟨E,H,True⟩):=by (intro K hK; simp only [go_sem,simprocAttr]; first | exact hK | exact ⟨sd,hK⟩)):Wp P kl n B (.region id l.toArray false) Q E H:=Wp.region fun K hK=>h1 K (hK _ _ h)
theorem sb {p q:Prop} (hp:p) (h:p→q:=by first | exact fun h=>h | (intro h; simpa using h)):q:=h hp
theorem se1 {p:Prop} (h:p:=by simp [eN_enc_delta_state,ecB,ecI_i64,ecI_u8,ecS,iN_enc_delta_state,List.map_set,List.map_replicate]):p:=h
theorem fse1 {p:Prop} (h:p:=by (simp only [go_sem,simprocAttr] <;> simp [eN_enc_delta_state,ecB,ecI_i64,ecI_u8,ecS,iN_enc_delta_state,List.map_set,List.map_replicate])):p:=h
theorem se2 {p:Prop} (h:p:=by simp [eN_enc_delta_state,ecB,ecI_i64,ecI_u8,ecS,enc_delta_edge,enc_delta_state,iN_enc_delta_state,List.map_set,List.map_replicate]):p:=h
theorem fse2 {p:Prop} (h:p:=by (simp only [go_sem,simprocAttr] <;> simp [eN_enc_delta_state,ecB,ecI_i64,ecI_u8,ecS,enc_delta_edge,enc_delta_state,iN_enc_delta_state,List.map_set,List.map_replicate])):p:=h
theorem se3 {p:Prop} (h:p:=by simp [eN_enc_delta_state,ecB,ecI_i64,ecI_u8,ecS,enc_Arr2_Int,enc_api_Delta,enc_api_Piece,enc_delta_edge,enc_delta_state,iN_enc_delta_state,List.map_set,List.map_replicate]):p:=h
theorem fse3 {p:Prop} (h:p:=by (simp only [go_sem,simprocAttr] <;> simp [eN_enc_delta_state,ecB,ecI_i64,ecI_u8,ecS,enc_Arr2_Int,enc_api_Delta,enc_api_Piece,enc_delta_edge,enc_delta_state,iN_enc_delta_state,List.map_set,List.map_replicate])):p:=h
theorem se4 {p:Prop} (h:p:=by simp [eN_enc_delta_state,ecB,ecI_i64,ecI_u8,ecS,enc_Arr2_Int,enc_api_Delta,enc_api_Piece,enc_api_Way,enc_delta_edge,enc_delta_state,iN_enc_delta_state,List.map_set,List.map_replicate]):p:=h
theorem fse4 {p:Prop} (h:p:=by (simp only [go_sem,simprocAttr] <;> simp [eN_enc_delta_state,ecB,ecI_i64,ecI_u8,ecS,enc_Arr2_Int,enc_api_Delta,enc_api_Piece,enc_api_Way,enc_delta_edge,enc_delta_state,iN_enc_delta_state,List.map_set,List.map_replicate])):p:=h
theorem se5 {p:Prop} (h:p:=by simp [eN_enc_delta_state,ecB,ecI_i64,ecI_u8,ecS,enc_Arr2_Int,enc_api_Delta,enc_api_Piece,enc_api_Way,enc_delta_edge,enc_delta_route,enc_delta_state,iN_enc_delta_state,List.map_set,List.map_replicate]):p:=h
theorem fse5 {p:Prop} (h:p:=by (simp only [go_sem,simprocAttr] <;> simp [eN_enc_delta_state,ecB,ecI_i64,ecI_u8,ecS,enc_Arr2_Int,enc_api_Delta,enc_api_Piece,enc_api_Way,enc_delta_edge,enc_delta_route,enc_delta_state,iN_enc_delta_state,List.map_set,List.map_replicate])):p:=h
theorem cM {P:Program} {kl:List Bool} {n:Nat} {B:Bs} {Q:Qt} {E:Env} {H:List Ob} {c:Operand} {x y:Code} {b c':Bool} {Z:Type} {z:Z} {u v:Option Z} (hm:(bif c' then u else v)=some z) (ht:b=true→u=some z→Wp P kl n B x Q E H) (hf:b=false→v=some z→Wp P kl n B y Q E H) (hc:rnd E c=.p (.b b):=by exact rfl) (hk:rndOk c:=by exact ⟨⟩) (h1:b=true→c'=true:=by first | exact fun h=>h | (intro h; simpa using h)) (h2:b=false→c'=false:=by first | exact fun h=>h | (intro h; simpa using h)):Wp P kl n B (.cond c x y) Q E H:=Wp.cond hc hk (fun h=>ht h (brT hm (h1 h))) (fun h=>hf h (brF hm (h2 h)))
end Go.Proofs.YtkekfenkeeiigaaDoor
