/- Facts that the walks use. -/
import Derived.Test.YtbofknpajcdnmaaGreatDoorDmMd
import Derived.Test.YtbofknpajcdnmaaGreatDoorDmTy
import Derived.Test.YtbofknpajcdnmaaGreatDoorSo
set_option linter.unusedSimpArgs false
set_option linter.unusedVariables false
open Go.Proofs Go.Shelf
namespace Go.Proofs.YtbofknpajcdnmaaGreatDoor
open Go.Vc Go.Md
theorem cv_209_277_211_2:cvP Tryz.prog 209 277 211 2=true:=by kernel_rfl
attribute [go_sem] cv_209_277_211_2
theorem cv_277_209_211_2:cvP Tryz.prog 277 209 211 2=true:=by kernel_rfl
attribute [go_sem] cv_277_209_211_2
theorem if_167:ifP Tryz.prog 167=true:=by kernel_rfl
attribute [go_sem] if_167
theorem nvi_258:NvI Tryz.prog 258:=NvI.noEscape Tryz.func258 (by kernel_rfl) (by kernel_rfl) (by kernel_rfl) (by kernel_rfl)
theorem pi_211:(Tryz.prog.info? 211).isSome=true:=by kernel_rfl
attribute [go_sem] pi_211
theorem sb_256_5:sbP Tryz.prog 256 5=true:=by kernel_rfl
attribute [go_sem] sb_256_5
theorem nv_205 (s:List UInt8) (c:List UInt8):Nv Tryz.prog 205 [.p (.s s),.p (.s c)] (.p (.i .i64 (cmpB s c))):=Nv.compare Tryz.func205 (by kernel_rfl) (by kernel_rfl) (by kernel_rfl) (by kernel_rfl) s c
theorem nv_267 (s:List UInt8) (c:Int):Nv Tryz.prog 267 [.p (.s s),.p (.i .u8 c)] (.p (.i .i64 (cntByte s c))):=Nv.countByte Tryz.func267 (by kernel_rfl) (by kernel_rfl) (by kernel_rfl) (by kernel_rfl) s c
theorem nv_321 (s:List UInt8) (c:Int):Nv Tryz.prog 321 [.p (.s s),.p (.i .u8 c)] (.p (.i .i64 (ixByte s c))):=Nv.indexByte Tryz.func321 (by kernel_rfl) (by kernel_rfl) (by kernel_rfl) (by kernel_rfl) s c
theorem sg {p:Prop} (h:p:=by simp only [go_sem,simprocAttr]):p:=h
theorem si {p:Prop} (h:p:=by first | (simp only [go_sem,simprocAttr]; exact Is.mk) | (simp only [go_sem,simprocAttr,List.map_append,ecB,ecI_i64,ecI_u8,ecS,enc_api_Change,enc_api_File,enc_api_Machine,enc_api_Service,enc_api_Setting,enc_outlaw1_Act]; exact Is.mk)):p:=h
theorem qS {P:Program} {kl:List Bool} {n:Nat} {B:Bs} {Q:Qt} {E E':Env} {H H':List Ob} {id:Nat} {l:List Oper} {y:Code} (h:Wp P kl n B y Q E' H') (h1:∀ K:Env→List Ob→Prop,K E' H'→RgEnd P kl n B l.toArray K (run1 P kl n l l ⟨E,H,True⟩):=by (intro K hK; simp only [go_sem,simprocAttr]; first | exact hK | exact ⟨sd,hK⟩)):Wp P kl n B (.seq (.region id l.toArray false) y) Q E H:=Wp.seqR fun K hK=>h1 K (hK _ _ h)
theorem qR {P:Program} {kl:List Bool} {n:Nat} {B:Bs} {Q:Qt} {E E':Env} {H H':List Ob} {id:Nat} {l:List Oper} (h:Q .normal E' H') (h1:∀ K:Env→List Ob→Prop,K E' H'→RgEnd P kl n B l.toArray K (run1 P kl n l l ⟨E,H,True⟩):=by (intro K hK; simp only [go_sem,simprocAttr]; first | exact hK | exact ⟨sd,hK⟩)):Wp P kl n B (.region id l.toArray false) Q E H:=Wp.region fun K hK=>h1 K (hK _ _ h)
theorem sb {p q:Prop} (hp:p) (h:p→q:=by first | exact fun h=>h | (intro h; simpa using h)):q:=h hp
theorem se1 {p:Prop} (h:p:=by simp [ecB,ecI_i64,ecI_u8,ecS,enc_api_Change,enc_api_File,enc_api_Machine,enc_api_Service,enc_api_Setting,enc_outlaw1_Act,List.map_set,List.map_replicate]):p:=h
theorem fse1 {p:Prop} (h:p:=by (simp only [go_sem,simprocAttr] <;> simp [ecB,ecI_i64,ecI_u8,ecS,enc_api_Change,enc_api_File,enc_api_Machine,enc_api_Service,enc_api_Setting,enc_outlaw1_Act,List.map_set,List.map_replicate])):p:=h
theorem cM {P:Program} {kl:List Bool} {n:Nat} {B:Bs} {Q:Qt} {E:Env} {H:List Ob} {c:Operand} {x y:Code} {b c':Bool} {Z:Type} {z:Z} {u v:Option Z} (hm:(bif c' then u else v)=some z) (ht:b=true→u=some z→Wp P kl n B x Q E H) (hf:b=false→v=some z→Wp P kl n B y Q E H) (hc:rnd E c=.p (.b b):=by exact rfl) (hk:rndOk c:=by exact ⟨⟩) (h1:b=true→c'=true:=by first | exact fun h=>h | (intro h; simpa using h)) (h2:b=false→c'=false:=by first | exact fun h=>h | (intro h; simpa using h)):Wp P kl n B (.cond c x y) Q E H:=Wp.cond hc hk (fun h=>ht h (brT hm (h1 h))) (fun h=>hf h (brF hm (h2 h)))
theorem sL {p:Prop} (h:p:=by first | exact sd | ((repeat' apply And.intro) <;> first | assumption | omega | (simp only [List.length_append,List.length_map,List.length_cons,List.length_nil,List.length_set,List.length_replicate] at *; omega))):p:=h
theorem kA {W K:Env→List Ob→Prop} {E:Env} {H:List Ob} {g:Prop} (hK:∀ E H,W E H→K E H) (h:W E H) (e:K E H→g:=by first | exact fun h=>h | exact fun h=>⟨sL,h⟩):g:=e (hK _ _ h)
theorem dW {P:Program} {f:FuncId} {fn:Func} {code:Code} {args:List Va} {X:List Ob} {Post:Va→List Ob→Prop} (m n:Nat) (rs:List ResultVar) (hf:P.funcs[f]?=some fn) (h:∀ B,Wp P (kinds X) n B code (retQ P rs m (kinds X) Post) (envOf 0 args) X) (hb:fn.body=some code:=by rfl) (hnm:(fn.name == "runtime.NumGoroutine")=false:=by decide) (hn:fn.ntmps=n:=by rfl) (hrs:fn.results.toList=rs:=by rfl) (hl:args.length≤n:=by exact Nat.le_of_ble_eq_true rfl):Does P f args X Post:=Does.of_wp m n rs hf hb hnm hn hrs hl h
end Go.Proofs.YtbofknpajcdnmaaGreatDoor
