/- That the code does what the models say (part 7). -/
import Derived.Test.YtbofknpajcdnmaaGreatDoorJmWk0
import Derived.Test.YtbofknpajcdnmaaGreatDoorJmWk1
import Derived.Test.YtbofknpajcdnmaaGreatDoorJmWk2
import Derived.Test.YtbofknpajcdnmaaGreatDoorJmWk3
import Derived.Test.YtbofknpajcdnmaaGreatDoorJmWk4
import Derived.Test.YtbofknpajcdnmaaGreatDoorJmWk5
import Derived.Test.YtbofknpajcdnmaaGreatDoorJmWk6
set_option linter.unusedSimpArgs false
set_option linter.unusedVariables false
open Go.Proofs Go.Shelf
namespace Go.Proofs.YtbofknpajcdnmaaGreatDoor
open Go.Vc Go.Md
set_option maxRecDepth 100000
set_option maxHeartbeats 4000000
theorem ok_strings_Builder_WriteByte_i1 (c_1:Int) (o1_2:Str) (z:Str) (hm:strings_Builder_WriteByte_i1 c_1 o1_2=some z):Does Tryz.prog 179 [.ptr 0 0,.p (.i .u8 c_1)] [.cells 211 [.np 0,.buf 1],.sb 5 o1_2] (fun r X=>r=.raw .nilIface∧X=[.cells 211 [.np 0,.buf 1],.sb 5 z]):=by
 unfold strings_Builder_WriteByte_i1 at hm
 refine Does.of_wp 2 17 [.tmp 4] Tryz.func179 rfl (by decide) rfl rfl (Nat.le_of_ble_eq_true rfl) fun B=>?_
 refine qS ?_
 obtain ⟨r_5,hr_5,hm⟩:=call_elim hm
 refine Wp.seqR fun K2 hK2=>?_
 simp only [go_sem,simprocAttr]
 try refine ⟨sd,?_⟩
 refine Rg.callO (av:=?av3) [0,1] (ok_strings_Builder_copyCheck_np o1_2 _ hr_5) si si si sg sg ?cont3
 rintro _ _ ⟨rfl,rfl⟩ hv3
 simp only [go_sem,simprocAttr]
 first | apply hK2 | refine ⟨sd,hK2 _ _ ?_⟩
 obtain ⟨c_6,hm⟩:=chk_elim hm
 refine Wp.seqR fun K4 hK4=>?_
 simp only [go_sem,simprocAttr]
 first | apply hK4 | refine ⟨by first | exact sd | ((repeat' apply And.intro) <;> first | assumption | omega | (simp only [List.length_append,List.length_map,List.length_cons,List.length_nil,List.length_set,List.length_replicate] at c_6 ⊢; omega)),hK4 _ _ ?_⟩
 refine qS ?_
 refine Wp.ret ?_
 refine retQ_ret ?_
 cases hm
 exact fse4
theorem ok_R_PrintChanges (l_1:List api_Change) (z:Str) (hm:R_PrintChanges l_1=some z):Does Tryz.prog 107 [.p (.l (List.map enc_api_Change l_1))] [] (fun r X=>r=.p (.s z)∧X=[]):=by
 unfold R_PrintChanges at hm
 refine Does.of_wp 0 76 [.tmp 2] Tryz.func107 rfl (by decide) rfl rfl (Nat.le_of_ble_eq_true rfl) fun B=>?_
 refine qS ?_
 refine qS ?_
 refine Wp.adoptB 0 5 rfl ?_
 simp only [go_sem,simprocAttr]
 refine Wp.seqW fun K3 hK3 hW3=>?_
 obtain ⟨k_158,hk_158,hm⟩:=jp_elim hm
 have hcut3:∀ s,k_158 s=some z→K3 [(3,.ptr 0 0)] [.cells 211 [.np 0,.buf 1],.sb 5 s]:=by
  intro o1_157 hs
  have hm:=hk_158 _ hs
  clear hs
  try dsimp only at hm
  try dsimp only
  refine hK3 _ _ ?_
  obtain ⟨r_159,hr_159,hm⟩:=call_elim hm
  refine Wp.seqR fun K4 hK4=>?_
  simp only [go_sem,simprocAttr]
  try refine ⟨sd,?_⟩
  refine Rg.callO (av:=?av5) [0,1] (ok_strings_Builder_String_i1 o1_157 _ hr_159) si si si sg sg ?cont5
  rintro _ _ ⟨rfl,rfl⟩ hv5
  simp only [go_sem,simprocAttr]
  first | apply hK4 | refine ⟨sd,hK4 _ _ ?_⟩
  refine Wp.ret ?_
  refine retQ_ret ?_
  cases hm
  exact fse4
 clear hK3 hk_158
 refine qS ?_
 refine Wp.block ?_
 obtain ⟨k_255,hk_255,hm⟩:=forL_cont hm
 refine Wp.fact 7 fun hl_258=>?_
 replace hl_258:l_1.length≤274877906944:=by
  simp only [go_sem,simprocAttr,List.length_map] at hl_258
  omega
 refine Wp.forL (fun i_257 s=>[(3,.ptr 0 0),(7,.p (.l (List.map enc_api_Change l_1))),(8,.p (.i .i64 (l_1.length:Int))),(9,.p (.i .i64 (i_257:Int)))]) (fun i_257 s=>[.cells 211 [.np 0,.buf 1],.sb 5 s]) ?_ hm ?_
 ·
  exact fse4
 clear hm
 intro i_257 o1_208 hii_257 hm
 try dsimp only at hm
 try dsimp only
 refine qS ?_
 refine Wp.seqW fun K8 hK8 hW8=>?_
 refine Wp.cond rfl ⟨⟩ (fun hc8=>?_) (fun hc8=>?_)
 rotate_left
 ·refine Wp.exit ?_
  have hm:=hk_255 _ (forL_end hm (ge_nat (by first | exact hc8 | simpa using hc8)))
  try dsimp only at hm
  refine hW3 _ _ _ _ ?_ (hcut3 o1_208 hm)
  exact fse4
 have hlt8:=lt_nat (by first | exact hc8 | simpa using hc8)
 have hw8:=wrap_succ hlt8 hl_258
 obtain ⟨c_259,nx_256,hxc_259,hyc_259,hnx_256,hm⟩:=forL_step hm hlt8
 replace hxc_259:=hxc_259 enc_api_Change
 refine Wp.skip ?_
 simp only [thenQ]
 refine hK8 _ _ ?_
 refine Wp.seqW fun K9 hK9 hW9=>?_
 refine Wp.block ?_
 refine Wp.seqR fun K10 hK10=>?_
 simp only [go_sem,simprocAttr,hw8,hxc_259]
 first | apply hK10 | refine ⟨sd,hK10 _ _ ?_⟩
 refine Wp.seqW fun K11 hK11 hW11=>?_
 obtain ⟨k_282,hk_282,hm⟩:=jp_elim hm
 have hcut11:∀ s,k_282 s=some z→K11 [(3,.ptr 0 0),(7,.p (.l (List.map enc_api_Change l_1))),(8,.p (.i .i64 (l_1.length:Int))),(9,.p (.i .i64 (i_257:Int)))] [.cells 211 [.np 0,.buf 1],.sb 5 s]:=by
  intro o1_281 hs
  have hm:=hk_282 _ hs
  clear hs
  try dsimp only at hm
  try dsimp only
  refine hK11 _ _ ?_
  obtain ⟨r_283,hr_283,hm⟩:=call_elim hm
  refine Wp.region fun K12 hK12=>?_
  simp only [go_sem,simprocAttr,hw8,hxc_259]
  try refine ⟨sd,?_⟩
  refine Rg.callO (av:=?av13) [0,1] (ok_strings_Builder_WriteByte_i1 10 o1_281 _ hr_283) (by simp only [go_sem,simprocAttr,hw8,hxc_259]; exact Is.mk) (by simp only [go_sem,simprocAttr,hw8,hxc_259]; exact Is.mk) (by simp only [go_sem,simprocAttr,hw8,hxc_259]; exact Is.mk) (by simp only [go_sem,simprocAttr,hw8,hxc_259]) (by simp only [go_sem,simprocAttr,hw8,hxc_259]) ?cont13
  rintro _ _ ⟨rfl,rfl⟩ hv13
  simp only [go_sem,simprocAttr,hw8,hxc_259]
  first | apply hK12 | refine ⟨sd,hK12 _ _ ?_⟩
  refine hK9 _ _ ?_
  refine Wp.region fun K14 hK14=>?_
  simp only [go_sem,simprocAttr,hw8,hxc_259]
  first | apply hK14 | refine ⟨sd,hK14 _ _ ?_⟩
  simp only [thenQ,blockQ,↓reduceIte]
  refine ⟨r_283,hlt8,hnx_256 _ hm,?_⟩
  simp only [go_sem,simprocAttr,hw8,hxc_259]
  try exact se4
 clear hK11 hk_282
 refine Wp.seqR fun K15 hK15=>?_
 simp only [go_sem,simprocAttr,hw8,hxc_259]
 first | apply hK15 | refine ⟨sd,hK15 _ _ ?_⟩
 refine Wp.block ?_
 refine Wp.seqR fun K16 hK16=>?_
 simp only [go_sem,simprocAttr,hw8,hxc_259]
 first | apply hK16 | refine ⟨sd,hK16 _ _ ?_⟩
 refine cM hm (fun hc17 hm=>?_) (fun hc17 hm=>?_)
 ·refine Wp.seqR fun K18 hK18=>?_
  simp only [go_sem,simprocAttr,hw8,hxc_259]
  first | apply hK18 | refine ⟨sd,hK18 _ _ ?_⟩
  refine Wp.seqW fun K19 hK19 hW19=>?_
  obtain ⟨k_285,hk_285,hm⟩:=jp_elim hm
  have hcut19:∀ s,k_285 s=some z→K19 [(3,.ptr 0 0),(5,.ptr 2 0),(6,.p (.s s)),(7,.p (.l (List.map enc_api_Change l_1))),(8,.p (.i .i64 (l_1.length:Int))),(9,.p (.i .i64 (i_257:Int)))] [.cells 211 [.np 0,.buf 1],.sb 5 o1_208,.cells 44 [.p (.i .i64 c_259.Kind),.p (.s c_259.File.Path),.p (.s c_259.File.Data),.p (.b c_259.File.Runs),.p (.s c_259.Setting.Key),.p (.s c_259.Setting.Value),.p (.s c_259.Service.Name),.p (.s c_259.Service.Path),.p (.b c_259.Service.Auto),.p (.b c_259.Service.On)]]:=by
   intro word_284 hs
   have hm:=hk_285 _ hs
   clear hs
   try dsimp only at hm
   try dsimp only
   refine hK19 _ _ ?_
   obtain ⟨c_286,hm⟩:=chk_elim hm
   obtain ⟨c_287,hm⟩:=chk_elim hm
   obtain ⟨r_288,hr_288,hm⟩:=call_elim hm
   obtain ⟨c_289,hm⟩:=chk_elim hm
   obtain ⟨r_290,hr_290,hm⟩:=call_elim hm
   refine Wp.regD (plan:=pl [(0,none),(1,none),(2,none),(3,none),(4,none),(5,none),(6,none),(7,none),(8,none),(9,none),(10,none),(11,some [])]) (by kernel_rfl) rfl (by kernel_rfl) fun K20 hK20=>?_
   simp only [go_sem,simprocAttr,hw8,hxc_259]
   try refine ⟨by first | exact sd | ((repeat' apply And.intro) <;> first | assumption | omega | (simp only [List.length_append,List.length_map,List.length_cons,List.length_nil,List.length_set,List.length_replicate] at c_286 c_287 c_289 ⊢; omega)),?_⟩
   refine Dr.callF (av:=?av21) (g:=true) (o:=?o21) (fun hg=>ok_R_Quote c_259.File.Data _ hr_288) (by simp only [go_sem,simprocAttr,hw8,hxc_259]; exact Is.mk) (by simp only [go_sem,simprocAttr,hw8,hxc_259]; exact Is.mk) (by simp only [go_sem,simprocAttr,hw8,hxc_259]; exact Is.mk) (by simp only [go_sem,simprocAttr,hw8,hxc_259]; exact Is.mk) (by simp only [go_sem,simprocAttr,hw8,hxc_259]) (by simp only [go_sem,simprocAttr,hw8,hxc_259]; exact Is.mk) ?cont21
   simp only [go_sem,simprocAttr,hw8,hxc_259]
   try refine ⟨by first | exact sd | ((repeat' apply And.intro) <;> first | assumption | omega | (simp only [List.length_append,List.length_map,List.length_cons,List.length_nil,List.length_set,List.length_replicate] at c_286 c_287 c_289 ⊢; omega)),?_⟩
   refine Dr.of_br (Br.callS (av:=?av22) (o:=?o22) 1 [0,1] (ok_strings_Builder_WriteString_i1 (((word_284++c_259.File.Path)++([32]:Str))++r_288) o1_208 _ hr_290) (by simp only [go_sem,simprocAttr,hw8,hxc_259]; exact Is.mk) (by simp only [go_sem,simprocAttr,hw8,hxc_259]; exact Is.mk) (by simp only [go_sem,simprocAttr,hw8,hxc_259]; exact Is.mk) (by simp only [go_sem,simprocAttr,hw8,hxc_259]; exact Is.mk) (by simp only [go_sem,simprocAttr,hw8,hxc_259]; first | exact Is.mk | (simp only [List.map_append,List.map_cons,List.map_nil,ecB,ecI_i64,ecI_u8,ecS,enc_api_Change,enc_api_File,enc_api_Machine,enc_api_Service,enc_api_Setting,enc_outlaw1_Act]; exact Is.mk)) (by simp only [go_sem,simprocAttr,hw8,hxc_259]) (by simp only [go_sem,simprocAttr,hw8,hxc_259]) (by simp only [go_sem,simprocAttr,hw8,hxc_259]) (by simp only [go_sem,simprocAttr,hw8,hxc_259]) ?cont22)
   simp only [go_sem,simprocAttr,hw8,hxc_259]
   first | apply hK20 | refine ⟨by first | exact sd | ((repeat' apply And.intro) <;> first | assumption | omega | (simp only [List.length_append,List.length_map,List.length_cons,List.length_nil,List.length_set,List.length_replicate] at c_286 c_287 c_289 ⊢; omega)),hK20 _ _ ?_⟩
   refine hW11 _ _ _ _ ?_ (hcut11 r_290.2 hm)
   simp only [go_sem,simprocAttr,hw8,hxc_259]
   try exact se4
  clear hK19 hk_285
  refine Wp.seqR fun K23 hK23=>?_
  simp only [go_sem,simprocAttr,hw8,hxc_259]
  first | apply hK23 | refine ⟨sd,hK23 _ _ ?_⟩
  refine cM hm (fun hc24 hm=>?_) (fun hc24 hm=>?_)
  ·refine Wp.region fun K25 hK25=>?_
   simp only [go_sem,simprocAttr,hw8,hxc_259]
   first | apply hK25 | refine ⟨sd,hK25 _ _ ?_⟩
   refine hW19 _ _ _ _ ?_ (hcut19 ([112,117,116,114,117,110,32]:Str) hm)
   simp only [go_sem,simprocAttr,hw8,hxc_259]
   try exact se4
  ·refine Wp.skip ?_
   refine hW19 _ _ _ _ ?_ (hcut19 ([112,117,116,32]:Str) hm)
   simp only [go_sem,simprocAttr,hw8,hxc_259]
   try exact se4
 ·refine Wp.seqR fun K26 hK26=>?_
  simp only [go_sem,simprocAttr,hw8,hxc_259]
  first | apply hK26 | refine ⟨sd,hK26 _ _ ?_⟩
  refine cM hm (fun hc27 hm=>?_) (fun hc27 hm=>?_)
  ·obtain ⟨c_291,hm⟩:=chk_elim hm
   obtain ⟨r_292,hr_292,hm⟩:=call_elim hm
   refine Wp.region fun K28 hK28=>?_
   simp only [go_sem,simprocAttr,hw8,hxc_259]
   try refine ⟨by first | exact sd | ((repeat' apply And.intro) <;> first | assumption | omega | (simp only [List.length_append,List.length_map,List.length_cons,List.length_nil,List.length_set,List.length_replicate] at c_291 ⊢; omega)),?_⟩
   refine Rg.callO (av:=?av29) [0,1] (ok_strings_Builder_WriteString_i1 (([114,101,109,111,118,101,32]:Str)++c_259.File.Path) o1_208 _ hr_292) (by simp only [go_sem,simprocAttr,hw8,hxc_259]; exact Is.mk) (by simp only [go_sem,simprocAttr,hw8,hxc_259]; exact Is.mk) (by simp only [go_sem,simprocAttr,hw8,hxc_259]; first | exact Is.mk | (simp only [List.map_append,List.map_cons,List.map_nil,ecB,ecI_i64,ecI_u8,ecS,enc_api_Change,enc_api_File,enc_api_Machine,enc_api_Service,enc_api_Setting,enc_outlaw1_Act]; exact Is.mk)) (by simp only [go_sem,simprocAttr,hw8,hxc_259]) (by simp only [go_sem,simprocAttr,hw8,hxc_259]) ?cont29
   rintro _ _ ⟨rfl,rfl⟩ hv29
   simp only [go_sem,simprocAttr,hw8,hxc_259]
   first | apply hK28 | refine ⟨by first | exact sd | ((repeat' apply And.intro) <;> first | assumption | omega | (simp only [List.length_append,List.length_map,List.length_cons,List.length_nil,List.length_set,List.length_replicate] at c_291 ⊢; omega)),hK28 _ _ ?_⟩
   refine hW11 _ _ _ _ ?_ (hcut11 r_292.2 hm)
   simp only [go_sem,simprocAttr,hw8,hxc_259]
   try exact se4
  ·refine Wp.seqR fun K30 hK30=>?_
   simp only [go_sem,simprocAttr,hw8,hxc_259]
   first | apply hK30 | refine ⟨sd,hK30 _ _ ?_⟩
   refine cM hm (fun hc31 hm=>?_) (fun hc31 hm=>?_)
   ·obtain ⟨c_293,hm⟩:=chk_elim hm
    obtain ⟨c_294,hm⟩:=chk_elim hm
    obtain ⟨r_295,hr_295,hm⟩:=call_elim hm
    obtain ⟨c_296,hm⟩:=chk_elim hm
    obtain ⟨r_297,hr_297,hm⟩:=call_elim hm
    refine Wp.regD (plan:=pl [(0,none),(1,none),(2,none),(3,none),(4,none),(5,none),(6,none),(7,none),(8,none),(9,none),(10,some [])]) (by kernel_rfl) rfl (by kernel_rfl) fun K32 hK32=>?_
    simp only [go_sem,simprocAttr,hw8,hxc_259]
    try refine ⟨by first | exact sd | ((repeat' apply And.intro) <;> first | assumption | omega | (simp only [List.length_append,List.length_map,List.length_cons,List.length_nil,List.length_set,List.length_replicate] at c_293 c_294 c_296 ⊢; omega)),?_⟩
    refine Dr.callF (av:=?av33) (g:=true) (o:=?o33) (fun hg=>ok_R_Quote c_259.Setting.Value _ hr_295) (by simp only [go_sem,simprocAttr,hw8,hxc_259]; exact Is.mk) (by simp only [go_sem,simprocAttr,hw8,hxc_259]; exact Is.mk) (by simp only [go_sem,simprocAttr,hw8,hxc_259]; exact Is.mk) (by simp only [go_sem,simprocAttr,hw8,hxc_259]; exact Is.mk) (by simp only [go_sem,simprocAttr,hw8,hxc_259]) (by simp only [go_sem,simprocAttr,hw8,hxc_259]; exact Is.mk) ?cont33
    simp only [go_sem,simprocAttr,hw8,hxc_259]
    try refine ⟨by first | exact sd | ((repeat' apply And.intro) <;> first | assumption | omega | (simp only [List.length_append,List.length_map,List.length_cons,List.length_nil,List.length_set,List.length_replicate] at c_293 c_294 c_296 ⊢; omega)),?_⟩
    refine Dr.of_br (Br.callS (av:=?av34) (o:=?o34) 1 [0,1] (ok_strings_Builder_WriteString_i1 (((([115,101,116,32]:Str)++c_259.Setting.Key)++([32]:Str))++r_295) o1_208 _ hr_297) (by simp only [go_sem,simprocAttr,hw8,hxc_259]; exact Is.mk) (by simp only [go_sem,simprocAttr,hw8,hxc_259]; exact Is.mk) (by simp only [go_sem,simprocAttr,hw8,hxc_259]; exact Is.mk) (by simp only [go_sem,simprocAttr,hw8,hxc_259]; exact Is.mk) (by simp only [go_sem,simprocAttr,hw8,hxc_259]; first | exact Is.mk | (simp only [List.map_append,List.map_cons,List.map_nil,ecB,ecI_i64,ecI_u8,ecS,enc_api_Change,enc_api_File,enc_api_Machine,enc_api_Service,enc_api_Setting,enc_outlaw1_Act]; exact Is.mk)) (by simp only [go_sem,simprocAttr,hw8,hxc_259]) (by simp only [go_sem,simprocAttr,hw8,hxc_259]) (by simp only [go_sem,simprocAttr,hw8,hxc_259]) (by simp only [go_sem,simprocAttr,hw8,hxc_259]) ?cont34)
    simp only [go_sem,simprocAttr,hw8,hxc_259]
    first | apply hK32 | refine ⟨by first | exact sd | ((repeat' apply And.intro) <;> first | assumption | omega | (simp only [List.length_append,List.length_map,List.length_cons,List.length_nil,List.length_set,List.length_replicate] at c_293 c_294 c_296 ⊢; omega)),hK32 _ _ ?_⟩
    refine hW11 _ _ _ _ ?_ (hcut11 r_297.2 hm)
    simp only [go_sem,simprocAttr,hw8,hxc_259]
    try exact se4
   ·refine Wp.seqR fun K35 hK35=>?_
    simp only [go_sem,simprocAttr,hw8,hxc_259]
    first | apply hK35 | refine ⟨sd,hK35 _ _ ?_⟩
    refine cM hm (fun hc36 hm=>?_) (fun hc36 hm=>?_)
    ·obtain ⟨c_298,hm⟩:=chk_elim hm
     obtain ⟨r_299,hr_299,hm⟩:=call_elim hm
     refine Wp.region fun K37 hK37=>?_
     simp only [go_sem,simprocAttr,hw8,hxc_259]
     try refine ⟨by first | exact sd | ((repeat' apply And.intro) <;> first | assumption | omega | (simp only [List.length_append,List.length_map,List.length_cons,List.length_nil,List.length_set,List.length_replicate] at c_298 ⊢; omega)),?_⟩
     refine Rg.callO (av:=?av38) [0,1] (ok_strings_Builder_WriteString_i1 (([117,110,115,101,116,32]:Str)++c_259.Setting.Key) o1_208 _ hr_299) (by simp only [go_sem,simprocAttr,hw8,hxc_259]; exact Is.mk) (by simp only [go_sem,simprocAttr,hw8,hxc_259]; exact Is.mk) (by simp only [go_sem,simprocAttr,hw8,hxc_259]; first | exact Is.mk | (simp only [List.map_append,List.map_cons,List.map_nil,ecB,ecI_i64,ecI_u8,ecS,enc_api_Change,enc_api_File,enc_api_Machine,enc_api_Service,enc_api_Setting,enc_outlaw1_Act]; exact Is.mk)) (by simp only [go_sem,simprocAttr,hw8,hxc_259]) (by simp only [go_sem,simprocAttr,hw8,hxc_259]) ?cont38
     rintro _ _ ⟨rfl,rfl⟩ hv38
     simp only [go_sem,simprocAttr,hw8,hxc_259]
     first | apply hK37 | refine ⟨by first | exact sd | ((repeat' apply And.intro) <;> first | assumption | omega | (simp only [List.length_append,List.length_map,List.length_cons,List.length_nil,List.length_set,List.length_replicate] at c_298 ⊢; omega)),hK37 _ _ ?_⟩
     refine hW11 _ _ _ _ ?_ (hcut11 r_299.2 hm)
     simp only [go_sem,simprocAttr,hw8,hxc_259]
     try exact se4
    ·refine Wp.seqR fun K39 hK39=>?_
     simp only [go_sem,simprocAttr,hw8,hxc_259]
     first | apply hK39 | refine ⟨sd,hK39 _ _ ?_⟩
     refine cM hm (fun hc40 hm=>?_) (fun hc40 hm=>?_)
     ·obtain ⟨r_300,hr_300,hm⟩:=call_elim hm
      obtain ⟨c_301,hm⟩:=chk_elim hm
      obtain ⟨r_302,hr_302,hm⟩:=call_elim hm
      refine Wp.region fun K41 hK41=>?_
      simp only [go_sem,simprocAttr,hw8,hxc_259]
      try refine ⟨by first | exact sd | ((repeat' apply And.intro) <;> first | assumption | omega | (simp only [List.length_append,List.length_map,List.length_cons,List.length_nil,List.length_set,List.length_replicate] at c_301 ⊢; omega)),?_⟩
      refine Rg.callX (av:=?av42) (g:=true) (fun hg=>ok_R_serviceWords c_259.Service _ hr_300) (by simp only [go_sem,simprocAttr,hw8,hxc_259]; exact Is.mk) (by simp only [go_sem,simprocAttr,hw8,hxc_259]; exact Is.mk) (by simp only [go_sem,simprocAttr,hw8,hxc_259]; exact Is.mk) (by simp only [go_sem,simprocAttr,hw8,hxc_259]) (by simp only [go_sem,simprocAttr,hw8,hxc_259]; exact Is.mk) ?cont42
      intro hv42
      simp only [go_sem,simprocAttr,hw8,hxc_259]
      try refine ⟨by first | exact sd | ((repeat' apply And.intro) <;> first | assumption | omega | (simp only [List.length_append,List.length_map,List.length_cons,List.length_nil,List.length_set,List.length_replicate] at c_301 ⊢; omega)),?_⟩
      refine Rg.callO (av:=?av43) [0,1] (ok_strings_Builder_WriteString_i1 (([115,101,114,118,105,99,101,32]:Str)++r_300) o1_208 _ hr_302) (by simp only [go_sem,simprocAttr,hw8,hxc_259]; exact Is.mk) (by simp only [go_sem,simprocAttr,hw8,hxc_259]; exact Is.mk) (by simp only [go_sem,simprocAttr,hw8,hxc_259]; first | exact Is.mk | (simp only [List.map_append,List.map_cons,List.map_nil,ecB,ecI_i64,ecI_u8,ecS,enc_api_Change,enc_api_File,enc_api_Machine,enc_api_Service,enc_api_Setting,enc_outlaw1_Act]; exact Is.mk)) (by simp only [go_sem,simprocAttr,hw8,hxc_259]) (by simp only [go_sem,simprocAttr,hw8,hxc_259]) ?cont43
      rintro _ _ ⟨rfl,rfl⟩ hv43
      simp only [go_sem,simprocAttr,hw8,hxc_259]
      first | apply hK41 | refine ⟨by first | exact sd | ((repeat' apply And.intro) <;> first | assumption | omega | (simp only [List.length_append,List.length_map,List.length_cons,List.length_nil,List.length_set,List.length_replicate] at c_301 ⊢; omega)),hK41 _ _ ?_⟩
      refine hW11 _ _ _ _ ?_ (hcut11 r_302.2 hm)
      simp only [go_sem,simprocAttr,hw8,hxc_259]
      try exact se4
     ·refine Wp.seqR fun K44 hK44=>?_
      simp only [go_sem,simprocAttr,hw8,hxc_259]
      first | apply hK44 | refine ⟨sd,hK44 _ _ ?_⟩
      refine cM hm (fun hc45 hm=>?_) (fun hc45 hm=>?_)
      ·obtain ⟨c_303,hm⟩:=chk_elim hm
       obtain ⟨r_304,hr_304,hm⟩:=call_elim hm
       refine Wp.region fun K46 hK46=>?_
       simp only [go_sem,simprocAttr,hw8,hxc_259]
       try refine ⟨by first | exact sd | ((repeat' apply And.intro) <;> first | assumption | omega | (simp only [List.length_append,List.length_map,List.length_cons,List.length_nil,List.length_set,List.length_replicate] at c_303 ⊢; omega)),?_⟩
       refine Rg.callO (av:=?av47) [0,1] (ok_strings_Builder_WriteString_i1 (([100,114,111,112,32]:Str)++c_259.Service.Name) o1_208 _ hr_304) (by simp only [go_sem,simprocAttr,hw8,hxc_259]; exact Is.mk) (by simp only [go_sem,simprocAttr,hw8,hxc_259]; exact Is.mk) (by simp only [go_sem,simprocAttr,hw8,hxc_259]; first | exact Is.mk | (simp only [List.map_append,List.map_cons,List.map_nil,ecB,ecI_i64,ecI_u8,ecS,enc_api_Change,enc_api_File,enc_api_Machine,enc_api_Service,enc_api_Setting,enc_outlaw1_Act]; exact Is.mk)) (by simp only [go_sem,simprocAttr,hw8,hxc_259]) (by simp only [go_sem,simprocAttr,hw8,hxc_259]) ?cont47
       rintro _ _ ⟨rfl,rfl⟩ hv47
       simp only [go_sem,simprocAttr,hw8,hxc_259]
       first | apply hK46 | refine ⟨by first | exact sd | ((repeat' apply And.intro) <;> first | assumption | omega | (simp only [List.length_append,List.length_map,List.length_cons,List.length_nil,List.length_set,List.length_replicate] at c_303 ⊢; omega)),hK46 _ _ ?_⟩
       refine hW11 _ _ _ _ ?_ (hcut11 r_304.2 hm)
       simp only [go_sem,simprocAttr,hw8,hxc_259]
       try exact se4
      ·refine Wp.skip ?_
       refine hW11 _ _ _ _ ?_ (hcut11 o1_208 hm)
       simp only [go_sem,simprocAttr,hw8,hxc_259]
       try exact se4
theorem ok_R_PrintJournal (j_1:api_Journal) (z:Str × Int) (hm:R_PrintJournal j_1=some z):Does Tryz.prog 39 [.agg [.p (.s j_1.Id),.p (.l (List.map enc_api_Change j_1.Changes)),.p (.l (List.map enc_api_Change j_1.Old))]] [] (fun r X=>r=.tup [.p (.s z.1),.p (.i .i64 z.2)]∧X=[]):=by
 unfold R_PrintJournal at hm
 refine Does.of_wp 0 56 [.tmp 2,.tmp 3] Tryz.func39 rfl (by decide) rfl rfl (Nat.le_of_ble_eq_true rfl) fun B=>?_
 refine qS ?_
 refine Wp.seqW fun K2 hK2 hW2=>?_
 obtain ⟨r_2,hr_2,hm⟩:=call_elim hm
 refine Wp.seqR fun K3 hK3=>?_
 simp only [go_sem,simprocAttr]
 try refine ⟨sd,?_⟩
 refine Rg.callX (av:=?av4) (g:=true) (fun hg=>ok_R_IsName j_1.Id _ hr_2) si si si sg si ?cont4
 intro hv4
 simp only [go_sem,simprocAttr]
 first | apply hK3 | refine ⟨sd,hK3 _ _ ?_⟩
 refine cM hm (fun hc5 hm=>?_) (fun hc5 hm=>?_)
 ·refine qS ?_
  refine Wp.ret ?_
  refine retQ_ret ?_
  cases hm
  exact fse4
 ·refine Wp.skip ?_
  refine hK2 _ _ ?_
  refine Wp.seqW fun K7 hK7 hW7=>?_
  obtain ⟨r_3,hr_3,hm⟩:=call_elim hm
  obtain ⟨r_4,hr_4,hm⟩:=call_elim hm
  obtain ⟨r_5,hr_5,hm⟩:=call_elim hm
  refine Wp.seqD (plan:=pl [(0,none),(1,none),(2,none),(3,none),(4,none),(5,none),(6,some []),(7,none),(8,none)]) (by kernel_rfl) rfl (by kernel_rfl) fun K8 hK8=>?_
  simp only [go_sem,simprocAttr]
  try refine ⟨sd,?_⟩
  refine Dr.callF (av:=?av9) (g:=true) (o:=?o9) (fun hg=>ok_R_ChangesError j_1.Changes _ hr_3) si si si si sg si ?cont9
  simp only [go_sem,simprocAttr]
  try refine ⟨sd,?_⟩
  refine Dr.callF (av:=?av10) (g:=true) (o:=?o10) (fun hg=>ok_R_ChangesError j_1.Old _ hr_4) si si si si sg si ?cont10
  simp only [go_sem,simprocAttr]
  try refine ⟨sd,?_⟩
  refine Dr.callF (av:=?av11) (g:=true) (o:=?o11) (fun hg=>ok_R_first [r_3,r_4] _ hr_5) si si si si sg si ?cont11
  simp only [go_sem,simprocAttr]
  first | apply hK8 | refine ⟨sd,hK8 _ _ ?_⟩
  refine qS ?_
  refine cM hm (fun hc13 hm=>?_) (fun hc13 hm=>?_)
  ·refine qS ?_
   refine Wp.ret ?_
   refine retQ_ret ?_
   cases hm
   exact fse4
  ·refine Wp.skip ?_
   refine hK7 _ _ ?_
   obtain ⟨c_6,hm⟩:=chk_elim hm
   obtain ⟨c_7,hm⟩:=chk_elim hm
   obtain ⟨r_8,hr_8,hm⟩:=call_elim hm
   obtain ⟨c_9,hm⟩:=chk_elim hm
   obtain ⟨c_10,hm⟩:=chk_elim hm
   obtain ⟨r_11,hr_11,hm⟩:=call_elim hm
   obtain ⟨c_12,hm⟩:=chk_elim hm
   obtain ⟨c_13,hm⟩:=chk_elim hm
   obtain ⟨r_14,hr_14,hm⟩:=call_elim hm
   obtain ⟨c_15,hm⟩:=chk_elim hm
   obtain ⟨c_16,hm⟩:=chk_elim hm
   obtain ⟨r_17,hr_17,hm⟩:=call_elim hm
   obtain ⟨c_18,hm⟩:=chk_elim hm
   refine Wp.seqD (plan:=pl [(0,none),(1,none),(2,none),(3,none),(4,none),(5,none),(6,none),(7,none),(8,none),(9,none),(10,none),(11,none),(12,none),(13,none),(14,none),(15,none),(16,none),(17,none),(18,none),(19,none),(20,none),(21,none),(22,none),(23,none),(24,none),(25,none)]) (by kernel_rfl) rfl (by kernel_rfl) fun K15 hK15=>?_
   simp only [go_sem,simprocAttr]
   try refine ⟨by first | exact sd | ((repeat' apply And.intro) <;> first | assumption | omega | (simp only [List.length_append,List.length_map,List.length_cons,List.length_nil,List.length_set,List.length_replicate] at c_6 c_7 c_9 c_10 c_12 c_13 c_15 c_16 c_18 ⊢; omega)),?_⟩
   refine Dr.callF (av:=?av16) (g:=true) (o:=?o16) (fun hg=>ok_strconv_Itoa (j_1.Changes.length:Int) _ hr_8) si si si si sg si ?cont16
   simp only [go_sem,simprocAttr]
   try refine ⟨by first | exact sd | ((repeat' apply And.intro) <;> first | assumption | omega | (simp only [List.length_append,List.length_map,List.length_cons,List.length_nil,List.length_set,List.length_replicate] at c_6 c_7 c_9 c_10 c_12 c_13 c_15 c_16 c_18 ⊢; omega)),?_⟩
   refine Dr.callF (av:=?av17) (g:=true) (o:=?o17) (fun hg=>ok_R_PrintChanges j_1.Changes _ hr_11) si si si si sg si ?cont17
   simp only [go_sem,simprocAttr]
   try refine ⟨by first | exact sd | ((repeat' apply And.intro) <;> first | assumption | omega | (simp only [List.length_append,List.length_map,List.length_cons,List.length_nil,List.length_set,List.length_replicate] at c_6 c_7 c_9 c_10 c_12 c_13 c_15 c_16 c_18 ⊢; omega)),?_⟩
   refine Dr.callF (av:=?av18) (g:=true) (o:=?o18) (fun hg=>ok_strconv_Itoa (j_1.Old.length:Int) _ hr_14) si si si si sg si ?cont18
   simp only [go_sem,simprocAttr]
   try refine ⟨by first | exact sd | ((repeat' apply And.intro) <;> first | assumption | omega | (simp only [List.length_append,List.length_map,List.length_cons,List.length_nil,List.length_set,List.length_replicate] at c_6 c_7 c_9 c_10 c_12 c_13 c_15 c_16 c_18 ⊢; omega)),?_⟩
   refine Dr.callF (av:=?av19) (g:=true) (o:=?o19) (fun hg=>ok_R_PrintChanges j_1.Old _ hr_17) si si si si sg si ?cont19
   simp only [go_sem,simprocAttr]
   first | apply hK15 | refine ⟨by first | exact sd | ((repeat' apply And.intro) <;> first | assumption | omega | (simp only [List.length_append,List.length_map,List.length_cons,List.length_nil,List.length_set,List.length_replicate] at c_6 c_7 c_9 c_10 c_12 c_13 c_15 c_16 c_18 ⊢; omega)),hK15 _ _ ?_⟩
   obtain ⟨r_19,hr_19,hm⟩:=call_elim hm
   obtain ⟨c_20,hm⟩:=chk_elim hm
   obtain ⟨c_21,hm⟩:=chk_elim hm
   obtain ⟨c_22,hm⟩:=chk_elim hm
   refine Wp.seqR fun K20 hK20=>?_
   simp only [go_sem,simprocAttr]
   try refine ⟨by first | exact sd | ((repeat' apply And.intro) <;> first | assumption | omega | (simp only [List.length_append,List.length_map,List.length_cons,List.length_nil,List.length_set,List.length_replicate] at c_20 c_21 c_22 ⊢; omega)),?_⟩
   refine Rg.callX (av:=?av21) (g:=true) (fun hg=>ok_R_SumOf (((((((((([106,111,117,114,110,97,108,32]:Str)++j_1.Id)++([10,99,104,97,110,103,101,115,32]:Str))++r_8)++([10]:Str))++r_11)++([111,108,100,32]:Str))++r_14)++([10]:Str))++r_17) _ hr_19) si si si sg si ?cont21
   intro hv21
   simp only [go_sem,simprocAttr]
   first | apply hK20 | refine ⟨by first | exact sd | ((repeat' apply And.intro) <;> first | assumption | omega | (simp only [List.length_append,List.length_map,List.length_cons,List.length_nil,List.length_set,List.length_replicate] at c_20 c_21 c_22 ⊢; omega)),hK20 _ _ ?_⟩
   refine Wp.seqW fun K22 hK22 hW22=>?_
   refine qS ?_
   refine cM hm (fun hc24 hm=>?_) (fun hc24 hm=>?_)
   ·refine qS ?_
    refine Wp.ret ?_
    refine retQ_ret ?_
    cases hm
    exact fse4
   ·refine Wp.skip ?_
    refine hK22 _ _ ?_
    refine qS ?_
    refine Wp.ret ?_
    refine retQ_ret ?_
    cases hm
    exact fse4
theorem ok_R_ParseJournal (s_1:Str) (z:api_Journal × Int) (hm:R_ParseJournal s_1=some z):Does Tryz.prog 42 [.p (.s s_1)] [] (fun r X=>r=.tup [.agg [.p (.s z.1.Id),.p (.l (List.map enc_api_Change z.1.Changes)),.p (.l (List.map enc_api_Change z.1.Old))],.p (.i .i64 z.2)]∧X=[]):=by
 unfold R_ParseJournal at hm
 refine Does.of_wp 0 130 [.cell 2 69,.tmp 3] Tryz.func42 rfl (by decide) rfl rfl (Nat.le_of_ble_eq_true rfl) fun B=>?_
 refine qS ?_
 refine qS ?_
 obtain ⟨r_2,hr_2,hm⟩:=call_elim hm
 refine Wp.seqR fun K3 hK3=>?_
 simp only [go_sem,simprocAttr]
 try refine ⟨sd,?_⟩
 refine Rg.callF (av:=?av4) (ok_R_cutLines s_1 _ hr_2) si si sg ?cont4
 intro hv4
 simp only [go_sem,simprocAttr]
 first | apply hK3 | refine ⟨sd,hK3 _ _ ?_⟩
 refine Wp.seqW fun K5 hK5 hW5=>?_
 refine qS ?_
 refine cM hm (fun hc7 hm=>?_) (fun hc7 hm=>?_)
 ·obtain ⟨r_3,hr_3,hm⟩:=call_elim hm
  refine Wp.seqR fun K8 hK8=>?_
  simp only [go_sem,simprocAttr]
  try refine ⟨sd,?_⟩
  refine Rg.callF (av:=?av9) (ok_R_ParseJournal_1 8 _ hr_3) si si sg ?cont9
  intro hv9
  simp only [go_sem,simprocAttr]
  first | apply hK8 | refine ⟨sd,hK8 _ _ ?_⟩
  refine Wp.ret ?_
  refine retQ_ret ?_
  cases hm
  exact fse4
 ·refine Wp.skip ?_
  refine hK5 _ _ ?_
  refine qS ?_
  obtain ⟨s_4,hbs_4,hxs_4,hys_4,hm⟩:=idx_elim hm
  replace hxs_4:∀ d,(List.map ecS r_2.1).getD 0 d=ecS s_4:=hxs_4 ecS
  obtain ⟨r_5,hr_5,hm⟩:=call_elim hm
  refine Wp.seqR fun K11 hK11=>?_
  simp only [go_sem,simprocAttr,hxs_4]
  try refine ⟨sd,?_⟩
  refine Rg.callX (av:=?av12) (g:=true) (fun hg=>ok_strings_CutPrefix s_4 ([106,111,117,114,110,97,108,32]:Str) _ hr_5) (by simp only [go_sem,simprocAttr,hxs_4]; exact Is.mk) (by simp only [go_sem,simprocAttr,hxs_4]; exact Is.mk) (by simp only [go_sem,simprocAttr,hxs_4]; exact Is.mk) (by simp only [go_sem,simprocAttr,hxs_4]) (by simp only [go_sem,simprocAttr,hxs_4]; exact Is.mk) ?cont12
  intro hv12
  simp only [go_sem,simprocAttr,hxs_4]
  first | apply hK11 | refine ⟨sd,hK11 _ _ ?_⟩
  refine Wp.seqW fun K13 hK13 hW13=>?_
  refine Wp.seqR fun K14 hK14=>?_
  simp only [go_sem,simprocAttr,hxs_4]
  first | apply hK14 | refine ⟨sd,hK14 _ _ ?_⟩
  refine cM hm (fun hc15 hm=>?_) (fun hc15 hm=>?_)
  ·obtain ⟨r_6,hr_6,hm⟩:=call_elim hm
   refine Wp.seqR fun K16 hK16=>?_
   simp only [go_sem,simprocAttr,hxs_4]
   try refine ⟨sd,?_⟩
   refine Rg.callF (av:=?av17) (ok_R_ParseJournal_1 8 _ hr_6) (by simp only [go_sem,simprocAttr,hxs_4]; exact Is.mk) (by simp only [go_sem,simprocAttr,hxs_4]; exact Is.mk) (by simp only [go_sem,simprocAttr,hxs_4]) ?cont17
   intro hv17
   simp only [go_sem,simprocAttr,hxs_4]
   first | apply hK16 | refine ⟨sd,hK16 _ _ ?_⟩
   refine Wp.ret ?_
   refine retQ_ret ?_
   cases hm
   simp only [go_sem,simprocAttr,hxs_4]
   try exact se4
  ·refine Wp.skip ?_
   refine hK13 _ _ ?_
   refine Wp.seqR fun K18 hK18=>?_
   simp only [go_sem,simprocAttr,hxs_4]
   first | apply hK18 | refine ⟨sd,hK18 _ _ ?_⟩
   refine Wp.seqR fun K19 hK19=>?_
   simp only [go_sem,simprocAttr,hxs_4]
   first | apply hK19 | refine ⟨sd,hK19 _ _ ?_⟩
   refine Wp.seqR fun K20 hK20=>?_
   simp only [go_sem,simprocAttr,hxs_4]
   first | apply hK20 | refine ⟨sd,hK20 _ _ ?_⟩
   refine Wp.seqR fun K21 hK21=>?_
   simp only [go_sem,simprocAttr,hxs_4]
   first | apply hK21 | refine ⟨sd,hK21 _ _ ?_⟩
   obtain ⟨r_7,hr_7,hm⟩:=call_elim hm
   refine Wp.seqR fun K22 hK22=>?_
   simp only [go_sem,simprocAttr,hxs_4]
   try refine ⟨sd,?_⟩
   refine Rg.callO (av:=?av23) [3,1] (ok_R_ParseJournal_2_i1 ([99,104,97,110,103,101,115]:Str) 1 r_2.1 _ hr_7) (by simp only [go_sem,simprocAttr,hxs_4]; exact Is.mk) (by simp only [go_sem,simprocAttr,hxs_4]; exact Is.mk) (by simp only [go_sem,simprocAttr,hxs_4]; exact Is.mk) (by simp only [go_sem,simprocAttr,hxs_4]) (by simp only [go_sem,simprocAttr,hxs_4]) ?cont23
   rintro _ _ ⟨rfl,rfl⟩ hv23
   simp only [go_sem,simprocAttr,hxs_4]
   first | apply hK22 | refine ⟨sd,hK22 _ _ ?_⟩
   refine Wp.seqW fun K24 hK24 hW24=>?_
   obtain ⟨k_12,hk_12,hm⟩:=jp_elim hm
   have hcut24:∀ s,k_12 s=some z→K24 [(0,.p (.s s_1)),(2,.ptr 0 0),(4,.fn 113 []),(5,.ptr 1 0),(7,.ptr 2 0),(10,.ptr 3 0),(12,.p (.b r_7.2.1)),(13,.p (.b s.1))] [.cells 69 [.p (.s []),.nils,.nils],.cells 155 [.p (.l (List.map ecS r_2.1))],.cells 69 [.p (.s r_5.1),.p (.l (List.map enc_api_Change r_7.1)),.p (.l (List.map enc_api_Change s.2.1))],.cells 3 [.p (.i .i64 s.2.2)]]:=by
    intro s hs
    have hm:=hk_12 _ hs
    clear hs
    obtain ⟨b_9,o2_2_10,o3_0_11⟩:=s
    try dsimp only at hm
    try dsimp only
    refine hK24 _ _ ?_
    refine Wp.seqW fun K25 hK25 hW25=>?_
    refine Wp.seqR fun K26 hK26=>?_
    simp only [go_sem,simprocAttr,hxs_4]
    first | apply hK26 | refine ⟨sd,hK26 _ _ ?_⟩
    refine cM hm (fun hc27 hm=>?_) (fun hc27 hm=>?_)
    ·obtain ⟨r_13,hr_13,hm⟩:=call_elim hm
     refine Wp.seqR fun K28 hK28=>?_
     simp only [go_sem,simprocAttr,hxs_4]
     try refine ⟨sd,?_⟩
     refine Rg.callF (av:=?av29) (ok_R_ParseJournal_1 8 _ hr_13) (by simp only [go_sem,simprocAttr,hxs_4]; exact Is.mk) (by simp only [go_sem,simprocAttr,hxs_4]; exact Is.mk) (by simp only [go_sem,simprocAttr,hxs_4]) ?cont29
     intro hv29
     simp only [go_sem,simprocAttr,hxs_4]
     first | apply hK28 | refine ⟨sd,hK28 _ _ ?_⟩
     refine Wp.ret ?_
     refine retQ_ret ?_
     cases hm
     simp only [go_sem,simprocAttr,hxs_4]
     try exact se4
    ·refine Wp.skip ?_
     refine hK25 _ _ ?_
     obtain ⟨s_14,hbs_14,hxs_14,hys_14,hm⟩:=idx_elim hm
     replace hxs_14:∀ d,(List.map ecS r_2.1).getD o3_0_11.toNat d=ecS s_14:=hxs_14 ecS
     obtain ⟨r_15,hr_15,hm⟩:=call_elim hm
     refine Wp.seqR fun K30 hK30=>?_
     simp only [go_sem,simprocAttr,hxs_4,hxs_14]
     try refine ⟨sd,?_⟩
     refine Rg.callX (av:=?av31) (g:=true) (fun hg=>ok_strings_CutPrefix s_14 ([115,117,109,32]:Str) _ hr_15) (by simp only [go_sem,simprocAttr,hxs_4,hxs_14]; exact Is.mk) (by simp only [go_sem,simprocAttr,hxs_4,hxs_14]; exact Is.mk) (by simp only [go_sem,simprocAttr,hxs_4,hxs_14]; exact Is.mk) (by simp only [go_sem,simprocAttr,hxs_4,hxs_14]) (by simp only [go_sem,simprocAttr,hxs_4,hxs_14]; exact Is.mk) ?cont31
     intro hv31
     simp only [go_sem,simprocAttr,hxs_4,hxs_14]
     first | apply hK30 | refine ⟨sd,hK30 _ _ ?_⟩
     refine Wp.seqW fun K32 hK32 hW32=>?_
     obtain ⟨r_16,hr_16,hm⟩:=callG_elim hm
     refine Wp.seqR fun K33 hK33=>?_
     simp only [go_sem,simprocAttr,hxs_4,hxs_14]
     try refine ⟨sd,?_⟩
     refine Rg.callX (av:=?av34) (g:=!(!r_15.2)) (fun hg=>ok_R_IsSum r_15.1 _ (hr_16 hg)) (by simp only [go_sem,simprocAttr,hxs_4,hxs_14]; exact Is.mk) (by simp only [go_sem,simprocAttr,hxs_4,hxs_14]; exact Is.mk) (by simp only [go_sem,simprocAttr,hxs_4,hxs_14]; exact Is.mk) (by simp only [go_sem,simprocAttr,hxs_4,hxs_14]) (by simp only [go_sem,simprocAttr,hxs_4,hxs_14]; exact Is.mk) ?cont34
     intro hv34
     simp only [go_sem,simprocAttr,hxs_4,hxs_14]
     first | apply hK33 | refine ⟨sd,hK33 _ _ ?_⟩
     refine cM hm (fun hc35 hm=>?_) (fun hc35 hm=>?_)
     ·obtain ⟨r_17,hr_17,hm⟩:=call_elim hm
      refine Wp.seqR fun K36 hK36=>?_
      simp only [go_sem,simprocAttr,hxs_4,hxs_14]
      try refine ⟨sd,?_⟩
      refine Rg.callF (av:=?av37) (ok_R_ParseJournal_1 8 _ hr_17) (by simp only [go_sem,simprocAttr,hxs_4,hxs_14]; exact Is.mk) (by simp only [go_sem,simprocAttr,hxs_4,hxs_14]; exact Is.mk) (by simp only [go_sem,simprocAttr,hxs_4,hxs_14]) ?cont37
      intro hv37
      simp only [go_sem,simprocAttr,hxs_4,hxs_14]
      first | apply hK36 | refine ⟨sd,hK36 _ _ ?_⟩
      refine Wp.ret ?_
      refine retQ_ret ?_
      cases hm
      simp only [go_sem,simprocAttr,hxs_4,hxs_14]
      try exact se4
     ·refine Wp.skip ?_
      refine hK32 _ _ ?_
      refine Wp.seqW fun K38 hK38 hW38=>?_
      obtain ⟨c_18,hm⟩:=chk_elim hm
      obtain ⟨r_19,hr_19,hm⟩:=call_elim hm
      obtain ⟨c_20,hm⟩:=chk_elim hm
      obtain ⟨r_21,hr_21,hm⟩:=call_elim hm
      refine Wp.seqR fun K39 hK39=>?_
      simp only [go_sem,simprocAttr,hxs_4,hxs_14]
      try refine ⟨by first | exact sd | ((repeat' apply And.intro) <;> first | assumption | omega | (simp only [List.length_append,List.length_map,List.length_cons,List.length_nil,List.length_set,List.length_replicate] at c_18 c_20 ⊢; omega)),?_⟩
      refine Rg.callX (av:=?av40) (g:=true) (fun hg=>ok_strings_Join (List.take o3_0_11.toNat r_2.1) ([10]:Str) _ hr_19) (by simp only [go_sem,simprocAttr,hxs_4,hxs_14]; exact Is.mk) (by simp only [go_sem,simprocAttr,hxs_4,hxs_14]; exact Is.mk) (by simp only [go_sem,simprocAttr,hxs_4,hxs_14]; exact Is.mk) (by simp only [go_sem,simprocAttr,hxs_4,hxs_14]) (by simp only [go_sem,simprocAttr,hxs_4,hxs_14]; exact Is.mk) ?cont40
      intro hv40
      simp only [go_sem,simprocAttr,hxs_4,hxs_14]
      try refine ⟨by first | exact sd | ((repeat' apply And.intro) <;> first | assumption | omega | (simp only [List.length_append,List.length_map,List.length_cons,List.length_nil,List.length_set,List.length_replicate] at c_18 c_20 ⊢; omega)),?_⟩
      refine Rg.callX (av:=?av41) (g:=true) (fun hg=>ok_R_SumOf (r_19++([10]:Str)) _ hr_21) (by simp only [go_sem,simprocAttr,hxs_4,hxs_14]; exact Is.mk) (by simp only [go_sem,simprocAttr,hxs_4,hxs_14]; exact Is.mk) (by simp only [go_sem,simprocAttr,hxs_4,hxs_14]; exact Is.mk) (by simp only [go_sem,simprocAttr,hxs_4,hxs_14]) (by simp only [go_sem,simprocAttr,hxs_4,hxs_14]; exact Is.mk) ?cont41
      intro hv41
      simp only [go_sem,simprocAttr,hxs_4,hxs_14]
      first | apply hK39 | refine ⟨by first | exact sd | ((repeat' apply And.intro) <;> first | assumption | omega | (simp only [List.length_append,List.length_map,List.length_cons,List.length_nil,List.length_set,List.length_replicate] at c_18 c_20 ⊢; omega)),hK39 _ _ ?_⟩
      refine cM hm (fun hc42 hm=>?_) (fun hc42 hm=>?_)
      ·obtain ⟨r_22,hr_22,hm⟩:=call_elim hm
       refine Wp.seqR fun K43 hK43=>?_
       simp only [go_sem,simprocAttr,hxs_4,hxs_14]
       try refine ⟨sd,?_⟩
       refine Rg.callF (av:=?av44) (ok_R_ParseJournal_1 14 _ hr_22) (by simp only [go_sem,simprocAttr,hxs_4,hxs_14]; exact Is.mk) (by simp only [go_sem,simprocAttr,hxs_4,hxs_14]; exact Is.mk) (by simp only [go_sem,simprocAttr,hxs_4,hxs_14]) ?cont44
       intro hv44
       simp only [go_sem,simprocAttr,hxs_4,hxs_14]
       first | apply hK43 | refine ⟨sd,hK43 _ _ ?_⟩
       refine Wp.ret ?_
       refine retQ_ret ?_
       cases hm
       simp only [go_sem,simprocAttr,hxs_4,hxs_14]
       try exact se4
      ·refine Wp.skip ?_
       refine hK38 _ _ ?_
       obtain ⟨r_23,hr_23,hm⟩:=call_elim hm
       refine Wp.seqR fun K45 hK45=>?_
       simp only [go_sem,simprocAttr,hxs_4,hxs_14]
       try refine ⟨sd,?_⟩
       refine Rg.callX (av:=?av46) (g:=true) (fun hg=>ok_R_PrintJournal (api_Journal.mk r_5.1 r_7.1 o2_2_10) _ hr_23) (by simp only [go_sem,simprocAttr,hxs_4,hxs_14]; exact Is.mk) (by simp only [go_sem,simprocAttr,hxs_4,hxs_14]; exact Is.mk) (by simp only [go_sem,simprocAttr,hxs_4,hxs_14]; exact Is.mk) (by simp only [go_sem,simprocAttr,hxs_4,hxs_14]) (by simp only [go_sem,simprocAttr,hxs_4,hxs_14]; exact Is.mk) ?cont46
       intro hv46
       simp only [go_sem,simprocAttr,hxs_4,hxs_14]
       first | apply hK45 | refine ⟨sd,hK45 _ _ ?_⟩
       refine Wp.seqW fun K47 hK47 hW47=>?_
       refine Wp.seqR fun K48 hK48=>?_
       simp only [go_sem,simprocAttr,hxs_4,hxs_14]
       first | apply hK48 | refine ⟨sd,hK48 _ _ ?_⟩
       refine cM hm (fun hc49 hm=>?_) (fun hc49 hm=>?_)
       ·obtain ⟨r_24,hr_24,hm⟩:=call_elim hm
        refine Wp.seqR fun K50 hK50=>?_
        simp only [go_sem,simprocAttr,hxs_4,hxs_14]
        try refine ⟨sd,?_⟩
        refine Rg.callF (av:=?av51) (ok_R_ParseJournal_1 r_23.2 _ hr_24) (by simp only [go_sem,simprocAttr,hxs_4,hxs_14]; exact Is.mk) (by simp only [go_sem,simprocAttr,hxs_4,hxs_14]; exact Is.mk) (by simp only [go_sem,simprocAttr,hxs_4,hxs_14]) ?cont51
        intro hv51
        simp only [go_sem,simprocAttr,hxs_4,hxs_14]
        first | apply hK50 | refine ⟨sd,hK50 _ _ ?_⟩
        refine Wp.ret ?_
        refine retQ_ret ?_
        cases hm
        simp only [go_sem,simprocAttr,hxs_4,hxs_14]
        try exact se4
       ·refine Wp.skip ?_
        refine hK47 _ _ ?_
        refine Wp.seqW fun K52 hK52 hW52=>?_
        refine Wp.seqR fun K53 hK53=>?_
        simp only [go_sem,simprocAttr,hxs_4,hxs_14]
        first | apply hK53 | refine ⟨sd,hK53 _ _ ?_⟩
        refine cM hm (fun hc54 hm=>?_) (fun hc54 hm=>?_)
        ·obtain ⟨r_25,hr_25,hm⟩:=call_elim hm
         refine Wp.seqR fun K55 hK55=>?_
         simp only [go_sem,simprocAttr,hxs_4,hxs_14]
         try refine ⟨sd,?_⟩
         refine Rg.callF (av:=?av56) (ok_R_ParseJournal_1 8 _ hr_25) (by simp only [go_sem,simprocAttr,hxs_4,hxs_14]; exact Is.mk) (by simp only [go_sem,simprocAttr,hxs_4,hxs_14]; exact Is.mk) (by simp only [go_sem,simprocAttr,hxs_4,hxs_14]) ?cont56
         intro hv56
         simp only [go_sem,simprocAttr,hxs_4,hxs_14]
         first | apply hK55 | refine ⟨sd,hK55 _ _ ?_⟩
         refine Wp.ret ?_
         refine retQ_ret ?_
         cases hm
         simp only [go_sem,simprocAttr,hxs_4,hxs_14]
         try exact se4
        ·refine Wp.skip ?_
         refine hK52 _ _ ?_
         refine Wp.seqR fun K57 hK57=>?_
         simp only [go_sem,simprocAttr,hxs_4,hxs_14]
         first | apply hK57 | refine ⟨sd,hK57 _ _ ?_⟩
         refine Wp.ret ?_
         refine retQ_ret ?_
         cases hm
         simp only [go_sem,simprocAttr,hxs_4,hxs_14]
         try exact se4
   clear hK24 hk_12
   refine Wp.seqR fun K58 hK58=>?_
   simp only [go_sem,simprocAttr,hxs_4]
   first | apply hK58 | refine ⟨sd,hK58 _ _ ?_⟩
   refine cM hm (fun hc59 hm=>?_) (fun hc59 hm=>?_)
   ·obtain ⟨r_26,hr_26,hm⟩:=call_elim hm
    refine Wp.region fun K60 hK60=>?_
    simp only [go_sem,simprocAttr,hxs_4]
    try refine ⟨sd,?_⟩
    refine Rg.callO (av:=?av61) [3,1] (ok_R_ParseJournal_2_i1 ([111,108,100]:Str) r_7.2.2 r_2.1 _ hr_26) (by simp only [go_sem,simprocAttr,hxs_4]; exact Is.mk) (by simp only [go_sem,simprocAttr,hxs_4]; exact Is.mk) (by simp only [go_sem,simprocAttr,hxs_4]; exact Is.mk) (by simp only [go_sem,simprocAttr,hxs_4]) (by simp only [go_sem,simprocAttr,hxs_4]) ?cont61
    rintro _ _ ⟨rfl,rfl⟩ hv61
    simp only [go_sem,simprocAttr,hxs_4]
    first | apply hK60 | refine ⟨sd,hK60 _ _ ?_⟩
    refine hW24 _ _ _ _ ?_ (hcut24 (r_26.2.1,r_26.1,r_26.2.2) hm)
    simp only [go_sem,simprocAttr,hxs_4]
    try exact se4
   ·refine Wp.skip ?_
    refine hW24 _ _ _ _ ?_ (hcut24 (false,[],r_7.2.2) hm)
    simp only [go_sem,simprocAttr,hxs_4]
    try exact se4
theorem ok_slices_Equal_api_Change_api_Change (s1_1:List api_Change) (s2_2:List api_Change) (z:Bool) (hm:slices_Equal_api_Change_api_Change s1_1 s2_2=some z):Does Tryz.prog 37 [.p (.l (List.map enc_api_Change s1_1)),.p (.l (List.map enc_api_Change s2_2))] [] (fun r X=>r=.p (.b z)∧X=[]):=by
 unfold slices_Equal_api_Change_api_Change at hm
 refine Does.of_wp 0 26 [.tmp 4] Tryz.func37 rfl (by decide) rfl rfl (Nat.le_of_ble_eq_true rfl) fun B=>?_
 refine qS ?_
 refine Wp.seqW fun K2 hK2 hW2=>?_
 refine qS ?_
 refine cM hm (fun hc4 hm=>?_) (fun hc4 hm=>?_)
 ·refine qS ?_
  refine Wp.ret ?_
  refine retQ_ret ?_
  cases hm
  exact fse4
 ·refine Wp.skip ?_
  refine hK2 _ _ ?_
  refine Wp.seqW fun K6 hK6 hW6=>?_
  obtain ⟨k_12,hk_12,hm⟩:=jp_elim hm
  have hcut6:∀ s,k_12 s=some z→K6 [] []:=by
   intro s hs
   have hm:=hk_12 _ hs
   clear hs
   try dsimp only at hm
   try dsimp only
   refine hK6 _ _ ?_
   refine qS ?_
   refine Wp.ret ?_
   refine retQ_ret ?_
   cases hm
   exact fse4
  clear hK6 hk_12
  refine qS ?_
  refine Wp.block ?_
  obtain ⟨k_16,hk_16,hm⟩:=forL_cont hm
  refine Wp.fact 0 fun hl_19=>?_
  replace hl_19:s1_1.length≤274877906944:=by
   simp only [go_sem,simprocAttr,List.length_map] at hl_19
   omega
  refine Wp.forL (fun i_18 s=>[(0,.p (.l (List.map enc_api_Change s1_1))),(1,.p (.l (List.map enc_api_Change s2_2))),(12,.p (.i .i64 (s1_1.length:Int))),(13,.p (.i .i64 (i_18:Int)))]) (fun i_18 s=>[]) ?_ hm ?_
  ·
   exact fse4
  clear hm
  intro i_18 s hii_18 hm
  try dsimp only at hm
  try dsimp only
  refine qS ?_
  refine Wp.seqW fun K10 hK10 hW10=>?_
  refine Wp.cond rfl ⟨⟩ (fun hc10=>?_) (fun hc10=>?_)
  rotate_left
  ·refine Wp.exit ?_
   have hm:=hk_16 _ (forL_end hm (ge_nat (by first | exact hc10 | simpa using hc10)))
   try dsimp only at hm
   refine hW6 _ _ _ _ ?_ (hcut6 () hm)
   exact fse4
  have hlt10:=lt_nat (by first | exact hc10 | simpa using hc10)
  have hw10:=wrap_succ hlt10 hl_19
  obtain ⟨c_20,nx_17,hxc_20,hyc_20,hnx_17,hm⟩:=forL_step hm hlt10
  replace hxc_20:=hxc_20 enc_api_Change
  refine Wp.skip ?_
  simp only [thenQ]
  refine hK10 _ _ ?_
  refine Wp.seqW fun K11 hK11 hW11=>?_
  refine Wp.block ?_
  refine Wp.seqR fun K12 hK12=>?_
  simp only [go_sem,simprocAttr,hw10,hxc_20]
  first | apply hK12 | refine ⟨sd,hK12 _ _ ?_⟩
  obtain ⟨c_21,hbc_21,hxc_21,hyc_21,hm⟩:=idx_elim hm
  replace hxc_21:∀ d,(List.map enc_api_Change s2_2).getD i_18 d=enc_api_Change c_21:=hxc_21 enc_api_Change
  refine Wp.seqD (plan:=pl [(0,none),(1,none),(2,none),(3,none),(4,none),(5,none),(6,none),(7,none),(8,none)]) (by kernel_rfl) rfl (by kernel_rfl) fun K13 hK13=>?_
  simp only [go_sem,simprocAttr,hw10,hxc_20,hxc_21]
  first | apply hK13 | refine ⟨sd,hK13 _ _ ?_⟩
  refine cM hm (fun hc14 hm=>?_) (fun hc14 hm=>?_)
  ·refine Wp.seqR fun K15 hK15=>?_
   simp only [go_sem,simprocAttr,hw10,hxc_20,hxc_21]
   first | apply hK15 | refine ⟨sd,hK15 _ _ ?_⟩
   refine Wp.ret ?_
   refine retQ_ret ?_
   cases hm
   simp only [go_sem,simprocAttr,hw10,hxc_20,hxc_21]
   try exact se4
  ·refine Wp.skip ?_
   refine hK11 _ _ ?_
   refine Wp.region fun K16 hK16=>?_
   simp only [go_sem,simprocAttr,hw10,hxc_20,hxc_21]
   first | apply hK16 | refine ⟨sd,hK16 _ _ ?_⟩
   simp only [thenQ,blockQ,↓reduceIte]
   refine ⟨(),hlt10,hnx_17 _ hm,?_⟩
   simp only [go_sem,simprocAttr,hw10,hxc_20,hxc_21]
   try exact se4
theorem ok_Law_sameJournal (a_1:api_Journal) (b_2:api_Journal) (z:Bool) (hm:Law_sameJournal a_1 b_2=some z):Does Tryz.prog 41 [.agg [.p (.s a_1.Id),.p (.l (List.map enc_api_Change a_1.Changes)),.p (.l (List.map enc_api_Change a_1.Old))],.agg [.p (.s b_2.Id),.p (.l (List.map enc_api_Change b_2.Changes)),.p (.l (List.map enc_api_Change b_2.Old))]] [] (fun r X=>r=.p (.b z)∧X=[]):=by
 unfold Law_sameJournal at hm
 refine Does.of_wp 0 24 [.tmp 4] Tryz.func41 rfl (by decide) rfl rfl (Nat.le_of_ble_eq_true rfl) fun B=>?_
 refine qS ?_
 obtain ⟨r_3,hr_3,hm⟩:=callG_elim hm
 obtain ⟨r_4,hr_4,hm⟩:=callG_elim hm
 refine Wp.seqR fun K2 hK2=>?_
 simp only [go_sem,simprocAttr]
 try refine ⟨sd,?_⟩
 refine Rg.callX (av:=?av3) (g:=decide (a_1.Id=b_2.Id)) (fun hg=>ok_slices_Equal_api_Change_api_Change a_1.Changes b_2.Changes _ (hr_3 hg)) si si si sg si ?cont3
 intro hv3
 simp only [go_sem,simprocAttr]
 try refine ⟨sd,?_⟩
 refine Rg.callX (av:=?av4) (g:=((decide (a_1.Id=b_2.Id)) && r_3)) (fun hg=>ok_slices_Equal_api_Change_api_Change a_1.Old b_2.Old _ (hr_4 hg)) si si si sg si ?cont4
 intro hv4
 simp only [go_sem,simprocAttr]
 first | apply hK2 | refine ⟨sd,hK2 _ _ ?_⟩
 refine Wp.ret ?_
 refine retQ_ret ?_
 cases hm
 exact fse4
end Go.Proofs.YtbofknpajcdnmaaGreatDoor
