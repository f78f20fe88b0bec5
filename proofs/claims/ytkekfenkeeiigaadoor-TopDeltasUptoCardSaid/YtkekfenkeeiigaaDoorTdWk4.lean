/- That the code does what the models say (part 4). -/
import Derived.Test.YtkekfenkeeiigaaDoorTdWk0
import Derived.Test.YtkekfenkeeiigaaDoorTdWk1
import Derived.Test.YtkekfenkeeiigaaDoorTdWk3
set_option linter.unusedSimpArgs false
set_option linter.unusedVariables false
namespace Go.Proofs.YtkekfenkeeiigaaDoor
open Go.Vc Go.Md
set_option maxRecDepth 100000
set_option maxHeartbeats 4000000
theorem ok_internal_strconv_ParseUint (s_1:Str) (base_2:Int) (bitSize_3:Int) (z:Int) (hm:internal_strconv_ParseUint s_1 base_2 bitSize_3=some z):Does Tryd.prog 118 [.p (.s s_1),.p (.i .i64 base_2),.p (.i .i64 bitSize_3)] [] (fun r X=>r=.tup [.p (.i .u64 z),.raw .nilIface]∧X=[]):=by
 unfold internal_strconv_ParseUint at hm
 refine Does.of_wp 0 172 [.tmp 6,.tmp 7] Tryd.func118 rfl (by decide) rfl rfl (Nat.le_of_ble_eq_true rfl) fun B=>?_
 refine qS ?_
 refine Wp.seqW fun K2 hK2 hW2=>?_
 refine qS ?_
 refine cM hm (fun hc4 hm=>?_) (fun hc4 hm=>?_)
 ·cases hm
 ·refine Wp.skip ?_
  refine hK2 _ _ ?_
  refine qS ?_
  refine qS ?_
  refine Wp.seqW fun K7 hK7 hW7=>?_
  obtain ⟨k_107,hk_107,hm⟩:=jp_elim hm
  have hcut7:∀ s,k_107 s=some z→K7 [(0,.p (.s s.1)),(1,.p (.i .i64 s.2)),(2,.p (.i .i64 bitSize_3)),(8,.p (.b (decide (base_2=0)))),(9,.p (.s s_1))] []:=by
   intro s hs
   have hm:=hk_107 _ hs
   clear hs
   obtain ⟨s_105,base_106⟩:=s
   try dsimp only at hm
   try dsimp only
   refine hK7 _ _ ?_
   refine Wp.seqW fun K8 hK8 hW8=>?_
   obtain ⟨k_109,hk_109,hm⟩:=jp_elim hm
   have hcut8:∀ s,k_109 s=some z→K8 [(0,.p (.s s_105)),(1,.p (.i .i64 base_106)),(2,.p (.i .i64 s)),(8,.p (.b (decide (base_2=0)))),(9,.p (.s s_1))] []:=by
    intro bitSize_108 hs
    have hm:=hk_109 _ hs
    clear hs
    try dsimp only at hm
    try dsimp only
    refine hK8 _ _ ?_
    refine qS ?_
    refine Wp.seqW fun K10 hK10 hW10=>?_
    obtain ⟨k_112,hk_112,hm⟩:=jp_elim hm
    have hcut10:∀ s,k_112 s=some z→K10 [(0,.p (.s s_105)),(1,.p (.i .i64 base_106)),(2,.p (.i .i64 bitSize_108)),(8,.p (.b (decide (base_2=0)))),(9,.p (.s s_1)),(10,.p (.i .u64 s))] []:=by
     intro cutoff_111 hs
     have hm:=hk_112 _ hs
     clear hs
     try dsimp only at hm
     try dsimp only
     refine hK10 _ _ ?_
     obtain ⟨c_113,hm⟩:=chk_elim hm
     refine Wp.seqR fun K11 hK11=>?_
     simp only [go_sem,simprocAttr]
     first | apply hK11 | refine ⟨by first | exact sd | ((repeat' apply And.intro) <;> first | assumption | omega | (simp only [List.length_append,List.length_map,List.length_cons,List.length_nil,List.length_set,List.length_replicate] at c_113 ⊢; omega)),hK11 _ _ ?_⟩
     refine qS ?_
     refine qS ?_
     refine Wp.seqW fun K14 hK14 hW14=>?_
     obtain ⟨k_143,hk_143,hm⟩:=jp_elim hm
     have hcut14:∀ s,k_143 s=some z→K14 [(9,.p (.s s_1)),(12,.p (.b s.1)),(13,.p (.i .u64 s.2))] []:=by
      intro s hs
      have hm:=hk_143 _ hs
      clear hs
      obtain ⟨underscores_141,n_142⟩:=s
      try dsimp only at hm
      try dsimp only
      refine hK14 _ _ ?_
      refine Wp.seqW fun K15 hK15 hW15=>?_
      obtain ⟨r_144,hr_144,hm⟩:=callG_elim hm
      refine Wp.seqR fun K16 hK16=>?_
      simp only [go_sem,simprocAttr]
      try refine ⟨sd,?_⟩
      refine Rg.callX (av:=?av17) (g:=underscores_141) (fun hg=>ok_internal_strconv_underscoreOK s_1 _ (hr_144 hg)) si si si sg si ?cont17
      intro hv17
      simp only [go_sem,simprocAttr]
      first | apply hK16 | refine ⟨sd,hK16 _ _ ?_⟩
      refine cM hm (fun hc18 hm=>?_) (fun hc18 hm=>?_)
      ·cases hm
      ·refine Wp.skip ?_
       refine hK15 _ _ ?_
       refine qS ?_
       refine Wp.ret ?_
       refine retQ_ret ?_
       cases hm
       exact fse3
     clear hK14 hk_143
     refine qS ?_
     refine Wp.block ?_
     obtain ⟨k_158,hk_158,hm⟩:=forC_cont hm
     refine Wp.factO 0 fun hl_161=>?_
     replace hl_161:s_105.length≤274877906944:=by
      simp only [go_sem,simprocAttr,List.length_map] at hl_161
      omega
     refine Wp.forC (fun i_160 s=>[(1,.p (.i .i64 base_106)),(8,.p (.b (decide (base_2=0)))),(9,.p (.s s_1)),(10,.p (.i .u64 cutoff_111)),(11,.p (.i .u64 (IntKind.u64.wrap ((IntKind.u64.wrap (1 * 2 ^ (shI .u64 (IntKind.u64.wrap bitSize_108)))) - 1)))),(12,.p (.b s.1)),(13,.p (.i .u64 s.2)),(99,.buf 0),(100,.p (.i .i64 (s_105.length:Int))),(101,.p (.i .i64 (i_160:Int)))]) (fun i_160 s=>[.buf 5 1 (List.map ecI_u8 (bytesOf s_105))]) ?_ hm ?_
     ·
      exact fse3
     clear hm
     intro i_160 s hii_160 hm
     obtain ⟨underscores_145,n_146⟩:=s
     try dsimp only at hm
     try dsimp only
     refine qS ?_
     refine Wp.seqW fun K22 hK22 hW22=>?_
     refine Wp.cond rfl ⟨⟩ (fun hc22=>?_) (fun hc22=>?_)
     rotate_left
     ·refine Wp.exit ?_
      have hm:=hk_158 _ (forC_end hm (ge_nat (by first | exact hc22 | simpa using hc22)))
      try dsimp only at hm
      refine hW14 _ _ _ _ ?_ (hcut14 (underscores_145,n_146) hm)
      exact fse3
     have hlt22:=lt_nat (by first | exact hc22 | simpa using hc22)
     have hw22:=wrap_succ hlt22 hl_161
     obtain ⟨nx_159,hnx_159,hm⟩:=forC_step hm hlt22
     refine Wp.skip ?_
     simp only [thenQ]
     refine hK22 _ _ ?_
     refine Wp.seqW fun K23 hK23 hW23=>?_
     refine Wp.block ?_
     have hr_163:=fun h=>getD_encB (l:=bytesOf s_105) (e:=ecI_u8) (d:=0) (i:=i_160) h []
     refine Wp.seqR fun K24 hK24=>?_
     simp only [go_sem,simprocAttr,hw22,hr_163 (by simp only [bytesOf_length]; omega)]
     first | apply hK24 | refine ⟨sd,hK24 _ _ ?_⟩
     refine Wp.seqR fun K25 hK25=>?_
     simp only [go_sem,simprocAttr,hw22]
     first | apply hK25 | refine ⟨sd,hK25 _ _ ?_⟩
     refine Wp.seqW fun K26 hK26 hW26=>?_
     obtain ⟨k_168,hk_168,hm⟩:=jp_elim hm
     have hcut26:∀ s,k_168 s=some z→K26 [(1,.p (.i .i64 base_106)),(8,.p (.b (decide (base_2=0)))),(9,.p (.s s_1)),(10,.p (.i .u64 cutoff_111)),(11,.p (.i .u64 (IntKind.u64.wrap ((IntKind.u64.wrap (1 * 2 ^ (shI .u64 (IntKind.u64.wrap bitSize_108)))) - 1)))),(12,.p (.b underscores_145)),(13,.p (.i .u64 n_146)),(16,.p (.i .u8 s)),(99,.buf 0),(100,.p (.i .i64 (s_105.length:Int))),(101,.p (.i .i64 (i_160:Int)))] [.buf 5 1 (List.map ecI_u8 (bytesOf s_105))]:=by
      intro d_167 hs
      have hm:=hk_168 _ hs
      clear hs
      try dsimp only at hm
      try dsimp only
      refine hK26 _ _ ?_
      refine Wp.seqW fun K27 hK27 hW27=>?_
      refine Wp.seqR fun K28 hK28=>?_
      simp only [go_sem,simprocAttr,hw22]
      first | apply hK28 | refine ⟨sd,hK28 _ _ ?_⟩
      refine cM hm (fun hc29 hm=>?_) (fun hc29 hm=>?_)
      ·cases hm
      ·refine Wp.skip ?_
       refine hK27 _ _ ?_
       refine Wp.seqW fun K30 hK30 hW30=>?_
       refine Wp.seqR fun K31 hK31=>?_
       simp only [go_sem,simprocAttr,hw22]
       first | apply hK31 | refine ⟨sd,hK31 _ _ ?_⟩
       refine cM hm (fun hc32 hm=>?_) (fun hc32 hm=>?_)
       ·cases hm
       ·refine Wp.skip ?_
        refine hK30 _ _ ?_
        refine Wp.seqR fun K33 hK33=>?_
        simp only [go_sem,simprocAttr,hw22]
        first | apply hK33 | refine ⟨sd,hK33 _ _ ?_⟩
        refine Wp.seqR fun K34 hK34=>?_
        simp only [go_sem,simprocAttr,hw22]
        first | apply hK34 | refine ⟨sd,hK34 _ _ ?_⟩
        refine Wp.seqW fun K35 hK35 hW35=>?_
        refine Wp.seqR fun K36 hK36=>?_
        simp only [go_sem,simprocAttr,hw22]
        first | apply hK36 | refine ⟨sd,hK36 _ _ ?_⟩
        refine cM hm (fun hc37 hm=>?_) (fun hc37 hm=>?_)
        ·cases hm
        ·refine Wp.skip ?_
         refine hK35 _ _ ?_
         refine Wp.region fun K38 hK38=>?_
         simp only [go_sem,simprocAttr,hw22]
         first | apply hK38 | refine ⟨sd,hK38 _ _ ?_⟩
         refine hK23 _ _ ?_
         refine Wp.region fun K39 hK39=>?_
         simp only [go_sem,simprocAttr,hw22]
         first | apply hK39 | refine ⟨sd,hK39 _ _ ?_⟩
         simp only [thenQ,blockQ,↓reduceIte]
         refine ⟨(underscores_145,IntKind.u64.wrap ((IntKind.u64.wrap (n_146 * (IntKind.u64.wrap base_106)))+(IntKind.u64.wrap d_167))),hlt22,hnx_159 _ hm,?_⟩
         simp only [go_sem,simprocAttr,hw22]
         try exact se3
     clear hK26 hk_168
     refine Wp.block ?_
     refine Wp.seqR fun K40 hK40=>?_
     simp only [go_sem,simprocAttr,hw22]
     first | apply hK40 | refine ⟨sd,hK40 _ _ ?_⟩
     refine cM hm (fun hc41 hm=>?_) (fun hc41 hm=>?_)
     ·refine Wp.seqR fun K42 hK42=>?_
      simp only [go_sem,simprocAttr,hw22]
      first | apply hK42 | refine ⟨sd,hK42 _ _ ?_⟩
      refine Wp.exit ?_
      refine hK23 _ _ ?_
      refine Wp.region fun K43 hK43=>?_
      simp only [go_sem,simprocAttr,hw22]
      first | apply hK43 | refine ⟨sd,hK43 _ _ ?_⟩
      simp only [thenQ,blockQ,↓reduceIte]
      refine ⟨(true,n_146),hlt22,hnx_159 _ hm,?_⟩
      simp only [go_sem,simprocAttr,hw22]
      try exact se3
     ·refine Wp.seqR fun K44 hK44=>?_
      simp only [go_sem,simprocAttr,hw22]
      first | apply hK44 | refine ⟨sd,hK44 _ _ ?_⟩
      refine cM hm (fun hc45 hm=>?_) (fun hc45 hm=>?_)
      ·refine Wp.region fun K46 hK46=>?_
       simp only [go_sem,simprocAttr,hw22]
       first | apply hK46 | refine ⟨sd,hK46 _ _ ?_⟩
       refine hW26 _ _ _ _ ?_ (hcut26 (IntKind.u8.wrap (((bytesOf s_105).getD i_160 0) - 48)) hm)
       simp only [go_sem,simprocAttr,hw22]
       try exact se3
      ·obtain ⟨r_169,hr_169,hm⟩:=call_elim hm
       obtain ⟨r_170,hr_170,hm⟩:=callG_elim hm
       refine Wp.seqR fun K47 hK47=>?_
       simp only [go_sem,simprocAttr,hw22]
       try refine ⟨sd,?_⟩
       refine Rg.callX (av:=?av48) (g:=true) (fun hg=>ok_internal_strconv_lower ((bytesOf s_105).getD i_160 0) _ hr_169) (by simp only [go_sem,simprocAttr,hw22]; exact Is.mk) (by simp only [go_sem,simprocAttr,hw22]; exact Is.mk) (by simp only [go_sem,simprocAttr,hw22]; exact Is.mk) (by simp only [go_sem,simprocAttr,hw22]) (by simp only [go_sem,simprocAttr,hw22]; exact Is.mk) ?cont48
       intro hv48
       simp only [go_sem,simprocAttr,hw22]
       try refine ⟨sd,?_⟩
       refine Rg.callX (av:=?av49) (g:=decide (97≤r_169)) (fun hg=>ok_internal_strconv_lower ((bytesOf s_105).getD i_160 0) _ (hr_170 hg)) (by simp only [go_sem,simprocAttr,hw22]; exact Is.mk) (by simp only [go_sem,simprocAttr,hw22]; exact Is.mk) (by simp only [go_sem,simprocAttr,hw22]; exact Is.mk) (by simp only [go_sem,simprocAttr,hw22]) (by simp only [go_sem,simprocAttr,hw22]; exact Is.mk) ?cont49
       intro hv49
       simp only [go_sem,simprocAttr,hw22]
       first | apply hK47 | refine ⟨sd,hK47 _ _ ?_⟩
       refine cM hm (fun hc50 hm=>?_) (fun hc50 hm=>?_)
       ·obtain ⟨r_171,hr_171,hm⟩:=call_elim hm
        refine Wp.region fun K51 hK51=>?_
        simp only [go_sem,simprocAttr,hw22]
        try refine ⟨sd,?_⟩
        refine Rg.callX (av:=?av52) (g:=true) (fun hg=>ok_internal_strconv_lower ((bytesOf s_105).getD i_160 0) _ hr_171) (by simp only [go_sem,simprocAttr,hw22]; exact Is.mk) (by simp only [go_sem,simprocAttr,hw22]; exact Is.mk) (by simp only [go_sem,simprocAttr,hw22]; exact Is.mk) (by simp only [go_sem,simprocAttr,hw22]) (by simp only [go_sem,simprocAttr,hw22]; exact Is.mk) ?cont52
        intro hv52
        simp only [go_sem,simprocAttr,hw22]
        first | apply hK51 | refine ⟨sd,hK51 _ _ ?_⟩
        refine hW26 _ _ _ _ ?_ (hcut26 (IntKind.u8.wrap ((IntKind.u8.wrap (r_171 - 97))+10)) hm)
        simp only [go_sem,simprocAttr,hw22]
        try exact se3
       ·cases hm
    clear hK10 hk_112
    refine qS ?_
    refine Wp.block ?_
    refine qS ?_
    refine cM hm (fun hc55 hm=>?_) (fun hc55 hm=>?_)
    ·refine qR ?_
     refine hW10 _ _ _ _ ?_ (hcut10 1844674407370955162 hm)
     exact fse3
    ·refine qS ?_
     refine cM hm (fun hc58 hm=>?_) (fun hc58 hm=>?_)
     ·refine qR ?_
      refine hW10 _ _ _ _ ?_ (hcut10 1152921504606846976 hm)
      exact fse3
     ·obtain ⟨c_172,hm⟩:=chk_elim hm
      refine Wp.region fun K60 hK60=>?_
      simp only [go_sem,simprocAttr]
      first | apply hK60 | refine ⟨by first | exact sd | ((repeat' apply And.intro) <;> first | assumption | omega | (simp only [List.length_append,List.length_map,List.length_cons,List.length_nil,List.length_set,List.length_replicate] at c_172 ⊢; omega)),hK60 _ _ ?_⟩
      refine hW10 _ _ _ _ ?_ (hcut10 (IntKind.u64.wrap ((IntKind.u64.wrap (Int.tdiv 18446744073709551615 (IntKind.u64.wrap base_106)))+1)) hm)
      exact fse3
   clear hK8 hk_109
   refine qS ?_
   refine cM hm (fun hc62 hm=>?_) (fun hc62 hm=>?_)
   ·refine qR ?_
    refine hW8 _ _ _ _ ?_ (hcut8 64 hm)
    exact fse3
   ·refine qS ?_
    refine cM hm (fun hc65 hm=>?_) (fun hc65 hm=>?_)
    ·cases hm
    ·refine Wp.skip ?_
     refine hW8 _ _ _ _ ?_ (hcut8 bitSize_3 hm)
     exact fse3
  clear hK7 hk_107
  refine Wp.block ?_
  refine qS ?_
  refine cM hm (fun hc67 hm=>?_) (fun hc67 hm=>?_)
  ·refine Wp.skip ?_
   refine hW7 _ _ _ _ ?_ (hcut7 (s_1,base_2) hm)
   exact fse3
  ·refine qS ?_
   refine cM hm (fun hc69 hm=>?_) (fun hc69 hm=>?_)
   ·refine qS ?_
    obtain ⟨c_173,hbc_173,hxc_173,hm⟩:=idxS_elim hm
    replace hxc_173:((s_1.getD 0 0).toNat:Int)=c_173:=hxc_173
    refine Wp.seqR fun K71 hK71=>?_
    simp only [go_sem,simprocAttr,hxc_173]
    first | apply hK71 | refine ⟨sd,hK71 _ _ ?_⟩
    refine cM hm (fun hc72 hm=>?_) (fun hc72 hm=>?_)
    ·refine Wp.block ?_
     obtain ⟨c_174,hm⟩:=chk_elim hm
     obtain ⟨r_175,hr_175,hm⟩:=callG_elim hm
     refine Wp.seqR fun K73 hK73=>?_
     simp only [go_sem,simprocAttr,hxc_173]
     try refine ⟨by first | exact sd | ((repeat' apply And.intro) <;> first | assumption | omega | (simp only [List.length_append,List.length_map,List.length_cons,List.length_nil,List.length_set,List.length_replicate] at c_174 ⊢; omega)),?_⟩
     refine Rg.callX (av:=?av74) (g:=decide (3≤(s_1.length:Int))) (fun hg=>ok_internal_strconv_lower ((s_1.getD 1 0).toNat:Int) _ (hr_175 hg)) (by simp only [go_sem,simprocAttr,hxc_173]; exact Is.mk) (by simp only [go_sem,simprocAttr,hxc_173]; exact Is.mk) (by simp only [go_sem,simprocAttr,hxc_173]; exact Is.mk) (by simp only [go_sem,simprocAttr,hxc_173]) (by simp only [go_sem,simprocAttr,hxc_173]; exact Is.mk) ?cont74
     intro hv74
     simp only [go_sem,simprocAttr,hxc_173]
     first | apply hK73 | refine ⟨by first | exact sd | ((repeat' apply And.intro) <;> first | assumption | omega | (simp only [List.length_append,List.length_map,List.length_cons,List.length_nil,List.length_set,List.length_replicate] at c_174 ⊢; omega)),hK73 _ _ ?_⟩
     refine cM hm (fun hc75 hm=>?_) (fun hc75 hm=>?_)
     ·refine Wp.seqR fun K76 hK76=>?_
      simp only [go_sem,simprocAttr,hxc_173]
      first | apply hK76 | refine ⟨sd,hK76 _ _ ?_⟩
      obtain ⟨c_176,hm⟩:=chk_elim hm
      refine Wp.region fun K77 hK77=>?_
      simp only [go_sem,simprocAttr,hxc_173]
      first | apply hK77 | refine ⟨by first | exact sd | ((repeat' apply And.intro) <;> first | assumption | omega | (simp only [List.length_append,List.length_map,List.length_cons,List.length_nil,List.length_set,List.length_replicate] at c_176 ⊢; omega)),hK77 _ _ ?_⟩
      refine hW7 _ _ _ _ ?_ (hcut7 (List.drop 2 s_1,2) hm)
      simp only [go_sem,simprocAttr,hxc_173]
      try exact se3
     ·obtain ⟨c_177,hm⟩:=chk_elim hm
      obtain ⟨r_178,hr_178,hm⟩:=callG_elim hm
      refine Wp.seqR fun K78 hK78=>?_
      simp only [go_sem,simprocAttr,hxc_173]
      try refine ⟨by first | exact sd | ((repeat' apply And.intro) <;> first | assumption | omega | (simp only [List.length_append,List.length_map,List.length_cons,List.length_nil,List.length_set,List.length_replicate] at c_177 ⊢; omega)),?_⟩
      refine Rg.callX (av:=?av79) (g:=decide (3≤(s_1.length:Int))) (fun hg=>ok_internal_strconv_lower ((s_1.getD 1 0).toNat:Int) _ (hr_178 hg)) (by simp only [go_sem,simprocAttr,hxc_173]; exact Is.mk) (by simp only [go_sem,simprocAttr,hxc_173]; exact Is.mk) (by simp only [go_sem,simprocAttr,hxc_173]; exact Is.mk) (by simp only [go_sem,simprocAttr,hxc_173]) (by simp only [go_sem,simprocAttr,hxc_173]; exact Is.mk) ?cont79
      intro hv79
      simp only [go_sem,simprocAttr,hxc_173]
      first | apply hK78 | refine ⟨by first | exact sd | ((repeat' apply And.intro) <;> first | assumption | omega | (simp only [List.length_append,List.length_map,List.length_cons,List.length_nil,List.length_set,List.length_replicate] at c_177 ⊢; omega)),hK78 _ _ ?_⟩
      refine cM hm (fun hc80 hm=>?_) (fun hc80 hm=>?_)
      ·refine Wp.seqR fun K81 hK81=>?_
       simp only [go_sem,simprocAttr,hxc_173]
       first | apply hK81 | refine ⟨sd,hK81 _ _ ?_⟩
       obtain ⟨c_179,hm⟩:=chk_elim hm
       refine Wp.region fun K82 hK82=>?_
       simp only [go_sem,simprocAttr,hxc_173]
       first | apply hK82 | refine ⟨by first | exact sd | ((repeat' apply And.intro) <;> first | assumption | omega | (simp only [List.length_append,List.length_map,List.length_cons,List.length_nil,List.length_set,List.length_replicate] at c_179 ⊢; omega)),hK82 _ _ ?_⟩
       refine hW7 _ _ _ _ ?_ (hcut7 (List.drop 2 s_1,8) hm)
       simp only [go_sem,simprocAttr,hxc_173]
       try exact se3
      ·obtain ⟨c_180,hm⟩:=chk_elim hm
       obtain ⟨r_181,hr_181,hm⟩:=callG_elim hm
       refine Wp.seqR fun K83 hK83=>?_
       simp only [go_sem,simprocAttr,hxc_173]
       try refine ⟨by first | exact sd | ((repeat' apply And.intro) <;> first | assumption | omega | (simp only [List.length_append,List.length_map,List.length_cons,List.length_nil,List.length_set,List.length_replicate] at c_180 ⊢; omega)),?_⟩
       refine Rg.callX (av:=?av84) (g:=decide (3≤(s_1.length:Int))) (fun hg=>ok_internal_strconv_lower ((s_1.getD 1 0).toNat:Int) _ (hr_181 hg)) (by simp only [go_sem,simprocAttr,hxc_173]; exact Is.mk) (by simp only [go_sem,simprocAttr,hxc_173]; exact Is.mk) (by simp only [go_sem,simprocAttr,hxc_173]; exact Is.mk) (by simp only [go_sem,simprocAttr,hxc_173]) (by simp only [go_sem,simprocAttr,hxc_173]; exact Is.mk) ?cont84
       intro hv84
       simp only [go_sem,simprocAttr,hxc_173]
       first | apply hK83 | refine ⟨by first | exact sd | ((repeat' apply And.intro) <;> first | assumption | omega | (simp only [List.length_append,List.length_map,List.length_cons,List.length_nil,List.length_set,List.length_replicate] at c_180 ⊢; omega)),hK83 _ _ ?_⟩
       refine cM hm (fun hc85 hm=>?_) (fun hc85 hm=>?_)
       ·refine Wp.seqR fun K86 hK86=>?_
        simp only [go_sem,simprocAttr,hxc_173]
        first | apply hK86 | refine ⟨sd,hK86 _ _ ?_⟩
        obtain ⟨c_182,hm⟩:=chk_elim hm
        refine Wp.region fun K87 hK87=>?_
        simp only [go_sem,simprocAttr,hxc_173]
        first | apply hK87 | refine ⟨by first | exact sd | ((repeat' apply And.intro) <;> first | assumption | omega | (simp only [List.length_append,List.length_map,List.length_cons,List.length_nil,List.length_set,List.length_replicate] at c_182 ⊢; omega)),hK87 _ _ ?_⟩
        refine hW7 _ _ _ _ ?_ (hcut7 (List.drop 2 s_1,16) hm)
        simp only [go_sem,simprocAttr,hxc_173]
        try exact se3
       ·refine Wp.seqR fun K88 hK88=>?_
        simp only [go_sem,simprocAttr,hxc_173]
        first | apply hK88 | refine ⟨sd,hK88 _ _ ?_⟩
        obtain ⟨c_183,hm⟩:=chk_elim hm
        refine Wp.region fun K89 hK89=>?_
        simp only [go_sem,simprocAttr,hxc_173]
        first | apply hK89 | refine ⟨by first | exact sd | ((repeat' apply And.intro) <;> first | assumption | omega | (simp only [List.length_append,List.length_map,List.length_cons,List.length_nil,List.length_set,List.length_replicate] at c_183 ⊢; omega)),hK89 _ _ ?_⟩
        refine hW7 _ _ _ _ ?_ (hcut7 (List.drop 1 s_1,8) hm)
        simp only [go_sem,simprocAttr,hxc_173]
        try exact se3
    ·refine Wp.skip ?_
     refine hW7 _ _ _ _ ?_ (hcut7 (s_1,10) hm)
     simp only [go_sem,simprocAttr,hxc_173]
     try exact se3
   ·cases hm
theorem ok_strconv_ParseUint (s_1:Str) (base_2:Int) (bitSize_3:Int) (z:Int) (hm:strconv_ParseUint s_1 base_2 bitSize_3=some z):Does Tryd.prog 107 [.p (.s s_1),.p (.i .i64 base_2),.p (.i .i64 bitSize_3)] [] (fun r X=>r=.tup [.p (.i .u64 z),.raw .nilIface]∧X=[]):=by
 unfold strconv_ParseUint at hm
 refine Does.of_wp 0 26 [.tmp 6,.tmp 7] Tryd.func107 rfl (by decide) rfl rfl (Nat.le_of_ble_eq_true rfl) fun B=>?_
 refine qS ?_
 obtain ⟨r_5,hr_5,hm⟩:=call_elim hm
 refine Wp.seqR fun K2 hK2=>?_
 simp only [go_sem,simprocAttr]
 try refine ⟨sd,?_⟩
 refine Rg.callF (av:=?av3) (ok_internal_strconv_ParseUint s_1 base_2 bitSize_3 _ hr_5) si si sg ?cont3
 intro hv3
 simp only [go_sem,simprocAttr]
 first | apply hK2 | refine ⟨sd,hK2 _ _ ?_⟩
 refine Wp.seqW fun K4 hK4 hW4=>?_
 refine qS ?_
 refine Wp.cond rfl ⟨⟩ (fun hc6=>?_) (fun hc6=>?_)
 ·cases hc6
 refine Wp.skip ?_
 refine hK4 _ _ ?_
 refine qS ?_
 refine Wp.ret ?_
 refine retQ_ret ?_
 cases hm
 exact fse3
theorem ok_delta_putSum_i1 (s_1:Str) (o0_2:List Int) (z:List Int) (hm:delta_putSum_i1 s_1 o0_2=some z):Does Tryd.prog 67 [.buf 0,.p (.s s_1)] [.buf 5 1 (List.map ecI_u8 o0_2)] (fun r X=>r=.buf 0∧X=[.buf 5 1 (List.map ecI_u8 z)]):=by
 unfold delta_putSum_i1 at hm
 refine Does.of_wp 1 27 [.tmp 4] Tryd.func67 rfl (by decide) rfl rfl (Nat.le_of_ble_eq_true rfl) fun B=>?_
 refine qS ?_
 obtain ⟨r_29,hr_29,hm⟩:=call_elim hm
 refine Wp.seqR fun K2 hK2=>?_
 simp only [go_sem,simprocAttr]
 try refine ⟨sd,?_⟩
 refine Rg.callF (av:=?av3) (ok_strconv_ParseUint s_1 16 64 _ hr_29) si si sg ?cont3
 intro hv3
 simp only [go_sem,simprocAttr]
 first | apply hK2 | refine ⟨sd,hK2 _ _ ?_⟩
 refine Wp.seqW fun K4 hK4 hW4=>?_
 obtain ⟨k_30,hk_30,hm⟩:=jp_elim hm
 have hcut4:∀ s,k_30 s=some z→K4 [(0,.buf 0),(5,.p (.i .u64 r_29))] [.buf 5 1 (List.map ecI_u8 o0_2)]:=by
  intro s hs
  have hm:=hk_30 _ hs
  clear hs
  try dsimp only at hm
  try dsimp only
  refine hK4 _ _ ?_
  refine Wp.seqW fun K5 hK5 hW5=>?_
  obtain ⟨k_43,hk_43,hm⟩:=jp_elim hm
  have hcut5:∀ s,k_43 s=some z→K5 [(0,.buf 0)] [.buf 5 1 (List.map ecI_u8 s)]:=by
   intro o0_42 hs
   have hm:=hk_43 _ hs
   clear hs
   try dsimp only at hm
   try dsimp only
   refine hK5 _ _ ?_
   refine qS ?_
   refine Wp.ret ?_
   refine retQ_ret ?_
   cases hm
   exact fse3
  clear hK5 hk_43
  refine qS ?_
  refine Wp.block ?_
  obtain ⟨k_51,hk_51,hm⟩:=loopN_cont hm
  refine Wp.loopN (fun s=>[(0,.buf 0),(5,.p (.i .u64 r_29)),(7,.p (.i .i64 s.1))]) (fun s=>[.buf 5 1 (List.map ecI_u8 s.2)]) ?_ hm ?_
  ·
   exact fse3
  clear hm
  intro s nx_52 hm
  obtain ⟨i_47,o0_48⟩:=s
  try dsimp only at hm
  try dsimp only
  refine Wp.seqW fun K8 hK8 hW8=>?_
  refine qS ?_
  refine cM hm (fun hc10 hm=>?_) (fun hc10 hm=>?_)
  ·refine Wp.skip ?_
   refine hK8 _ _ ?_
   refine Wp.seqW fun K11 hK11 hW11=>?_
   refine Wp.block ?_
   obtain ⟨c_53,hm⟩:=chk_elim hm
   obtain ⟨c_54,hm⟩:=chk_elim hm
   refine Wp.region fun K12 hK12=>?_
   simp only [go_sem,simprocAttr]
   first | apply hK12 | refine ⟨by first | exact sd | ((repeat' apply And.intro) <;> first | assumption | omega | (simp only [List.length_append,List.length_map,List.length_cons,List.length_nil,List.length_set,List.length_replicate] at c_53 c_54 ⊢; omega)),hK12 _ _ ?_⟩
   refine hK11 _ _ ?_
   refine qR ?_
   simp only [thenQ,blockQ,↓reduceIte]
   refine ⟨(IntKind.i64.wrap (i_47 - 8),o0_48++[IntKind.u8.wrap (Int.fdiv r_29 (2 ^ (shI .u64 i_47)))]),hm,?_⟩
   exact fse3
  ·refine Wp.exit ?_
   simp only [thenQ,blockQ,↓reduceIte]
   have hm:=hk_51 _ hm
   try dsimp only at hm
   refine hW5 _ _ _ _ ?_ (hcut5 o0_48 hm)
   exact fse3
 clear hK4 hk_30
 refine qS ?_
 refine Wp.cond rfl ⟨⟩ (fun hc15=>?_) (fun hc15=>?_)
 ·cases hc15
 refine Wp.skip ?_
 refine hW4 _ _ _ _ ?_ (hcut4 () hm)
 exact fse3
theorem ok_delta_Print (d_1:api_Delta) (z:Str × Int) (hm:delta_Print d_1=some z):Does Tryd.prog 25 [.agg [.p (.i .i64 d_1.Old),.p (.i .i64 d_1.New),.p (.s d_1.OldSum),.p (.s d_1.NewSum),.p (.l (List.map enc_api_Piece d_1.Pieces))]] [] (fun r X=>r=.tup [.p (.s z.1),.p (.i .i64 z.2)]∧X=[]):=by
 unfold delta_Print at hm
 refine Does.of_wp 0 68 [.tmp 2,.tmp 3] Tryd.func25 rfl (by decide) rfl rfl (Nat.le_of_ble_eq_true rfl) fun B=>?_
 refine qS ?_
 refine Wp.seqW fun K2 hK2 hW2=>?_
 obtain ⟨r_2,hr_2,hm⟩:=call_elim hm
 refine Wp.seqR fun K3 hK3=>?_
 simp only [go_sem,simprocAttr]
 try refine ⟨sd,?_⟩
 refine Rg.callX (av:=?av4) (g:=true) (fun hg=>ok_delta_Check d_1 _ hr_2) si si si sg si ?cont4
 intro hv4
 simp only [go_sem,simprocAttr]
 first | apply hK3 | refine ⟨sd,hK3 _ _ ?_⟩
 refine qS ?_
 refine cM hm (fun hc6 hm=>?_) (fun hc6 hm=>?_)
 ·refine qS ?_
  refine Wp.ret ?_
  refine retQ_ret ?_
  cases hm
  exact fse3
 ·refine Wp.skip ?_
  refine hK2 _ _ ?_
  obtain ⟨c_8,hm⟩:=chk_elim hm
  obtain ⟨r_9,hr_9,hm⟩:=call_elim hm
  obtain ⟨r_10,hr_10,hm⟩:=call_elim hm
  refine Wp.seqD (plan:=pl [(2,none),(3,none),(5,none),(6,none),(0,some [2,3,5,6]),(1,some [2,3,5,6]),(4,some [5,6]),(7,some []),(8,none)]) (by kernel_rfl) rfl (by kernel_rfl) fun K8 hK8=>?_
  simp only [go_sem,simprocAttr]
  try refine ⟨by first | exact sd | ((repeat' apply And.intro) <;> first | assumption | omega | (simp only [List.length_append,List.length_map,List.length_cons,List.length_nil,List.length_set,List.length_replicate] at c_8 ⊢; omega)),?_⟩
  refine Dr.of_br (Br.callS (av:=?av9) (o:=?o9) 1 [1] (ok_delta_putNumber_i1 d_1.Old [79,70,68,49] _ hr_9) si si si si si sg sg sg sg ?cont9)
  simp only [go_sem,simprocAttr]
  try refine ⟨by first | exact sd | ((repeat' apply And.intro) <;> first | assumption | omega | (simp only [List.length_append,List.length_map,List.length_cons,List.length_nil,List.length_set,List.length_replicate] at c_8 ⊢; omega)),?_⟩
  refine Dr.of_br (Br.callS (av:=?av10) (o:=?o10) 1 [1] (ok_delta_putNumber_i1 d_1.New r_9 _ hr_10) si si si si si sg sg sg sg ?cont10)
  simp only [go_sem,simprocAttr]
  first | apply hK8 | refine ⟨by first | exact sd | ((repeat' apply And.intro) <;> first | assumption | omega | (simp only [List.length_append,List.length_map,List.length_cons,List.length_nil,List.length_set,List.length_replicate] at c_8 ⊢; omega)),hK8 _ _ ?_⟩
  obtain ⟨r_17,hr_17,hm⟩:=call_elim hm
  obtain ⟨r_18,hr_18,hm⟩:=call_elim hm
  obtain ⟨r_19,hr_19,hm⟩:=call_elim hm
  refine Wp.seqD (plan:=pl [(0,none),(1,none),(2,none),(4,none),(5,none),(7,none),(8,none),(9,none),(3,some [4,5,7,8,9]),(6,some [7,8,9]),(10,some []),(11,none)]) (by kernel_rfl) rfl (by kernel_rfl) fun K11 hK11=>?_
  simp only [go_sem,simprocAttr]
  try refine ⟨sd,?_⟩
  refine Dr.of_br (Br.callS (av:=?av12) (o:=?o12) 1 [1] (ok_delta_putSum_i1 d_1.OldSum r_10 _ hr_17) si si si si si sg sg sg sg ?cont12)
  simp only [go_sem,simprocAttr]
  try refine ⟨sd,?_⟩
  refine Dr.of_br (Br.callS (av:=?av13) (o:=?o13) 1 [1] (ok_delta_putSum_i1 d_1.NewSum r_17 _ hr_18) si si si si si sg sg sg sg ?cont13)
  simp only [go_sem,simprocAttr]
  try refine ⟨sd,?_⟩
  refine Dr.of_br (Br.callS (av:=?av14) (o:=?o14) 1 [1] (ok_delta_putNumber_i1 (d_1.Pieces.length:Int) r_18 _ hr_19) si si si si si sg sg sg sg ?cont14)
  simp only [go_sem,simprocAttr]
  first | apply hK11 | refine ⟨sd,hK11 _ _ ?_⟩
  refine Wp.seqW fun K15 hK15 hW15=>?_
  obtain ⟨k_56,hk_56,hm⟩:=jp_elim hm
  have hcut15:∀ s,k_56 s=some z→K15 [(5,.buf 1)] [.cells 41 [.top,.top,.top,.top,.top],.buf 5 1 (List.map ecI_u8 s)]:=by
   intro o1_55 hs
   have hm:=hk_56 _ hs
   clear hs
   try dsimp only at hm
   try dsimp only
   refine hK15 _ _ ?_
   obtain ⟨r_57,hr_57,hm⟩:=call_elim hm
   obtain ⟨r_58,hr_58,hm⟩:=call_elim hm
   refine Wp.seqR fun K16 hK16=>?_
   simp only [go_sem,simprocAttr]
   try refine ⟨sd,?_⟩
   refine Rg.callX (av:=?av17) (g:=true) (fun hg=>ok_disk_SumOf (Go.Vc.strOf o1_55) _ hr_57) si si si sg si ?cont17
   intro hv17
   simp only [go_sem,simprocAttr]
   try refine ⟨sd,?_⟩
   refine Rg.callO (av:=?av18) [1] (ok_delta_putSum_i1 r_57 o1_55 _ hr_58) si si si sg sg ?cont18
   rintro _ _ ⟨rfl,rfl⟩ hv18
   simp only [go_sem,simprocAttr]
   first | apply hK16 | refine ⟨sd,hK16 _ _ ?_⟩
   refine Wp.ret ?_
   refine retQ_ret ?_
   cases hm
   exact fse3
  clear hK15 hk_56
  refine qS ?_
  refine Wp.block ?_
  obtain ⟨k_76,hk_76,hm⟩:=forL_cont hm
  refine Wp.fact 33 fun hl_79=>?_
  replace hl_79:d_1.Pieces.length≤274877906944:=by
   simp only [go_sem,simprocAttr,List.length_map] at hl_79
   omega
  refine Wp.forL (fun i_78 s=>[(5,.buf 1),(33,.p (.l (List.map enc_api_Piece d_1.Pieces))),(34,.p (.i .i64 (d_1.Pieces.length:Int))),(35,.p (.i .i64 (i_78:Int)))]) (fun i_78 s=>[.cells 41 [.p (.i .i64 d_1.Old),.p (.i .i64 d_1.New),.p (.s d_1.OldSum),.p (.s d_1.NewSum),.p (.l (List.map enc_api_Piece d_1.Pieces))],.buf 5 1 (List.map ecI_u8 s)]) ?_ hm ?_
  ·
   exact fse3
  clear hm
  intro i_78 o1_68 hii_78 hm
  try dsimp only at hm
  try dsimp only
  refine qS ?_
  refine Wp.seqW fun K21 hK21 hW21=>?_
  refine Wp.cond rfl ⟨⟩ (fun hc21=>?_) (fun hc21=>?_)
  rotate_left
  ·refine Wp.exit ?_
   have hm:=hk_76 _ (forL_end hm (ge_nat (by first | exact hc21 | simpa using hc21)))
   try dsimp only at hm
   refine hW15 _ _ _ _ ?_ (hcut15 o1_68 hm)
   exact fse3
  have hlt21:=lt_nat (by first | exact hc21 | simpa using hc21)
  have hw21:=wrap_succ hlt21 hl_79
  obtain ⟨p_80,nx_77,hxp_80,hyp_80,hnx_77,hm⟩:=forL_step hm hlt21
  replace hxp_80:=hxp_80 enc_api_Piece
  refine Wp.skip ?_
  simp only [thenQ]
  refine hK21 _ _ ?_
  refine Wp.seqW fun K22 hK22 hW22=>?_
  refine Wp.block ?_
  refine Wp.seqR fun K23 hK23=>?_
  simp only [go_sem,simprocAttr,hw21,hxp_80]
  first | apply hK23 | refine ⟨sd,hK23 _ _ ?_⟩
  refine Wp.seqR fun K24 hK24=>?_
  simp only [go_sem,simprocAttr,hw21,hxp_80]
  first | apply hK24 | refine ⟨sd,hK24 _ _ ?_⟩
  refine cM hm (fun hc25 hm=>?_) (fun hc25 hm=>?_)
  ·obtain ⟨c_81,hm⟩:=chk_elim hm
   obtain ⟨r_82,hr_82,hm⟩:=call_elim hm
   obtain ⟨c_83,hm⟩:=chk_elim hm
   refine Wp.regD (plan:=pl [(0,none),(3,none),(4,none),(5,none),(7,none),(8,none),(1,some [0,3,4,5,7,8]),(2,some [3,4,5,7,8]),(6,some [7,8]),(9,some []),(10,none)]) (by kernel_rfl) rfl (by kernel_rfl) fun K26 hK26=>?_
   simp only [go_sem,simprocAttr,hw21,hxp_80]
   try refine ⟨by first | exact sd | ((repeat' apply And.intro) <;> first | assumption | omega | (simp only [List.length_append,List.length_map,List.length_cons,List.length_nil,List.length_set,List.length_replicate] at c_81 c_83 ⊢; omega)),?_⟩
   refine Dr.of_br (Br.callS (av:=?av27) (o:=?o27) 1 [1] (ok_delta_putNumber_i1 (p_80.Data.length:Int) (o1_68++[1]) _ hr_82) (by simp only [go_sem,simprocAttr,hw21,hxp_80]; exact Is.mk) (by simp only [go_sem,simprocAttr,hw21,hxp_80]; exact Is.mk) (by simp only [go_sem,simprocAttr,hw21,hxp_80]; exact Is.mk) (by simp only [go_sem,simprocAttr,hw21,hxp_80]; exact Is.mk) (by simp only [go_sem,simprocAttr,hw21,hxp_80]; first | exact Is.mk | (simp only [List.map_append,List.map_cons,List.map_nil,eN_enc_delta_state,ecB,ecI_i64,ecI_u8,ecS,iN_enc_delta_state]; exact Is.mk)) (by simp only [go_sem,simprocAttr,hw21,hxp_80]) (by simp only [go_sem,simprocAttr,hw21,hxp_80]) (by simp only [go_sem,simprocAttr,hw21,hxp_80]) (by simp only [go_sem,simprocAttr,hw21,hxp_80]) ?cont27)
   simp only [go_sem,simprocAttr,hw21,hxp_80]
   first | apply hK26 | refine ⟨by first | exact sd | ((repeat' apply And.intro) <;> first | assumption | omega | (simp only [List.length_append,List.length_map,List.length_cons,List.length_nil,List.length_set,List.length_replicate] at c_81 c_83 ⊢; omega)),hK26 _ _ ?_⟩
   refine hK22 _ _ ?_
   refine Wp.region fun K28 hK28=>?_
   simp only [go_sem,simprocAttr,hw21,hxp_80]
   first | apply hK28 | refine ⟨sd,hK28 _ _ ?_⟩
   simp only [thenQ,blockQ,↓reduceIte]
   refine ⟨r_82++(bytesOf p_80.Data),hlt21,hnx_77 _ hm,?_⟩
   simp only [go_sem,simprocAttr,hw21,hxp_80]
   try exact se3
  ·obtain ⟨c_84,hm⟩:=chk_elim hm
   obtain ⟨r_85,hr_85,hm⟩:=call_elim hm
   obtain ⟨r_86,hr_86,hm⟩:=call_elim hm
   refine Wp.regD (plan:=pl [(0,none),(3,none),(4,none),(6,none),(7,none),(1,some [0,3,4,6,7]),(2,some [3,4,6,7]),(5,some [6,7]),(8,some []),(9,none)]) (by kernel_rfl) rfl (by kernel_rfl) fun K29 hK29=>?_
   simp only [go_sem,simprocAttr,hw21,hxp_80]
   try refine ⟨by first | exact sd | ((repeat' apply And.intro) <;> first | assumption | omega | (simp only [List.length_append,List.length_map,List.length_cons,List.length_nil,List.length_set,List.length_replicate] at c_84 ⊢; omega)),?_⟩
   refine Dr.of_br (Br.callS (av:=?av30) (o:=?o30) 1 [1] (ok_delta_putNumber_i1 p_80.At (o1_68++[0]) _ hr_85) (by simp only [go_sem,simprocAttr,hw21,hxp_80]; exact Is.mk) (by simp only [go_sem,simprocAttr,hw21,hxp_80]; exact Is.mk) (by simp only [go_sem,simprocAttr,hw21,hxp_80]; exact Is.mk) (by simp only [go_sem,simprocAttr,hw21,hxp_80]; exact Is.mk) (by simp only [go_sem,simprocAttr,hw21,hxp_80]; first | exact Is.mk | (simp only [List.map_append,List.map_cons,List.map_nil,eN_enc_delta_state,ecB,ecI_i64,ecI_u8,ecS,iN_enc_delta_state]; exact Is.mk)) (by simp only [go_sem,simprocAttr,hw21,hxp_80]) (by simp only [go_sem,simprocAttr,hw21,hxp_80]) (by simp only [go_sem,simprocAttr,hw21,hxp_80]) (by simp only [go_sem,simprocAttr,hw21,hxp_80]) ?cont30)
   simp only [go_sem,simprocAttr,hw21,hxp_80]
   try refine ⟨by first | exact sd | ((repeat' apply And.intro) <;> first | assumption | omega | (simp only [List.length_append,List.length_map,List.length_cons,List.length_nil,List.length_set,List.length_replicate] at c_84 ⊢; omega)),?_⟩
   refine Dr.of_br (Br.callS (av:=?av31) (o:=?o31) 1 [1] (ok_delta_putNumber_i1 p_80.Long r_85 _ hr_86) (by simp only [go_sem,simprocAttr,hw21,hxp_80]; exact Is.mk) (by simp only [go_sem,simprocAttr,hw21,hxp_80]; exact Is.mk) (by simp only [go_sem,simprocAttr,hw21,hxp_80]; exact Is.mk) (by simp only [go_sem,simprocAttr,hw21,hxp_80]; exact Is.mk) (by simp only [go_sem,simprocAttr,hw21,hxp_80]; exact Is.mk) (by simp only [go_sem,simprocAttr,hw21,hxp_80]) (by simp only [go_sem,simprocAttr,hw21,hxp_80]) (by simp only [go_sem,simprocAttr,hw21,hxp_80]) (by simp only [go_sem,simprocAttr,hw21,hxp_80]) ?cont31)
   simp only [go_sem,simprocAttr,hw21,hxp_80]
   first | apply hK29 | refine ⟨by first | exact sd | ((repeat' apply And.intro) <;> first | assumption | omega | (simp only [List.length_append,List.length_map,List.length_cons,List.length_nil,List.length_set,List.length_replicate] at c_84 ⊢; omega)),hK29 _ _ ?_⟩
   refine hK22 _ _ ?_
   refine Wp.region fun K32 hK32=>?_
   simp only [go_sem,simprocAttr,hw21,hxp_80]
   first | apply hK32 | refine ⟨sd,hK32 _ _ ?_⟩
   simp only [thenQ,blockQ,↓reduceIte]
   refine ⟨r_86,hlt21,hnx_77 _ hm,?_⟩
   simp only [go_sem,simprocAttr,hw21,hxp_80]
   try exact se3
theorem ok_delta_Cost (d_1:api_Delta) (z:Int × Int) (hm:delta_Cost d_1=some z):Does Tryd.prog 30 [.agg [.p (.i .i64 d_1.Old),.p (.i .i64 d_1.New),.p (.s d_1.OldSum),.p (.s d_1.NewSum),.p (.l (List.map enc_api_Piece d_1.Pieces))]] [] (fun r X=>r=.tup [.p (.i .i64 z.1),.p (.i .i64 z.2)]∧X=[]):=by
 unfold delta_Cost at hm
 refine Does.of_wp 0 14 [.tmp 2,.tmp 3] Tryd.func30 rfl (by decide) rfl rfl (Nat.le_of_ble_eq_true rfl) fun B=>?_
 refine qS ?_
 obtain ⟨r_2,hr_2,hm⟩:=call_elim hm
 refine Wp.seqR fun K2 hK2=>?_
 simp only [go_sem,simprocAttr]
 try refine ⟨sd,?_⟩
 refine Rg.callX (av:=?av3) (g:=true) (fun hg=>ok_delta_Print d_1 _ hr_2) si si si sg si ?cont3
 intro hv3
 simp only [go_sem,simprocAttr]
 first | apply hK2 | refine ⟨sd,hK2 _ _ ?_⟩
 refine qS ?_
 refine Wp.ret ?_
 refine retQ_ret ?_
 cases hm
 exact fse3
theorem ok_delta_CheckWays (l_1:List api_Way) (sizes_2:List Int) (z:Int) (hm:delta_CheckWays l_1 sizes_2=some z):Does Tryd.prog 73 [.p (.l (List.map enc_api_Way l_1)),.p (.l (List.map ecI_i64 sizes_2))] [] (fun r X=>r=.p (.i .i64 z)∧X=[]):=by
 unfold delta_CheckWays at hm
 refine Does.of_wp 0 58 [.tmp 4] Tryd.func73 rfl (by decide) rfl rfl (Nat.le_of_ble_eq_true rfl) fun B=>?_
 refine qS ?_
 refine Wp.seqW fun K2 hK2 hW2=>?_
 refine qS ?_
 refine cM hm (fun hc4 hm=>?_) (fun hc4 hm=>?_)
 ·refine qS ?_
  refine Wp.ret ?_
  refine retQ_ret ?_
  cases hm
  exact fse4
 ·refine Wp.skip ?_
  refine hK2 _ _ ?_
  refine Wp.seqW fun K6 hK6 hW6=>?_
  obtain ⟨k_12,hk_12,hm⟩:=jp_elim hm
  have hcut6:∀ s,k_12 s=some z→K6 [(0,.p (.l (List.map enc_api_Way l_1))),(1,.p (.l (List.map ecI_i64 sizes_2)))] []:=by
   intro s hs
   have hm:=hk_12 _ hs
   clear hs
   try dsimp only at hm
   try dsimp only
   refine hK6 _ _ ?_
   refine Wp.seqW fun K7 hK7 hW7=>?_
   obtain ⟨k_26,hk_26,hm⟩:=jp_elim hm
   have hcut7:∀ s,k_26 s=some z→K7 [] []:=by
    intro s hs
    have hm:=hk_26 _ hs
    clear hs
    try dsimp only at hm
    try dsimp only
    refine hK7 _ _ ?_
    refine qS ?_
    refine Wp.ret ?_
    refine retQ_ret ?_
    cases hm
    exact fse4
   clear hK7 hk_26
   refine qS ?_
   refine Wp.block ?_
   obtain ⟨k_32,hk_32,hm⟩:=forL_cont hm
   refine Wp.fact 26 fun hl_35=>?_
   replace hl_35:l_1.length≤274877906944:=by
    simp only [go_sem,simprocAttr,List.length_map] at hl_35
    omega
   refine Wp.forL (fun i_34 s=>[(1,.p (.l (List.map ecI_i64 sizes_2))),(26,.p (.l (List.map enc_api_Way l_1))),(27,.p (.i .i64 (l_1.length:Int))),(28,.p (.i .i64 (i_34:Int)))]) (fun i_34 s=>[]) ?_ hm ?_
   ·
    exact fse4
   clear hm
   intro i_34 s hii_34 hm
   try dsimp only at hm
   try dsimp only
   refine qS ?_
   refine Wp.seqW fun K11 hK11 hW11=>?_
   refine Wp.cond rfl ⟨⟩ (fun hc11=>?_) (fun hc11=>?_)
   rotate_left
   ·refine Wp.exit ?_
    have hm:=hk_32 _ (forL_end hm (ge_nat (by first | exact hc11 | simpa using hc11)))
    try dsimp only at hm
    refine hW7 _ _ _ _ ?_ (hcut7 () hm)
    exact fse4
   have hlt11:=lt_nat (by first | exact hc11 | simpa using hc11)
   have hw11:=wrap_succ hlt11 hl_35
   obtain ⟨w_36,nx_33,hxw_36,hyw_36,hnx_33,hm⟩:=forL_step hm hlt11
   replace hxw_36:=hxw_36 enc_api_Way
   refine Wp.skip ?_
   simp only [thenQ]
   refine hK11 _ _ ?_
   refine Wp.seqW fun K12 hK12 hW12=>?_
   refine Wp.block ?_
   refine Wp.seqR fun K13 hK13=>?_
   simp only [go_sem,simprocAttr,hw11,hxw_36]
   first | apply hK13 | refine ⟨sd,hK13 _ _ ?_⟩
   refine Wp.block ?_
   obtain ⟨r_37,hr_37,hm⟩:=call_elim hm
   obtain ⟨r_38,hr_38,hm⟩:=callG_elim hm
   refine Wp.seqR fun K14 hK14=>?_
   simp only [go_sem,simprocAttr,hw11,hxw_36]
   try refine ⟨sd,?_⟩
   refine Rg.callX (av:=?av15) (g:=true) (fun hg=>ok_delta_outside w_36.From 0 (IntKind.i64.wrap ((sizes_2.length:Int) - 1)) _ hr_37) (by simp only [go_sem,simprocAttr,hw11,hxw_36]; exact Is.mk) (by simp only [go_sem,simprocAttr,hw11,hxw_36]; exact Is.mk) (by simp only [go_sem,simprocAttr,hw11,hxw_36]; exact Is.mk) (by simp only [go_sem,simprocAttr,hw11,hxw_36]) (by simp only [go_sem,simprocAttr,hw11,hxw_36]; exact Is.mk) ?cont15
   intro hv15
   simp only [go_sem,simprocAttr,hw11,hxw_36]
   try refine ⟨sd,?_⟩
   refine Rg.callX (av:=?av16) (g:=!r_37) (fun hg=>ok_delta_outside w_36.To 0 (IntKind.i64.wrap ((sizes_2.length:Int) - 1)) _ (hr_38 hg)) (by simp only [go_sem,simprocAttr,hw11,hxw_36]; exact Is.mk) (by simp only [go_sem,simprocAttr,hw11,hxw_36]; exact Is.mk) (by simp only [go_sem,simprocAttr,hw11,hxw_36]; exact Is.mk) (by simp only [go_sem,simprocAttr,hw11,hxw_36]) (by simp only [go_sem,simprocAttr,hw11,hxw_36]; exact Is.mk) ?cont16
   intro hv16
   simp only [go_sem,simprocAttr,hw11,hxw_36]
   first | apply hK14 | refine ⟨sd,hK14 _ _ ?_⟩
   refine cM hm (fun hc17 hm=>?_) (fun hc17 hm=>?_)
   ·refine Wp.seqR fun K18 hK18=>?_
    simp only [go_sem,simprocAttr,hw11,hxw_36]
    first | apply hK18 | refine ⟨sd,hK18 _ _ ?_⟩
    refine Wp.ret ?_
    refine retQ_ret ?_
    cases hm
    simp only [go_sem,simprocAttr,hw11,hxw_36]
    try exact se4
   ·refine Wp.seqR fun K19 hK19=>?_
    simp only [go_sem,simprocAttr,hw11,hxw_36]
    first | apply hK19 | refine ⟨sd,hK19 _ _ ?_⟩
    refine cM hm (fun hc20 hm=>?_) (fun hc20 hm=>?_)
    ·refine Wp.seqR fun K21 hK21=>?_
     simp only [go_sem,simprocAttr,hw11,hxw_36]
     first | apply hK21 | refine ⟨sd,hK21 _ _ ?_⟩
     refine Wp.ret ?_
     refine retQ_ret ?_
     cases hm
     simp only [go_sem,simprocAttr,hw11,hxw_36]
     try exact se4
    ·obtain ⟨r_39,hr_39,hm⟩:=call_elim hm
     refine Wp.seqR fun K22 hK22=>?_
     simp only [go_sem,simprocAttr,hw11,hxw_36]
     try refine ⟨sd,?_⟩
     refine Rg.callX (av:=?av23) (g:=true) (fun hg=>ok_delta_outside w_36.Cost 0 1000000000 _ hr_39) (by simp only [go_sem,simprocAttr,hw11,hxw_36]; exact Is.mk) (by simp only [go_sem,simprocAttr,hw11,hxw_36]; exact Is.mk) (by simp only [go_sem,simprocAttr,hw11,hxw_36]; exact Is.mk) (by simp only [go_sem,simprocAttr,hw11,hxw_36]) (by simp only [go_sem,simprocAttr,hw11,hxw_36]; exact Is.mk) ?cont23
     intro hv23
     simp only [go_sem,simprocAttr,hw11,hxw_36]
     first | apply hK22 | refine ⟨sd,hK22 _ _ ?_⟩
     refine cM hm (fun hc24 hm=>?_) (fun hc24 hm=>?_)
     ·refine Wp.seqR fun K25 hK25=>?_
      simp only [go_sem,simprocAttr,hw11,hxw_36]
      first | apply hK25 | refine ⟨sd,hK25 _ _ ?_⟩
      refine Wp.ret ?_
      refine retQ_ret ?_
      cases hm
      simp only [go_sem,simprocAttr,hw11,hxw_36]
      try exact se4
     ·refine Wp.skip ?_
      refine hK12 _ _ ?_
      refine Wp.region fun K26 hK26=>?_
      simp only [go_sem,simprocAttr,hw11,hxw_36]
      first | apply hK26 | refine ⟨sd,hK26 _ _ ?_⟩
      simp only [thenQ,blockQ,↓reduceIte]
      refine ⟨(),hlt11,hnx_33 _ hm,?_⟩
      simp only [go_sem,simprocAttr,hw11,hxw_36]
      try exact se4
  clear hK6 hk_12
  refine qS ?_
  refine Wp.block ?_
  obtain ⟨k_43,hk_43,hm⟩:=forL_cont hm
  refine Wp.fact 1 fun hl_46=>?_
  replace hl_46:sizes_2.length≤274877906944:=by
   simp only [go_sem,simprocAttr,List.length_map] at hl_46
   omega
  refine Wp.forL (fun i_45 s=>[(0,.p (.l (List.map enc_api_Way l_1))),(1,.p (.l (List.map ecI_i64 sizes_2))),(17,.p (.l (List.map ecI_i64 sizes_2))),(18,.p (.i .i64 (sizes_2.length:Int))),(19,.p (.i .i64 (i_45:Int)))]) (fun i_45 s=>[]) ?_ hm ?_
  ·
   exact fse4
  clear hm
  intro i_45 s hii_45 hm
  try dsimp only at hm
  try dsimp only
  refine qS ?_
  refine Wp.seqW fun K29 hK29 hW29=>?_
  refine Wp.cond rfl ⟨⟩ (fun hc29=>?_) (fun hc29=>?_)
  rotate_left
  ·refine Wp.exit ?_
   have hm:=hk_43 _ (forL_end hm (ge_nat (by first | exact hc29 | simpa using hc29)))
   try dsimp only at hm
   refine hW6 _ _ _ _ ?_ (hcut6 () hm)
   exact fse4
  have hlt29:=lt_nat (by first | exact hc29 | simpa using hc29)
  have hw29:=wrap_succ hlt29 hl_46
  obtain ⟨n_47,nx_44,hxn_47,hyn_47,hnx_44,hm⟩:=forL_step hm hlt29
  replace hxn_47:=hxn_47 ecI_i64
  refine Wp.skip ?_
  simp only [thenQ]
  refine hK29 _ _ ?_
  refine Wp.seqW fun K30 hK30 hW30=>?_
  refine Wp.block ?_
  refine Wp.seqR fun K31 hK31=>?_
  simp only [go_sem,simprocAttr,hw29,hxn_47]
  first | apply hK31 | refine ⟨sd,hK31 _ _ ?_⟩
  obtain ⟨r_48,hr_48,hm⟩:=call_elim hm
  refine Wp.seqR fun K32 hK32=>?_
  simp only [go_sem,simprocAttr,hw29,hxn_47]
  try refine ⟨sd,?_⟩
  refine Rg.callX (av:=?av33) (g:=true) (fun hg=>ok_delta_outside n_47 0 1000000000 _ hr_48) (by simp only [go_sem,simprocAttr,hw29,hxn_47]; exact Is.mk) (by simp only [go_sem,simprocAttr,hw29,hxn_47]; exact Is.mk) (by simp only [go_sem,simprocAttr,hw29,hxn_47]; exact Is.mk) (by simp only [go_sem,simprocAttr,hw29,hxn_47]) (by simp only [go_sem,simprocAttr,hw29,hxn_47]; exact Is.mk) ?cont33
  intro hv33
  simp only [go_sem,simprocAttr,hw29,hxn_47]
  first | apply hK32 | refine ⟨sd,hK32 _ _ ?_⟩
  refine cM hm (fun hc34 hm=>?_) (fun hc34 hm=>?_)
  ·refine Wp.seqR fun K35 hK35=>?_
   simp only [go_sem,simprocAttr,hw29,hxn_47]
   first | apply hK35 | refine ⟨sd,hK35 _ _ ?_⟩
   refine Wp.ret ?_
   refine retQ_ret ?_
   cases hm
   simp only [go_sem,simprocAttr,hw29,hxn_47]
   try exact se4
  ·refine Wp.skip ?_
   refine hK30 _ _ ?_
   refine Wp.region fun K36 hK36=>?_
   simp only [go_sem,simprocAttr,hw29,hxn_47]
   first | apply hK36 | refine ⟨sd,hK36 _ _ ?_⟩
   simp only [thenQ,blockQ,↓reduceIte]
   refine ⟨(),hlt29,hnx_44 _ hm,?_⟩
   simp only [go_sem,simprocAttr,hw29,hxn_47]
   try exact se4
theorem ok_cmp_isNaN_int (x_1:Int) (z:Bool) (hm:cmp_isNaN_int x_1=some z):Does Tryd.prog 120 [.p (.i .i64 x_1)] [] (fun r X=>r=.p (.b z)∧X=[]):=by
 unfold cmp_isNaN_int at hm
 refine Does.of_wp 0 6 [.tmp 2] Tryd.func120 rfl (by decide) rfl rfl (Nat.le_of_ble_eq_true rfl) fun B=>?_
 refine qS ?_
 refine qS ?_
 refine Wp.ret ?_
 refine retQ_ret ?_
 cases hm
 exact fse5
theorem ok_cmp_Compare_int (x_1:Int) (y_2:Int) (z:Int) (hm:cmp_Compare_int x_1 y_2=some z):Does Tryd.prog 109 [.p (.i .i64 x_1),.p (.i .i64 y_2)] [] (fun r X=>r=.p (.i .i64 z)∧X=[]):=by
 unfold cmp_Compare_int at hm
 refine Does.of_wp 0 20 [.tmp 4] Tryd.func109 rfl (by decide) rfl rfl (Nat.le_of_ble_eq_true rfl) fun B=>?_
 refine qS ?_
 obtain ⟨r_3,hr_3,hm⟩:=call_elim hm
 refine Wp.seqR fun K2 hK2=>?_
 simp only [go_sem,simprocAttr]
 try refine ⟨sd,?_⟩
 refine Rg.callX (av:=?av3) (g:=true) (fun hg=>ok_cmp_isNaN_int x_1 _ hr_3) si si si sg si ?cont3
 intro hv3
 simp only [go_sem,simprocAttr]
 first | apply hK2 | refine ⟨sd,hK2 _ _ ?_⟩
 obtain ⟨r_4,hr_4,hm⟩:=call_elim hm
 refine Wp.seqR fun K4 hK4=>?_
 simp only [go_sem,simprocAttr]
 try refine ⟨sd,?_⟩
 refine Rg.callX (av:=?av5) (g:=true) (fun hg=>ok_cmp_isNaN_int y_2 _ hr_4) si si si sg si ?cont5
 intro hv5
 simp only [go_sem,simprocAttr]
 first | apply hK4 | refine ⟨sd,hK4 _ _ ?_⟩
 refine Wp.seqW fun K6 hK6 hW6=>?_
 refine qS ?_
 refine cM hm (fun hc8 hm=>?_) (fun hc8 hm=>?_)
 ·refine Wp.seqW fun K9 hK9 hW9=>?_
  refine qS ?_
  refine cM hm (fun hc11 hm=>?_) (fun hc11 hm=>?_)
  ·refine qS ?_
   refine Wp.ret ?_
   refine retQ_ret ?_
   cases hm
   exact fse5
  ·refine Wp.skip ?_
   refine hK9 _ _ ?_
   refine qS ?_
   refine Wp.ret ?_
   refine retQ_ret ?_
   cases hm
   exact fse5
 ·refine Wp.skip ?_
  refine hK6 _ _ ?_
  refine Wp.seqW fun K14 hK14 hW14=>?_
  refine qS ?_
  refine cM hm (fun hc16 hm=>?_) (fun hc16 hm=>?_)
  ·refine qS ?_
   refine Wp.ret ?_
   refine retQ_ret ?_
   cases hm
   exact fse5
  ·refine Wp.skip ?_
   refine hK14 _ _ ?_
   refine Wp.seqW fun K18 hK18 hW18=>?_
   refine qS ?_
   refine cM hm (fun hc20 hm=>?_) (fun hc20 hm=>?_)
   ·refine qS ?_
    refine Wp.ret ?_
    refine retQ_ret ?_
    cases hm
    exact fse5
   ·refine Wp.skip ?_
    refine hK18 _ _ ?_
    refine Wp.seqW fun K22 hK22 hW22=>?_
    refine qS ?_
    refine cM hm (fun hc24 hm=>?_) (fun hc24 hm=>?_)
    ·refine qS ?_
     refine Wp.ret ?_
     refine retQ_ret ?_
     cases hm
     exact fse5
    ·refine Wp.skip ?_
     refine hK22 _ _ ?_
     refine qS ?_
     refine Wp.ret ?_
     refine retQ_ret ?_
     cases hm
     exact fse5
theorem ok_slices_Compare_int_int (s1_1:List Int) (s2_2:List Int) (z:Int) (hm:slices_Compare_int_int s1_1 s2_2=some z):Does Tryd.prog 110 [.p (.l (List.map ecI_i64 s1_1)),.p (.l (List.map ecI_i64 s2_2))] [] (fun r X=>r=.p (.i .i64 z)∧X=[]):=by
 unfold slices_Compare_int_int at hm
 refine Does.of_wp 0 36 [.tmp 4] Tryd.func110 rfl (by decide) rfl rfl (Nat.le_of_ble_eq_true rfl) fun B=>?_
 refine qS ?_
 refine Wp.seqW fun K2 hK2 hW2=>?_
 obtain ⟨k_14,hk_14,hm⟩:=jp_elim hm
 have hcut2:∀ s,k_14 s=some z→K2 [(0,.p (.l (List.map ecI_i64 s1_1))),(1,.p (.l (List.map ecI_i64 s2_2)))] []:=by
  intro s hs
  have hm:=hk_14 _ hs
  clear hs
  try dsimp only at hm
  try dsimp only
  refine hK2 _ _ ?_
  refine Wp.seqW fun K3 hK3 hW3=>?_
  refine qS ?_
  refine cM hm (fun hc5 hm=>?_) (fun hc5 hm=>?_)
  ·refine qS ?_
   refine Wp.ret ?_
   refine retQ_ret ?_
   cases hm
   exact fse5
  ·refine Wp.skip ?_
   refine hK3 _ _ ?_
   refine qS ?_
   refine Wp.ret ?_
   refine retQ_ret ?_
   cases hm
   exact fse5
 clear hK2 hk_14
 refine qS ?_
 refine Wp.block ?_
 obtain ⟨k_19,hk_19,hm⟩:=forL_cont hm
 refine Wp.fact 0 fun hl_22=>?_
 replace hl_22:s1_1.length≤274877906944:=by
  simp only [go_sem,simprocAttr,List.length_map] at hl_22
  omega
 refine Wp.forL (fun i_21 s=>[(0,.p (.l (List.map ecI_i64 s1_1))),(1,.p (.l (List.map ecI_i64 s2_2))),(9,.p (.l (List.map ecI_i64 s1_1))),(10,.p (.i .i64 (s1_1.length:Int))),(11,.p (.i .i64 (i_21:Int)))]) (fun i_21 s=>[]) ?_ hm ?_
 ·
  exact fse5
 clear hm
 intro i_21 s hii_21 hm
 try dsimp only at hm
 try dsimp only
 refine qS ?_
 refine Wp.seqW fun K10 hK10 hW10=>?_
 refine Wp.cond rfl ⟨⟩ (fun hc10=>?_) (fun hc10=>?_)
 rotate_left
 ·refine Wp.exit ?_
  have hm:=hk_19 _ (forL_end hm (ge_nat (by first | exact hc10 | simpa using hc10)))
  try dsimp only at hm
  refine hW2 _ _ _ _ ?_ (hcut2 () hm)
  exact fse5
 have hlt10:=lt_nat (by first | exact hc10 | simpa using hc10)
 have hw10:=wrap_succ hlt10 hl_22
 obtain ⟨n_23,nx_20,hxn_23,hyn_23,hnx_20,hm⟩:=forL_step hm hlt10
 replace hxn_23:=hxn_23 ecI_i64
 refine Wp.skip ?_
 simp only [thenQ]
 refine hK10 _ _ ?_
 refine Wp.seqW fun K11 hK11 hW11=>?_
 refine Wp.block ?_
 refine Wp.seqR fun K12 hK12=>?_
 simp only [go_sem,simprocAttr,hw10,hxn_23]
 first | apply hK12 | refine ⟨sd,hK12 _ _ ?_⟩
 refine Wp.seqW fun K13 hK13 hW13=>?_
 refine Wp.seqR fun K14 hK14=>?_
 simp only [go_sem,simprocAttr,hw10,hxn_23]
 first | apply hK14 | refine ⟨sd,hK14 _ _ ?_⟩
 refine cM hm (fun hc15 hm=>?_) (fun hc15 hm=>?_)
 ·refine Wp.seqR fun K16 hK16=>?_
  simp only [go_sem,simprocAttr,hw10,hxn_23]
  first | apply hK16 | refine ⟨sd,hK16 _ _ ?_⟩
  refine Wp.ret ?_
  refine retQ_ret ?_
  cases hm
  simp only [go_sem,simprocAttr,hw10,hxn_23]
  try exact se5
 ·refine Wp.skip ?_
  refine hK13 _ _ ?_
  obtain ⟨n_24,hbn_24,hxn_24,hyn_24,hm⟩:=idx_elim hm
  replace hxn_24:∀ d,(List.map ecI_i64 s2_2).getD i_21 d=ecI_i64 n_24:=hxn_24 ecI_i64
  refine Wp.seqR fun K17 hK17=>?_
  simp only [go_sem,simprocAttr,hw10,hxn_23,hxn_24]
  first | apply hK17 | refine ⟨sd,hK17 _ _ ?_⟩
  obtain ⟨r_25,hr_25,hm⟩:=call_elim hm
  refine Wp.seqR fun K18 hK18=>?_
  simp only [go_sem,simprocAttr,hw10,hxn_23,hxn_24]
  try refine ⟨sd,?_⟩
  refine Rg.callX (av:=?av19) (g:=true) (fun hg=>ok_cmp_Compare_int n_23 n_24 _ hr_25) (by simp only [go_sem,simprocAttr,hw10,hxn_23,hxn_24]; exact Is.mk) (by simp only [go_sem,simprocAttr,hw10,hxn_23,hxn_24]; exact Is.mk) (by simp only [go_sem,simprocAttr,hw10,hxn_23,hxn_24]; exact Is.mk) (by simp only [go_sem,simprocAttr,hw10,hxn_23,hxn_24]) (by simp only [go_sem,simprocAttr,hw10,hxn_23,hxn_24]; exact Is.mk) ?cont19
  intro hv19
  simp only [go_sem,simprocAttr,hw10,hxn_23,hxn_24]
  first | apply hK18 | refine ⟨sd,hK18 _ _ ?_⟩
  refine Wp.seqR fun K20 hK20=>?_
  simp only [go_sem,simprocAttr,hw10,hxn_23,hxn_24]
  first | apply hK20 | refine ⟨sd,hK20 _ _ ?_⟩
  refine cM hm (fun hc21 hm=>?_) (fun hc21 hm=>?_)
  ·refine Wp.seqR fun K22 hK22=>?_
   simp only [go_sem,simprocAttr,hw10,hxn_23,hxn_24]
   first | apply hK22 | refine ⟨sd,hK22 _ _ ?_⟩
   refine Wp.ret ?_
   refine retQ_ret ?_
   cases hm
   simp only [go_sem,simprocAttr,hw10,hxn_23,hxn_24]
   try exact se5
  ·refine Wp.skip ?_
   refine hK11 _ _ ?_
   refine Wp.region fun K23 hK23=>?_
   simp only [go_sem,simprocAttr,hw10,hxn_23,hxn_24]
   first | apply hK23 | refine ⟨sd,hK23 _ _ ?_⟩
   simp only [thenQ,blockQ,↓reduceIte]
   refine ⟨(),hlt10,hnx_20 _ hm,?_⟩
   simp only [go_sem,simprocAttr,hw10,hxn_23,hxn_24]
   try exact se5
end Go.Proofs.YtkekfenkeeiigaaDoor
