/- That the code does what the models say (part 3). -/
import Derived.Test.YthofobeoaimclaaDoorDpWk0
import Derived.Test.YthofobeoaimclaaDoorDpWk1
import Derived.Test.YthofobeoaimclaaDoorDpWk2
set_option linter.unusedSimpArgs false
set_option linter.unusedVariables false
open Go.Proofs Go.Shelf
namespace Go.Proofs.YthofobeoaimclaaDoor
open Go.Vc Go.Md
set_option maxRecDepth 100000
set_option maxHeartbeats 4000000
theorem ok_internal_strconv_ParseUint (s_1 : Str) (base_2 : Int) (bitSize_3 : Int) (z : Int) (hm : internal_strconv_ParseUint s_1 base_2 bitSize_3 = some z) : Does Tryd.prog 125 [.p (.s s_1), .p (.i .i64 base_2), .p (.i .i64 bitSize_3)] [] (fun r X => r = .tup [.p (.i .u64 z), .raw .nilIface] ∧ X = []) := by
 unfold internal_strconv_ParseUint at hm
 refine Does.of_wp 0 172 [.tmp 6, .tmp 7] Tryd.func125 rfl (by decide) rfl rfl (Nat.le_of_ble_eq_true rfl) fun B => ?_
 refine qS ?_
 refine Wp.seqW fun K2 hK2 hW2 => ?_
 refine qS ?_
 refine cM hm (fun hc4 hm => ?_) (fun hc4 hm => ?_)
 ·cases hm
 ·refine Wp.skip ?_
  refine hK2 _ _ ?_
  refine qS ?_
  refine qS ?_
  refine Wp.seqW fun K7 hK7 hW7 => ?_
  obtain ⟨k_107, hk_107, hm⟩ := jp_elim hm
  have hcut7 : ∀ s, k_107 s = some z → K7 [(0, .p (.s s.1)), (1, .p (.i .i64 s.2)), (2, .p (.i .i64 bitSize_3)), (8, .p (.b (decide (base_2 = 0)))), (9, .p (.s s_1))] [] := by
   intro s hs
   have hm := hk_107 _ hs
   clear hs
   obtain ⟨s_105, base_106⟩ := s
   try dsimp only at hm
   try dsimp only
   refine hK7 _ _ ?_
   refine Wp.seqW fun K8 hK8 hW8 => ?_
   obtain ⟨k_109, hk_109, hm⟩ := jp_elim hm
   have hcut8 : ∀ s, k_109 s = some z → K8 [(0, .p (.s s_105)), (1, .p (.i .i64 base_106)), (2, .p (.i .i64 s)), (8, .p (.b (decide (base_2 = 0)))), (9, .p (.s s_1))] [] := by
    intro bitSize_108 hs
    have hm := hk_109 _ hs
    clear hs
    try dsimp only at hm
    try dsimp only
    refine hK8 _ _ ?_
    refine qS ?_
    refine Wp.seqW fun K10 hK10 hW10 => ?_
    obtain ⟨k_112, hk_112, hm⟩ := jp_elim hm
    have hcut10 : ∀ s, k_112 s = some z → K10 [(0, .p (.s s_105)), (1, .p (.i .i64 base_106)), (2, .p (.i .i64 bitSize_108)), (8, .p (.b (decide (base_2 = 0)))), (9, .p (.s s_1)), (10, .p (.i .u64 s))] [] := by
     intro cutoff_111 hs
     have hm := hk_112 _ hs
     clear hs
     try dsimp only at hm
     try dsimp only
     refine hK10 _ _ ?_
     obtain ⟨c_113, hm⟩ := chk_elim hm
     refine Wp.seqR fun K11 hK11 => ?_
     simp only [go_sem, simprocAttr]
     first | apply hK11 | refine ⟨by first | exact sd | ((repeat' apply And.intro) <;> first | assumption | omega | (simp only [List.length_append, List.length_map, List.length_cons, List.length_nil, List.length_set, List.length_replicate] at c_113 ⊢; omega)), hK11 _ _ ?_⟩
     refine qS ?_
     refine qS ?_
     refine Wp.seqW fun K14 hK14 hW14 => ?_
     obtain ⟨k_143, hk_143, hm⟩ := jp_elim hm
     have hcut14 : ∀ s, k_143 s = some z → K14 [(9, .p (.s s_1)), (12, .p (.b s.1)), (13, .p (.i .u64 s.2))] [] := by
      intro s hs
      have hm := hk_143 _ hs
      clear hs
      obtain ⟨underscores_141, n_142⟩ := s
      try dsimp only at hm
      try dsimp only
      refine hK14 _ _ ?_
      refine Wp.seqW fun K15 hK15 hW15 => ?_
      obtain ⟨r_144, hr_144, hm⟩ := callG_elim hm
      refine Wp.seqR fun K16 hK16 => ?_
      simp only [go_sem, simprocAttr]
      try refine ⟨sd, ?_⟩
      refine Rg.callX (av := ?av17) (g := underscores_141) (fun hg => ok_internal_strconv_underscoreOK s_1 _ (hr_144 hg)) si si si sg si ?cont17
      intro hv17
      simp only [go_sem, simprocAttr]
      first | apply hK16 | refine ⟨sd, hK16 _ _ ?_⟩
      refine cM hm (fun hc18 hm => ?_) (fun hc18 hm => ?_)
      ·cases hm
      ·refine Wp.skip ?_
       refine hK15 _ _ ?_
       refine qS ?_
       refine Wp.ret ?_
       refine retQ_ret ?_
       cases hm
       exact fse2
     clear hK14 hk_143
     refine qS ?_
     refine Wp.block ?_
     obtain ⟨k_158, hk_158, hm⟩ := forC_cont hm
     refine Wp.factO 0 fun hl_161 => ?_
     replace hl_161 : s_105.length ≤ 274877906944 := by
      simp only [go_sem, simprocAttr, List.length_map] at hl_161
      omega
     refine Wp.forC (fun i_160 s => [(1, .p (.i .i64 base_106)), (8, .p (.b (decide (base_2 = 0)))), (9, .p (.s s_1)), (10, .p (.i .u64 cutoff_111)), (11, .p (.i .u64 (IntKind.u64.wrap ((IntKind.u64.wrap (1 * 2 ^ (shI .u64 (IntKind.u64.wrap bitSize_108)))) - 1)))), (12, .p (.b s.1)), (13, .p (.i .u64 s.2)), (99, .buf 0), (100, .p (.i .i64 (s_105.length : Int))), (101, .p (.i .i64 (i_160 : Int)))]) (fun i_160 s => [.buf 5 1 (List.map ecI_u8 (bytesOf s_105))]) ?_ hm ?_
     ·
      exact fse2
     clear hm
     intro i_160 s hii_160 hm
     obtain ⟨underscores_145, n_146⟩ := s
     try dsimp only at hm
     try dsimp only
     refine qS ?_
     refine Wp.seqW fun K22 hK22 hW22 => ?_
     refine Wp.cond rfl ⟨⟩ (fun hc22 => ?_) (fun hc22 => ?_)
     rotate_left
     ·refine Wp.exit ?_
      have hm := hk_158 _ (forC_end hm (ge_nat (by first | exact hc22 | simpa using hc22)))
      try dsimp only at hm
      refine hW14 _ _ _ _ ?_ (hcut14 (underscores_145, n_146) hm)
      exact fse2
     have hlt22 := lt_nat (by first | exact hc22 | simpa using hc22)
     have hw22 := wrap_succ hlt22 hl_161
     obtain ⟨nx_159, hnx_159, hm⟩ := forC_step hm hlt22
     refine Wp.skip ?_
     simp only [thenQ]
     refine hK22 _ _ ?_
     refine Wp.seqW fun K23 hK23 hW23 => ?_
     refine Wp.block ?_
     have hr_163 := fun h => getD_encB (l := bytesOf s_105) (e := ecI_u8) (d := 0) (i := i_160) h []
     refine Wp.seqR fun K24 hK24 => ?_
     simp only [go_sem, simprocAttr, hw22, hr_163 (by simp only [bytesOf_length]; omega)]
     first | apply hK24 | refine ⟨sd, hK24 _ _ ?_⟩
     refine Wp.seqR fun K25 hK25 => ?_
     simp only [go_sem, simprocAttr, hw22]
     first | apply hK25 | refine ⟨sd, hK25 _ _ ?_⟩
     refine Wp.seqW fun K26 hK26 hW26 => ?_
     obtain ⟨k_168, hk_168, hm⟩ := jp_elim hm
     have hcut26 : ∀ s, k_168 s = some z → K26 [(1, .p (.i .i64 base_106)), (8, .p (.b (decide (base_2 = 0)))), (9, .p (.s s_1)), (10, .p (.i .u64 cutoff_111)), (11, .p (.i .u64 (IntKind.u64.wrap ((IntKind.u64.wrap (1 * 2 ^ (shI .u64 (IntKind.u64.wrap bitSize_108)))) - 1)))), (12, .p (.b underscores_145)), (13, .p (.i .u64 n_146)), (16, .p (.i .u8 s)), (99, .buf 0), (100, .p (.i .i64 (s_105.length : Int))), (101, .p (.i .i64 (i_160 : Int)))] [.buf 5 1 (List.map ecI_u8 (bytesOf s_105))] := by
      intro d_167 hs
      have hm := hk_168 _ hs
      clear hs
      try dsimp only at hm
      try dsimp only
      refine hK26 _ _ ?_
      refine Wp.seqW fun K27 hK27 hW27 => ?_
      refine Wp.seqR fun K28 hK28 => ?_
      simp only [go_sem, simprocAttr, hw22]
      first | apply hK28 | refine ⟨sd, hK28 _ _ ?_⟩
      refine cM hm (fun hc29 hm => ?_) (fun hc29 hm => ?_)
      ·cases hm
      ·refine Wp.skip ?_
       refine hK27 _ _ ?_
       refine Wp.seqW fun K30 hK30 hW30 => ?_
       refine Wp.seqR fun K31 hK31 => ?_
       simp only [go_sem, simprocAttr, hw22]
       first | apply hK31 | refine ⟨sd, hK31 _ _ ?_⟩
       refine cM hm (fun hc32 hm => ?_) (fun hc32 hm => ?_)
       ·cases hm
       ·refine Wp.skip ?_
        refine hK30 _ _ ?_
        refine Wp.seqR fun K33 hK33 => ?_
        simp only [go_sem, simprocAttr, hw22]
        first | apply hK33 | refine ⟨sd, hK33 _ _ ?_⟩
        refine Wp.seqR fun K34 hK34 => ?_
        simp only [go_sem, simprocAttr, hw22]
        first | apply hK34 | refine ⟨sd, hK34 _ _ ?_⟩
        refine Wp.seqW fun K35 hK35 hW35 => ?_
        refine Wp.seqR fun K36 hK36 => ?_
        simp only [go_sem, simprocAttr, hw22]
        first | apply hK36 | refine ⟨sd, hK36 _ _ ?_⟩
        refine cM hm (fun hc37 hm => ?_) (fun hc37 hm => ?_)
        ·cases hm
        ·refine Wp.skip ?_
         refine hK35 _ _ ?_
         refine Wp.region fun K38 hK38 => ?_
         simp only [go_sem, simprocAttr, hw22]
         first | apply hK38 | refine ⟨sd, hK38 _ _ ?_⟩
         refine hK23 _ _ ?_
         refine Wp.region fun K39 hK39 => ?_
         simp only [go_sem, simprocAttr, hw22]
         first | apply hK39 | refine ⟨sd, hK39 _ _ ?_⟩
         simp only [thenQ, blockQ, ↓reduceIte]
         refine ⟨(underscores_145, IntKind.u64.wrap ((IntKind.u64.wrap (n_146 * (IntKind.u64.wrap base_106))) + (IntKind.u64.wrap d_167))), hlt22, hnx_159 _ hm, ?_⟩
         simp only [go_sem, simprocAttr, hw22]
         try exact se2
     clear hK26 hk_168
     refine Wp.block ?_
     refine Wp.seqR fun K40 hK40 => ?_
     simp only [go_sem, simprocAttr, hw22]
     first | apply hK40 | refine ⟨sd, hK40 _ _ ?_⟩
     refine cM hm (fun hc41 hm => ?_) (fun hc41 hm => ?_)
     ·refine Wp.seqR fun K42 hK42 => ?_
      simp only [go_sem, simprocAttr, hw22]
      first | apply hK42 | refine ⟨sd, hK42 _ _ ?_⟩
      refine Wp.exit ?_
      refine hK23 _ _ ?_
      refine Wp.region fun K43 hK43 => ?_
      simp only [go_sem, simprocAttr, hw22]
      first | apply hK43 | refine ⟨sd, hK43 _ _ ?_⟩
      simp only [thenQ, blockQ, ↓reduceIte]
      refine ⟨(true, n_146), hlt22, hnx_159 _ hm, ?_⟩
      simp only [go_sem, simprocAttr, hw22]
      try exact se2
     ·refine Wp.seqR fun K44 hK44 => ?_
      simp only [go_sem, simprocAttr, hw22]
      first | apply hK44 | refine ⟨sd, hK44 _ _ ?_⟩
      refine cM hm (fun hc45 hm => ?_) (fun hc45 hm => ?_)
      ·refine Wp.region fun K46 hK46 => ?_
       simp only [go_sem, simprocAttr, hw22]
       first | apply hK46 | refine ⟨sd, hK46 _ _ ?_⟩
       refine hW26 _ _ _ _ ?_ (hcut26 (IntKind.u8.wrap (((bytesOf s_105).getD i_160 0) - 48)) hm)
       simp only [go_sem, simprocAttr, hw22]
       try exact se2
      ·obtain ⟨r_169, hr_169, hm⟩ := call_elim hm
       obtain ⟨r_170, hr_170, hm⟩ := callG_elim hm
       refine Wp.seqR fun K47 hK47 => ?_
       simp only [go_sem, simprocAttr, hw22]
       try refine ⟨sd, ?_⟩
       refine Rg.callX (av := ?av48) (g := true) (fun hg => ok_internal_strconv_lower ((bytesOf s_105).getD i_160 0) _ hr_169) (by simp only [go_sem, simprocAttr, hw22]; exact Is.mk) (by simp only [go_sem, simprocAttr, hw22]; exact Is.mk) (by simp only [go_sem, simprocAttr, hw22]; exact Is.mk) (by simp only [go_sem, simprocAttr, hw22]) (by simp only [go_sem, simprocAttr, hw22]; exact Is.mk) ?cont48
       intro hv48
       simp only [go_sem, simprocAttr, hw22]
       try refine ⟨sd, ?_⟩
       refine Rg.callX (av := ?av49) (g := decide (97 ≤ r_169)) (fun hg => ok_internal_strconv_lower ((bytesOf s_105).getD i_160 0) _ (hr_170 hg)) (by simp only [go_sem, simprocAttr, hw22]; exact Is.mk) (by simp only [go_sem, simprocAttr, hw22]; exact Is.mk) (by simp only [go_sem, simprocAttr, hw22]; exact Is.mk) (by simp only [go_sem, simprocAttr, hw22]) (by simp only [go_sem, simprocAttr, hw22]; exact Is.mk) ?cont49
       intro hv49
       simp only [go_sem, simprocAttr, hw22]
       first | apply hK47 | refine ⟨sd, hK47 _ _ ?_⟩
       refine cM hm (fun hc50 hm => ?_) (fun hc50 hm => ?_)
       ·obtain ⟨r_171, hr_171, hm⟩ := call_elim hm
        refine Wp.region fun K51 hK51 => ?_
        simp only [go_sem, simprocAttr, hw22]
        try refine ⟨sd, ?_⟩
        refine Rg.callX (av := ?av52) (g := true) (fun hg => ok_internal_strconv_lower ((bytesOf s_105).getD i_160 0) _ hr_171) (by simp only [go_sem, simprocAttr, hw22]; exact Is.mk) (by simp only [go_sem, simprocAttr, hw22]; exact Is.mk) (by simp only [go_sem, simprocAttr, hw22]; exact Is.mk) (by simp only [go_sem, simprocAttr, hw22]) (by simp only [go_sem, simprocAttr, hw22]; exact Is.mk) ?cont52
        intro hv52
        simp only [go_sem, simprocAttr, hw22]
        first | apply hK51 | refine ⟨sd, hK51 _ _ ?_⟩
        refine hW26 _ _ _ _ ?_ (hcut26 (IntKind.u8.wrap ((IntKind.u8.wrap (r_171 - 97)) + 10)) hm)
        simp only [go_sem, simprocAttr, hw22]
        try exact se2
       ·cases hm
    clear hK10 hk_112
    refine qS ?_
    refine Wp.block ?_
    refine qS ?_
    refine cM hm (fun hc55 hm => ?_) (fun hc55 hm => ?_)
    ·refine qR ?_
     refine hW10 _ _ _ _ ?_ (hcut10 1844674407370955162 hm)
     exact fse2
    ·refine qS ?_
     refine cM hm (fun hc58 hm => ?_) (fun hc58 hm => ?_)
     ·refine qR ?_
      refine hW10 _ _ _ _ ?_ (hcut10 1152921504606846976 hm)
      exact fse2
     ·obtain ⟨c_172, hm⟩ := chk_elim hm
      refine Wp.region fun K60 hK60 => ?_
      simp only [go_sem, simprocAttr]
      first | apply hK60 | refine ⟨by first | exact sd | ((repeat' apply And.intro) <;> first | assumption | omega | (simp only [List.length_append, List.length_map, List.length_cons, List.length_nil, List.length_set, List.length_replicate] at c_172 ⊢; omega)), hK60 _ _ ?_⟩
      refine hW10 _ _ _ _ ?_ (hcut10 (IntKind.u64.wrap ((IntKind.u64.wrap (Int.tdiv 18446744073709551615 (IntKind.u64.wrap base_106))) + 1)) hm)
      exact fse2
   clear hK8 hk_109
   refine qS ?_
   refine cM hm (fun hc62 hm => ?_) (fun hc62 hm => ?_)
   ·refine qR ?_
    refine hW8 _ _ _ _ ?_ (hcut8 64 hm)
    exact fse2
   ·refine qS ?_
    refine cM hm (fun hc65 hm => ?_) (fun hc65 hm => ?_)
    ·cases hm
    ·refine Wp.skip ?_
     refine hW8 _ _ _ _ ?_ (hcut8 bitSize_3 hm)
     exact fse2
  clear hK7 hk_107
  refine Wp.block ?_
  refine qS ?_
  refine cM hm (fun hc67 hm => ?_) (fun hc67 hm => ?_)
  ·refine Wp.skip ?_
   refine hW7 _ _ _ _ ?_ (hcut7 (s_1, base_2) hm)
   exact fse2
  ·refine qS ?_
   refine cM hm (fun hc69 hm => ?_) (fun hc69 hm => ?_)
   ·refine qS ?_
    obtain ⟨c_173, hbc_173, hxc_173, hm⟩ := idxS_elim hm
    replace hxc_173 : ((s_1.getD 0 0).toNat : Int) = c_173 := hxc_173
    refine Wp.seqR fun K71 hK71 => ?_
    simp only [go_sem, simprocAttr, hxc_173]
    first | apply hK71 | refine ⟨sd, hK71 _ _ ?_⟩
    refine cM hm (fun hc72 hm => ?_) (fun hc72 hm => ?_)
    ·refine Wp.block ?_
     obtain ⟨c_174, hm⟩ := chk_elim hm
     obtain ⟨r_175, hr_175, hm⟩ := callG_elim hm
     refine Wp.seqR fun K73 hK73 => ?_
     simp only [go_sem, simprocAttr, hxc_173]
     try refine ⟨by first | exact sd | ((repeat' apply And.intro) <;> first | assumption | omega | (simp only [List.length_append, List.length_map, List.length_cons, List.length_nil, List.length_set, List.length_replicate] at c_174 ⊢; omega)), ?_⟩
     refine Rg.callX (av := ?av74) (g := decide (3 ≤ (s_1.length : Int))) (fun hg => ok_internal_strconv_lower ((s_1.getD 1 0).toNat : Int) _ (hr_175 hg)) (by simp only [go_sem, simprocAttr, hxc_173]; exact Is.mk) (by simp only [go_sem, simprocAttr, hxc_173]; exact Is.mk) (by simp only [go_sem, simprocAttr, hxc_173]; exact Is.mk) (by simp only [go_sem, simprocAttr, hxc_173]) (by simp only [go_sem, simprocAttr, hxc_173]; exact Is.mk) ?cont74
     intro hv74
     simp only [go_sem, simprocAttr, hxc_173]
     first | apply hK73 | refine ⟨by first | exact sd | ((repeat' apply And.intro) <;> first | assumption | omega | (simp only [List.length_append, List.length_map, List.length_cons, List.length_nil, List.length_set, List.length_replicate] at c_174 ⊢; omega)), hK73 _ _ ?_⟩
     refine cM hm (fun hc75 hm => ?_) (fun hc75 hm => ?_)
     ·refine Wp.seqR fun K76 hK76 => ?_
      simp only [go_sem, simprocAttr, hxc_173]
      first | apply hK76 | refine ⟨sd, hK76 _ _ ?_⟩
      obtain ⟨c_176, hm⟩ := chk_elim hm
      refine Wp.region fun K77 hK77 => ?_
      simp only [go_sem, simprocAttr, hxc_173]
      first | apply hK77 | refine ⟨by first | exact sd | ((repeat' apply And.intro) <;> first | assumption | omega | (simp only [List.length_append, List.length_map, List.length_cons, List.length_nil, List.length_set, List.length_replicate] at c_176 ⊢; omega)), hK77 _ _ ?_⟩
      refine hW7 _ _ _ _ ?_ (hcut7 (List.drop 2 s_1, 2) hm)
      simp only [go_sem, simprocAttr, hxc_173]
      try exact se2
     ·obtain ⟨c_177, hm⟩ := chk_elim hm
      obtain ⟨r_178, hr_178, hm⟩ := callG_elim hm
      refine Wp.seqR fun K78 hK78 => ?_
      simp only [go_sem, simprocAttr, hxc_173]
      try refine ⟨by first | exact sd | ((repeat' apply And.intro) <;> first | assumption | omega | (simp only [List.length_append, List.length_map, List.length_cons, List.length_nil, List.length_set, List.length_replicate] at c_177 ⊢; omega)), ?_⟩
      refine Rg.callX (av := ?av79) (g := decide (3 ≤ (s_1.length : Int))) (fun hg => ok_internal_strconv_lower ((s_1.getD 1 0).toNat : Int) _ (hr_178 hg)) (by simp only [go_sem, simprocAttr, hxc_173]; exact Is.mk) (by simp only [go_sem, simprocAttr, hxc_173]; exact Is.mk) (by simp only [go_sem, simprocAttr, hxc_173]; exact Is.mk) (by simp only [go_sem, simprocAttr, hxc_173]) (by simp only [go_sem, simprocAttr, hxc_173]; exact Is.mk) ?cont79
      intro hv79
      simp only [go_sem, simprocAttr, hxc_173]
      first | apply hK78 | refine ⟨by first | exact sd | ((repeat' apply And.intro) <;> first | assumption | omega | (simp only [List.length_append, List.length_map, List.length_cons, List.length_nil, List.length_set, List.length_replicate] at c_177 ⊢; omega)), hK78 _ _ ?_⟩
      refine cM hm (fun hc80 hm => ?_) (fun hc80 hm => ?_)
      ·refine Wp.seqR fun K81 hK81 => ?_
       simp only [go_sem, simprocAttr, hxc_173]
       first | apply hK81 | refine ⟨sd, hK81 _ _ ?_⟩
       obtain ⟨c_179, hm⟩ := chk_elim hm
       refine Wp.region fun K82 hK82 => ?_
       simp only [go_sem, simprocAttr, hxc_173]
       first | apply hK82 | refine ⟨by first | exact sd | ((repeat' apply And.intro) <;> first | assumption | omega | (simp only [List.length_append, List.length_map, List.length_cons, List.length_nil, List.length_set, List.length_replicate] at c_179 ⊢; omega)), hK82 _ _ ?_⟩
       refine hW7 _ _ _ _ ?_ (hcut7 (List.drop 2 s_1, 8) hm)
       simp only [go_sem, simprocAttr, hxc_173]
       try exact se2
      ·obtain ⟨c_180, hm⟩ := chk_elim hm
       obtain ⟨r_181, hr_181, hm⟩ := callG_elim hm
       refine Wp.seqR fun K83 hK83 => ?_
       simp only [go_sem, simprocAttr, hxc_173]
       try refine ⟨by first | exact sd | ((repeat' apply And.intro) <;> first | assumption | omega | (simp only [List.length_append, List.length_map, List.length_cons, List.length_nil, List.length_set, List.length_replicate] at c_180 ⊢; omega)), ?_⟩
       refine Rg.callX (av := ?av84) (g := decide (3 ≤ (s_1.length : Int))) (fun hg => ok_internal_strconv_lower ((s_1.getD 1 0).toNat : Int) _ (hr_181 hg)) (by simp only [go_sem, simprocAttr, hxc_173]; exact Is.mk) (by simp only [go_sem, simprocAttr, hxc_173]; exact Is.mk) (by simp only [go_sem, simprocAttr, hxc_173]; exact Is.mk) (by simp only [go_sem, simprocAttr, hxc_173]) (by simp only [go_sem, simprocAttr, hxc_173]; exact Is.mk) ?cont84
       intro hv84
       simp only [go_sem, simprocAttr, hxc_173]
       first | apply hK83 | refine ⟨by first | exact sd | ((repeat' apply And.intro) <;> first | assumption | omega | (simp only [List.length_append, List.length_map, List.length_cons, List.length_nil, List.length_set, List.length_replicate] at c_180 ⊢; omega)), hK83 _ _ ?_⟩
       refine cM hm (fun hc85 hm => ?_) (fun hc85 hm => ?_)
       ·refine Wp.seqR fun K86 hK86 => ?_
        simp only [go_sem, simprocAttr, hxc_173]
        first | apply hK86 | refine ⟨sd, hK86 _ _ ?_⟩
        obtain ⟨c_182, hm⟩ := chk_elim hm
        refine Wp.region fun K87 hK87 => ?_
        simp only [go_sem, simprocAttr, hxc_173]
        first | apply hK87 | refine ⟨by first | exact sd | ((repeat' apply And.intro) <;> first | assumption | omega | (simp only [List.length_append, List.length_map, List.length_cons, List.length_nil, List.length_set, List.length_replicate] at c_182 ⊢; omega)), hK87 _ _ ?_⟩
        refine hW7 _ _ _ _ ?_ (hcut7 (List.drop 2 s_1, 16) hm)
        simp only [go_sem, simprocAttr, hxc_173]
        try exact se2
       ·refine Wp.seqR fun K88 hK88 => ?_
        simp only [go_sem, simprocAttr, hxc_173]
        first | apply hK88 | refine ⟨sd, hK88 _ _ ?_⟩
        obtain ⟨c_183, hm⟩ := chk_elim hm
        refine Wp.region fun K89 hK89 => ?_
        simp only [go_sem, simprocAttr, hxc_173]
        first | apply hK89 | refine ⟨by first | exact sd | ((repeat' apply And.intro) <;> first | assumption | omega | (simp only [List.length_append, List.length_map, List.length_cons, List.length_nil, List.length_set, List.length_replicate] at c_183 ⊢; omega)), hK89 _ _ ?_⟩
        refine hW7 _ _ _ _ ?_ (hcut7 (List.drop 1 s_1, 8) hm)
        simp only [go_sem, simprocAttr, hxc_173]
        try exact se2
    ·refine Wp.skip ?_
     refine hW7 _ _ _ _ ?_ (hcut7 (s_1, 10) hm)
     simp only [go_sem, simprocAttr, hxc_173]
     try exact se2
   ·cases hm
theorem ok_strconv_ParseUint (s_1 : Str) (base_2 : Int) (bitSize_3 : Int) (z : Int) (hm : strconv_ParseUint s_1 base_2 bitSize_3 = some z) : Does Tryd.prog 113 [.p (.s s_1), .p (.i .i64 base_2), .p (.i .i64 bitSize_3)] [] (fun r X => r = .tup [.p (.i .u64 z), .raw .nilIface] ∧ X = []) := by
 unfold strconv_ParseUint at hm
 refine Does.of_wp 0 26 [.tmp 6, .tmp 7] Tryd.func113 rfl (by decide) rfl rfl (Nat.le_of_ble_eq_true rfl) fun B => ?_
 refine qS ?_
 obtain ⟨r_5, hr_5, hm⟩ := call_elim hm
 refine Wp.seqR fun K2 hK2 => ?_
 simp only [go_sem, simprocAttr]
 try refine ⟨sd, ?_⟩
 refine Rg.callF (av := ?av3) (ok_internal_strconv_ParseUint s_1 base_2 bitSize_3 _ hr_5) si si sg ?cont3
 intro hv3
 simp only [go_sem, simprocAttr]
 first | apply hK2 | refine ⟨sd, hK2 _ _ ?_⟩
 refine Wp.seqW fun K4 hK4 hW4 => ?_
 refine qS ?_
 refine Wp.cond rfl ⟨⟩ (fun hc6 => ?_) (fun hc6 => ?_)
 ·cases hc6
 refine Wp.skip ?_
 refine hK4 _ _ ?_
 refine qS ?_
 refine Wp.ret ?_
 refine retQ_ret ?_
 cases hm
 exact fse2
theorem ok_R_rawSum (s_1 : Str) (z : Str) (hm : R_rawSum s_1 = some z) : Does Tryd.prog 74 [.p (.s s_1)] [] (fun r X => r = .p (.s z) ∧ X = []) := by
 unfold R_rawSum at hm
 refine Does.of_wp 0 30 [.tmp 2] Tryd.func74 rfl (by decide) rfl rfl (Nat.le_of_ble_eq_true rfl) fun B => ?_
 refine qS ?_
 obtain ⟨r_2, hr_2, hm⟩ := call_elim hm
 refine Wp.seqR fun K2 hK2 => ?_
 simp only [go_sem, simprocAttr]
 try refine ⟨sd, ?_⟩
 refine Rg.callF (av := ?av3) (ok_strconv_ParseUint s_1 16 64 _ hr_2) si si sg ?cont3
 intro hv3
 simp only [go_sem, simprocAttr]
 first | apply hK2 | refine ⟨sd, hK2 _ _ ?_⟩
 refine qS ?_
 refine Wp.seqW fun K5 hK5 hW5 => ?_
 obtain ⟨k_15, hk_15, hm⟩ := jp_elim hm
 have hcut5 : ∀ s, k_15 s = some z → K5 [(5, .buf 0)] [.buf 5 1 (List.map ecI_u8 s)] := by
  intro o0_14 hs
  have hm := hk_15 _ hs
  clear hs
  try dsimp only at hm
  try dsimp only
  refine hK5 _ _ ?_
  refine qS ?_
  refine Wp.ret ?_
  refine retQ_ret ?_
  cases hm
  exact fse2
 clear hK5 hk_15
 refine qS ?_
 refine Wp.block ?_
 obtain ⟨k_23, hk_23, hm⟩ := loopN_cont hm
 refine Wp.loopN (fun s => [(3, .p (.i .u64 r_2)), (5, .buf 0), (14, .p (.i .i64 ((List.replicate 8 0).length : Int))), (15, .p (.i .i64 s.1))]) (fun s => [.buf 5 1 (List.map ecI_u8 s.2)]) ?_ hm ?_
 ·
  exact fse2
 clear hm
 intro s nx_24 hm
 obtain ⟨t15_19, o0_20⟩ := s
 try dsimp only at hm
 try dsimp only
 refine qS ?_
 refine Wp.seqW fun K9 hK9 hW9 => ?_
 refine cM hm (fun hc10 hm => ?_) (fun hc10 hm => ?_)
 ·refine Wp.skip ?_
  refine hK9 _ _ ?_
  refine Wp.seqW fun K11 hK11 hW11 => ?_
  refine Wp.block ?_
  refine qS ?_
  obtain ⟨c_25, hm⟩ := chk_elim hm
  obtain ⟨c_26, hm⟩ := chk_elim hm
  refine Wp.region fun K13 hK13 => ?_
  simp only [go_sem, simprocAttr]
  first | apply hK13 | refine ⟨by first | exact sd | ((repeat' apply And.intro) <;> first | assumption | omega | (simp only [List.length_append, List.length_map, List.length_cons, List.length_nil, List.length_set, List.length_replicate] at c_25 c_26 ⊢; omega)), hK13 _ _ ?_⟩
  refine hK11 _ _ ?_
  refine qR ?_
  simp only [thenQ, blockQ, ↓reduceIte]
  refine ⟨(IntKind.i64.wrap (t15_19 + 1), List.set o0_20 t15_19.toNat (IntKind.u8.wrap (Int.fdiv r_2 (2 ^ (shI .u64 (IntKind.i64.wrap (56 - (IntKind.i64.wrap (8 * t15_19))))))))), hm, ?_⟩
  exact fse2
 ·refine Wp.exit ?_
  simp only [thenQ, blockQ, ↓reduceIte]
  have hm := hk_23 _ hm
  try dsimp only at hm
  refine hW5 _ _ _ _ ?_ (hcut5 o0_20 hm)
  exact fse2
theorem ok_R_PrintDelta (d_1 : api_Delta) (z : Str) (hm : R_PrintDelta d_1 = some z) : Does Tryd.prog 22 [.agg [.p (.i .i64 d_1.Old), .p (.i .i64 d_1.New), .p (.s d_1.OldSum), .p (.s d_1.NewSum), .p (.l (List.map enc_api_Piece d_1.Pieces))]] [] (fun r X => r = .p (.s z) ∧ X = []) := by
 unfold R_PrintDelta at hm
 refine Does.of_wp 0 64 [.tmp 2] Tryd.func22 rfl (by decide) rfl rfl (Nat.le_of_ble_eq_true rfl) fun B => ?_
 refine qS ?_
 obtain ⟨r_2, hr_2, hm⟩ := call_elim hm
 obtain ⟨c_3, hm⟩ := chk_elim hm
 obtain ⟨r_4, hr_4, hm⟩ := call_elim hm
 obtain ⟨c_5, hm⟩ := chk_elim hm
 obtain ⟨r_6, hr_6, hm⟩ := call_elim hm
 obtain ⟨c_7, hm⟩ := chk_elim hm
 obtain ⟨r_8, hr_8, hm⟩ := call_elim hm
 obtain ⟨c_9, hm⟩ := chk_elim hm
 obtain ⟨r_10, hr_10, hm⟩ := call_elim hm
 obtain ⟨c_11, hm⟩ := chk_elim hm
 refine Wp.seqD (plan := pl [(0, none), (1, none), (2, none), (3, none), (4, none), (5, none), (6, none), (7, none), (8, none), (9, none), (10, none), (11, none), (12, none), (13, none), (14, none), (15, none), (16, none), (17, none), (18, none), (19, none), (20, none), (21, none)]) (by kernel_rfl) rfl (by kernel_rfl) fun K2 hK2 => ?_
 simp only [go_sem, simprocAttr]
 try refine ⟨by first | exact sd | ((repeat' apply And.intro) <;> first | assumption | omega | (simp only [List.length_append, List.length_map, List.length_cons, List.length_nil, List.length_set, List.length_replicate] at c_3 c_5 c_7 c_9 c_11 ⊢; omega)), ?_⟩
 refine Dr.callF (av := ?av3) (g := true) (o := ?o3) (fun hg => ok_R_groups d_1.Old _ hr_2) si si si si sg si ?cont3
 simp only [go_sem, simprocAttr]
 try refine ⟨by first | exact sd | ((repeat' apply And.intro) <;> first | assumption | omega | (simp only [List.length_append, List.length_map, List.length_cons, List.length_nil, List.length_set, List.length_replicate] at c_3 c_5 c_7 c_9 c_11 ⊢; omega)), ?_⟩
 refine Dr.callF (av := ?av4) (g := true) (o := ?o4) (fun hg => ok_R_groups d_1.New _ hr_4) si si si si sg si ?cont4
 simp only [go_sem, simprocAttr]
 try refine ⟨by first | exact sd | ((repeat' apply And.intro) <;> first | assumption | omega | (simp only [List.length_append, List.length_map, List.length_cons, List.length_nil, List.length_set, List.length_replicate] at c_3 c_5 c_7 c_9 c_11 ⊢; omega)), ?_⟩
 refine Dr.callF (av := ?av5) (g := true) (o := ?o5) (fun hg => ok_R_rawSum d_1.OldSum _ hr_6) si si si si sg si ?cont5
 simp only [go_sem, simprocAttr]
 try refine ⟨by first | exact sd | ((repeat' apply And.intro) <;> first | assumption | omega | (simp only [List.length_append, List.length_map, List.length_cons, List.length_nil, List.length_set, List.length_replicate] at c_3 c_5 c_7 c_9 c_11 ⊢; omega)), ?_⟩
 refine Dr.callF (av := ?av6) (g := true) (o := ?o6) (fun hg => ok_R_rawSum d_1.NewSum _ hr_8) si si si si sg si ?cont6
 simp only [go_sem, simprocAttr]
 try refine ⟨by first | exact sd | ((repeat' apply And.intro) <;> first | assumption | omega | (simp only [List.length_append, List.length_map, List.length_cons, List.length_nil, List.length_set, List.length_replicate] at c_3 c_5 c_7 c_9 c_11 ⊢; omega)), ?_⟩
 refine Dr.callF (av := ?av7) (g := true) (o := ?o7) (fun hg => ok_R_groups (d_1.Pieces.length : Int) _ hr_10) si si si si sg si ?cont7
 simp only [go_sem, simprocAttr]
 first | apply hK2 | refine ⟨by first | exact sd | ((repeat' apply And.intro) <;> first | assumption | omega | (simp only [List.length_append, List.length_map, List.length_cons, List.length_nil, List.length_set, List.length_replicate] at c_3 c_5 c_7 c_9 c_11 ⊢; omega)), hK2 _ _ ?_⟩
 refine qS ?_
 refine Wp.adoptB 1 5 rfl ?_
 simp only [go_sem, simprocAttr]
 obtain ⟨r_12, hr_12, hm⟩ := call_elim hm
 refine Wp.seqR fun K9 hK9 => ?_
 simp only [go_sem, simprocAttr]
 try refine ⟨sd, ?_⟩
 refine Rg.callO (av := ?av10) [1, 2] (ok_strings_Builder_WriteString_i1 (((((([79, 70, 68, 49] : Str) ++ r_2) ++ r_4) ++ r_6) ++ r_8) ++ r_10) [] _ hr_12) si si si sg sg ?cont10
 rintro _ _ ⟨rfl, rfl⟩ hv10
 simp only [go_sem, simprocAttr]
 first | apply hK9 | refine ⟨sd, hK9 _ _ ?_⟩
 refine Wp.seqW fun K11 hK11 hW11 => ?_
 obtain ⟨k_60, hk_60, hm⟩ := jp_elim hm
 have hcut11 : ∀ s, k_60 s = some z → K11 [(4, .ptr 1 0)] [.cells 41 [.top, .top, .top, .top, .top], .cells 86 [.np 1, .buf 2], .sb 5 s] := by
  intro o2_59 hs
  have hm := hk_60 _ hs
  clear hs
  try dsimp only at hm
  try dsimp only
  refine hK11 _ _ ?_
  obtain ⟨r_61, hr_61, hm⟩ := call_elim hm
  obtain ⟨r_62, hr_62, hm⟩ := call_elim hm
  obtain ⟨r_63, hr_63, hm⟩ := call_elim hm
  obtain ⟨r_64, hr_64, hm⟩ := call_elim hm
  obtain ⟨c_65, hm⟩ := chk_elim hm
  refine Wp.seqR fun K12 hK12 => ?_
  simp only [go_sem, simprocAttr]
  try refine ⟨by first | exact sd | ((repeat' apply And.intro) <;> first | assumption | omega | (simp only [List.length_append, List.length_map, List.length_cons, List.length_nil, List.length_set, List.length_replicate] at c_65 ⊢; omega)), ?_⟩
  refine Rg.callO (av := ?av13) [1, 2] (ok_strings_Builder_String_i1 o2_59 _ hr_61) si si si sg sg ?cont13
  rintro _ _ ⟨rfl, rfl⟩ hv13
  simp only [go_sem, simprocAttr]
  try refine ⟨by first | exact sd | ((repeat' apply And.intro) <;> first | assumption | omega | (simp only [List.length_append, List.length_map, List.length_cons, List.length_nil, List.length_set, List.length_replicate] at c_65 ⊢; omega)), ?_⟩
  refine Rg.callO (av := ?av14) [1, 2] (ok_strings_Builder_String_i1 o2_59 _ hr_62) si si si sg sg ?cont14
  rintro _ _ ⟨rfl, rfl⟩ hv14
  simp only [go_sem, simprocAttr]
  try refine ⟨by first | exact sd | ((repeat' apply And.intro) <;> first | assumption | omega | (simp only [List.length_append, List.length_map, List.length_cons, List.length_nil, List.length_set, List.length_replicate] at c_65 ⊢; omega)), ?_⟩
  refine Rg.callX (av := ?av15) (g := true) (fun hg => ok_R_SumOf r_62 _ hr_63) si si si sg si ?cont15
  intro hv15
  simp only [go_sem, simprocAttr]
  try refine ⟨by first | exact sd | ((repeat' apply And.intro) <;> first | assumption | omega | (simp only [List.length_append, List.length_map, List.length_cons, List.length_nil, List.length_set, List.length_replicate] at c_65 ⊢; omega)), ?_⟩
  refine Rg.callX (av := ?av16) (g := true) (fun hg => ok_R_rawSum r_63 _ hr_64) si si si sg si ?cont16
  intro hv16
  simp only [go_sem, simprocAttr]
  first | apply hK12 | refine ⟨by first | exact sd | ((repeat' apply And.intro) <;> first | assumption | omega | (simp only [List.length_append, List.length_map, List.length_cons, List.length_nil, List.length_set, List.length_replicate] at c_65 ⊢; omega)), hK12 _ _ ?_⟩
  refine Wp.ret ?_
  refine retQ_ret ?_
  cases hm
  exact fse2
 clear hK11 hk_60
 refine qS ?_
 refine Wp.block ?_
 obtain ⟨k_89, hk_89, hm⟩ := forL_cont hm
 refine Wp.fact 31 fun hl_92 => ?_
 replace hl_92 : d_1.Pieces.length ≤ 274877906944 := by
  simp only [go_sem, simprocAttr, List.length_map] at hl_92
  omega
 refine Wp.forL (fun i_91 s => [(4, .ptr 1 0), (31, .p (.l (List.map enc_api_Piece d_1.Pieces))), (32, .p (.i .i64 (d_1.Pieces.length : Int))), (33, .p (.i .i64 (i_91 : Int)))]) (fun i_91 s => [.cells 41 [.p (.i .i64 d_1.Old), .p (.i .i64 d_1.New), .p (.s d_1.OldSum), .p (.s d_1.NewSum), .p (.l (List.map enc_api_Piece d_1.Pieces))], .cells 86 [.np 1, .buf 2], .sb 5 s]) ?_ hm ?_
 ·
  exact fse2
 clear hm
 intro i_91 o2_78 hii_91 hm
 try dsimp only at hm
 try dsimp only
 refine qS ?_
 refine Wp.seqW fun K19 hK19 hW19 => ?_
 refine Wp.cond rfl ⟨⟩ (fun hc19 => ?_) (fun hc19 => ?_)
 rotate_left
 ·refine Wp.exit ?_
  have hm := hk_89 _ (forL_end hm (ge_nat (by first | exact hc19 | simpa using hc19)))
  try dsimp only at hm
  refine hW11 _ _ _ _ ?_ (hcut11 o2_78 hm)
  exact fse2
 have hlt19 := lt_nat (by first | exact hc19 | simpa using hc19)
 have hw19 := wrap_succ hlt19 hl_92
 obtain ⟨p_93, nx_90, hxp_93, hyp_93, hnx_90, hm⟩ := forL_step hm hlt19
 replace hxp_93 := hxp_93 enc_api_Piece
 refine Wp.skip ?_
 simp only [thenQ]
 refine hK19 _ _ ?_
 refine Wp.seqW fun K20 hK20 hW20 => ?_
 refine Wp.block ?_
 refine Wp.seqR fun K21 hK21 => ?_
 simp only [go_sem, simprocAttr, hw19, hxp_93]
 first | apply hK21 | refine ⟨sd, hK21 _ _ ?_⟩
 refine Wp.seqR fun K22 hK22 => ?_
 simp only [go_sem, simprocAttr, hw19, hxp_93]
 first | apply hK22 | refine ⟨sd, hK22 _ _ ?_⟩
 refine cM hm (fun hc23 hm => ?_) (fun hc23 hm => ?_)
 ·obtain ⟨r_94, hr_94, hm⟩ := call_elim hm
  obtain ⟨c_95, hm⟩ := chk_elim hm
  obtain ⟨c_96, hm⟩ := chk_elim hm
  obtain ⟨r_97, hr_97, hm⟩ := call_elim hm
  refine Wp.regD (plan := pl [(0, none), (1, none), (2, none), (3, none), (4, none), (5, none), (6, none), (7, none), (8, some [])]) (by kernel_rfl) rfl (by kernel_rfl) fun K24 hK24 => ?_
  simp only [go_sem, simprocAttr, hw19, hxp_93]
  try refine ⟨by first | exact sd | ((repeat' apply And.intro) <;> first | assumption | omega | (simp only [List.length_append, List.length_map, List.length_cons, List.length_nil, List.length_set, List.length_replicate] at c_95 c_96 ⊢; omega)), ?_⟩
  refine Dr.callF (av := ?av25) (g := true) (o := ?o25) (fun hg => ok_R_groups (p_93.Data.length : Int) _ hr_94) (by simp only [go_sem, simprocAttr, hw19, hxp_93]; exact Is.mk) (by simp only [go_sem, simprocAttr, hw19, hxp_93]; exact Is.mk) (by simp only [go_sem, simprocAttr, hw19, hxp_93]; exact Is.mk) (by simp only [go_sem, simprocAttr, hw19, hxp_93]; exact Is.mk) (by simp only [go_sem, simprocAttr, hw19, hxp_93]) (by simp only [go_sem, simprocAttr, hw19, hxp_93]; exact Is.mk) ?cont25
  simp only [go_sem, simprocAttr, hw19, hxp_93]
  try refine ⟨by first | exact sd | ((repeat' apply And.intro) <;> first | assumption | omega | (simp only [List.length_append, List.length_map, List.length_cons, List.length_nil, List.length_set, List.length_replicate] at c_95 c_96 ⊢; omega)), ?_⟩
  refine Dr.of_br (Br.callS (av := ?av26) (o := ?o26) 2 [1, 2] (ok_strings_Builder_WriteString_i1 ((([1] : Str) ++ r_94) ++ p_93.Data) o2_78 _ hr_97) (by simp only [go_sem, simprocAttr, hw19, hxp_93]; exact Is.mk) (by simp only [go_sem, simprocAttr, hw19, hxp_93]; exact Is.mk) (by simp only [go_sem, simprocAttr, hw19, hxp_93]; exact Is.mk) (by simp only [go_sem, simprocAttr, hw19, hxp_93]; exact Is.mk) (by simp only [go_sem, simprocAttr, hw19, hxp_93]; first | exact Is.mk | (simp only [List.map_append, List.map_cons, List.map_nil, ecB, ecI_i64, ecI_u8, ecS]; exact Is.mk)) (by simp only [go_sem, simprocAttr, hw19, hxp_93]) (by simp only [go_sem, simprocAttr, hw19, hxp_93]) (by simp only [go_sem, simprocAttr, hw19, hxp_93]) (by simp only [go_sem, simprocAttr, hw19, hxp_93]) ?cont26)
  simp only [go_sem, simprocAttr, hw19, hxp_93]
  first | apply hK24 | refine ⟨by first | exact sd | ((repeat' apply And.intro) <;> first | assumption | omega | (simp only [List.length_append, List.length_map, List.length_cons, List.length_nil, List.length_set, List.length_replicate] at c_95 c_96 ⊢; omega)), hK24 _ _ ?_⟩
  refine hK20 _ _ ?_
  refine Wp.region fun K27 hK27 => ?_
  simp only [go_sem, simprocAttr, hw19, hxp_93]
  first | apply hK27 | refine ⟨sd, hK27 _ _ ?_⟩
  simp only [thenQ, blockQ, ↓reduceIte]
  refine ⟨r_97.2, hlt19, hnx_90 _ hm, ?_⟩
  simp only [go_sem, simprocAttr, hw19, hxp_93]
  try exact se2
 ·obtain ⟨r_98, hr_98, hm⟩ := call_elim hm
  obtain ⟨c_99, hm⟩ := chk_elim hm
  obtain ⟨r_100, hr_100, hm⟩ := call_elim hm
  obtain ⟨c_101, hm⟩ := chk_elim hm
  obtain ⟨r_102, hr_102, hm⟩ := call_elim hm
  refine Wp.regD (plan := pl [(0, none), (1, none), (2, none), (3, none), (4, none), (5, none), (6, none), (7, none), (8, some [])]) (by kernel_rfl) rfl (by kernel_rfl) fun K28 hK28 => ?_
  simp only [go_sem, simprocAttr, hw19, hxp_93]
  try refine ⟨by first | exact sd | ((repeat' apply And.intro) <;> first | assumption | omega | (simp only [List.length_append, List.length_map, List.length_cons, List.length_nil, List.length_set, List.length_replicate] at c_99 c_101 ⊢; omega)), ?_⟩
  refine Dr.callF (av := ?av29) (g := true) (o := ?o29) (fun hg => ok_R_groups p_93.At _ hr_98) (by simp only [go_sem, simprocAttr, hw19, hxp_93]; exact Is.mk) (by simp only [go_sem, simprocAttr, hw19, hxp_93]; exact Is.mk) (by simp only [go_sem, simprocAttr, hw19, hxp_93]; exact Is.mk) (by simp only [go_sem, simprocAttr, hw19, hxp_93]; exact Is.mk) (by simp only [go_sem, simprocAttr, hw19, hxp_93]) (by simp only [go_sem, simprocAttr, hw19, hxp_93]; exact Is.mk) ?cont29
  simp only [go_sem, simprocAttr, hw19, hxp_93]
  try refine ⟨by first | exact sd | ((repeat' apply And.intro) <;> first | assumption | omega | (simp only [List.length_append, List.length_map, List.length_cons, List.length_nil, List.length_set, List.length_replicate] at c_99 c_101 ⊢; omega)), ?_⟩
  refine Dr.callF (av := ?av30) (g := true) (o := ?o30) (fun hg => ok_R_groups p_93.Long _ hr_100) (by simp only [go_sem, simprocAttr, hw19, hxp_93]; exact Is.mk) (by simp only [go_sem, simprocAttr, hw19, hxp_93]; exact Is.mk) (by simp only [go_sem, simprocAttr, hw19, hxp_93]; exact Is.mk) (by simp only [go_sem, simprocAttr, hw19, hxp_93]; exact Is.mk) (by simp only [go_sem, simprocAttr, hw19, hxp_93]) (by simp only [go_sem, simprocAttr, hw19, hxp_93]; exact Is.mk) ?cont30
  simp only [go_sem, simprocAttr, hw19, hxp_93]
  try refine ⟨by first | exact sd | ((repeat' apply And.intro) <;> first | assumption | omega | (simp only [List.length_append, List.length_map, List.length_cons, List.length_nil, List.length_set, List.length_replicate] at c_99 c_101 ⊢; omega)), ?_⟩
  refine Dr.of_br (Br.callS (av := ?av31) (o := ?o31) 2 [1, 2] (ok_strings_Builder_WriteString_i1 ((([0] : Str) ++ r_98) ++ r_100) o2_78 _ hr_102) (by simp only [go_sem, simprocAttr, hw19, hxp_93]; exact Is.mk) (by simp only [go_sem, simprocAttr, hw19, hxp_93]; exact Is.mk) (by simp only [go_sem, simprocAttr, hw19, hxp_93]; exact Is.mk) (by simp only [go_sem, simprocAttr, hw19, hxp_93]; exact Is.mk) (by simp only [go_sem, simprocAttr, hw19, hxp_93]; first | exact Is.mk | (simp only [List.map_append, List.map_cons, List.map_nil, ecB, ecI_i64, ecI_u8, ecS]; exact Is.mk)) (by simp only [go_sem, simprocAttr, hw19, hxp_93]) (by simp only [go_sem, simprocAttr, hw19, hxp_93]) (by simp only [go_sem, simprocAttr, hw19, hxp_93]) (by simp only [go_sem, simprocAttr, hw19, hxp_93]) ?cont31)
  simp only [go_sem, simprocAttr, hw19, hxp_93]
  first | apply hK28 | refine ⟨by first | exact sd | ((repeat' apply And.intro) <;> first | assumption | omega | (simp only [List.length_append, List.length_map, List.length_cons, List.length_nil, List.length_set, List.length_replicate] at c_99 c_101 ⊢; omega)), hK28 _ _ ?_⟩
  refine hK20 _ _ ?_
  refine Wp.region fun K32 hK32 => ?_
  simp only [go_sem, simprocAttr, hw19, hxp_93]
  first | apply hK32 | refine ⟨sd, hK32 _ _ ?_⟩
  simp only [thenQ, blockQ, ↓reduceIte]
  refine ⟨r_102.2, hlt19, hnx_90 _ hm, ?_⟩
  simp only [go_sem, simprocAttr, hw19, hxp_93]
  try exact se2
theorem ok_R_Summed (s_1 : Str) (z : Str) (hm : R_Summed s_1 = some z) : Does Tryd.prog 23 [.p (.s s_1)] [] (fun r X => r = .p (.s z) ∧ X = []) := by
 unfold R_Summed at hm
 refine Does.of_wp 0 8 [.tmp 2] Tryd.func23 rfl (by decide) rfl rfl (Nat.le_of_ble_eq_true rfl) fun B => ?_
 refine qS ?_
 obtain ⟨r_2, hr_2, hm⟩ := call_elim hm
 obtain ⟨r_3, hr_3, hm⟩ := call_elim hm
 obtain ⟨c_4, hm⟩ := chk_elim hm
 refine Wp.seqR fun K2 hK2 => ?_
 simp only [go_sem, simprocAttr]
 try refine ⟨by first | exact sd | ((repeat' apply And.intro) <;> first | assumption | omega | (simp only [List.length_append, List.length_map, List.length_cons, List.length_nil, List.length_set, List.length_replicate] at c_4 ⊢; omega)), ?_⟩
 refine Rg.callX (av := ?av3) (g := true) (fun hg => ok_R_SumOf s_1 _ hr_2) si si si sg si ?cont3
 intro hv3
 simp only [go_sem, simprocAttr]
 try refine ⟨by first | exact sd | ((repeat' apply And.intro) <;> first | assumption | omega | (simp only [List.length_append, List.length_map, List.length_cons, List.length_nil, List.length_set, List.length_replicate] at c_4 ⊢; omega)), ?_⟩
 refine Rg.callX (av := ?av4) (g := true) (fun hg => ok_R_rawSum r_2 _ hr_3) si si si sg si ?cont4
 intro hv4
 simp only [go_sem, simprocAttr]
 first | apply hK2 | refine ⟨by first | exact sd | ((repeat' apply And.intro) <;> first | assumption | omega | (simp only [List.length_append, List.length_map, List.length_cons, List.length_nil, List.length_set, List.length_replicate] at c_4 ⊢; omega)), hK2 _ _ ?_⟩
 refine Wp.ret ?_
 refine retQ_ret ?_
 cases hm
 exact fse2
theorem ok_delta_reader_take_i1 (n_1 : Int) (o0_0_2 : Str) (o0_1_3 : Int) (o0_2_4 : Bool) (z : Str × Bool × Int) (hm : delta_reader_take_i1 n_1 o0_0_2 o0_1_3 o0_2_4 = some z) : Does Tryd.prog 75 [.ptr 0 0, .p (.i .i64 n_1)] [.cells 107 [.p (.s o0_0_2), .p (.i .i64 o0_1_3), .p (.b o0_2_4)]] (fun r X => r = .p (.s z.1) ∧ X = [.cells 107 [.p (.s o0_0_2), .p (.i .i64 z.2.2), .p (.b z.2.1)]]) := by
 unfold delta_reader_take_i1 at hm
 refine Does.of_wp 1 47 [.tmp 4] Tryd.func75 rfl (by decide) rfl rfl (Nat.le_of_ble_eq_true rfl) fun B => ?_
 refine qS ?_
 refine Wp.seqW fun K2 hK2 hW2 => ?_
 refine Wp.seqD (plan := pl [(0, none), (1, none), (2, none), (3, none), (4, none), (5, none), (6, none), (7, none), (8, none), (9, none), (10, none), (11, none), (12, none), (13, none), (14, none), (15, none)]) (by kernel_rfl) rfl (by kernel_rfl) fun K3 hK3 => ?_
 simp only [go_sem, simprocAttr]
 first | apply hK3 | refine ⟨sd, hK3 _ _ ?_⟩
 refine cM hm (fun hc4 hm => ?_) (fun hc4 hm => ?_)
 ·refine qS ?_
  refine qS ?_
  refine Wp.ret ?_
  refine retQ_ret ?_
  cases hm
  exact fse2
 ·refine Wp.skip ?_
  refine hK2 _ _ ?_
  refine qS ?_
  obtain ⟨c_6, hm⟩ := chk_elim hm
  refine Wp.seqD (plan := pl [(0, none), (1, none), (2, none), (3, none), (4, none), (5, none), (6, none), (7, none), (8, none), (9, none), (10, none), (11, none), (12, none), (13, none), (14, none), (15, none)]) (by kernel_rfl) rfl (by kernel_rfl) fun K8 hK8 => ?_
  simp only [go_sem, simprocAttr]
  first | apply hK8 | refine ⟨by first | exact sd | ((repeat' apply And.intro) <;> first | assumption | omega | (simp only [List.length_append, List.length_map, List.length_cons, List.length_nil, List.length_set, List.length_replicate] at c_6 ⊢; omega)), hK8 _ _ ?_⟩
  refine Wp.ret ?_
  refine retQ_ret ?_
  cases hm
  exact fse2
theorem ok_delta_reader_number_i1 (o0_0_1 : Str) (o0_1_2 : Int) (o0_2_3 : Bool) (z : Int × Int × Bool) (hm : delta_reader_number_i1 o0_0_1 o0_1_2 o0_2_3 = some z) : Does Tryd.prog 76 [.ptr 0 0] [.cells 107 [.p (.s o0_0_1), .p (.i .i64 o0_1_2), .p (.b o0_2_3)]] (fun r X => r = .p (.i .i64 z.1) ∧ X = [.cells 107 [.p (.s o0_0_1), .p (.i .i64 z.2.1), .p (.b z.2.2)]]) := by
 unfold delta_reader_number_i1 at hm
 refine Does.of_wp 1 48 [.tmp 2] Tryd.func76 rfl (by decide) rfl rfl (Nat.le_of_ble_eq_true rfl) fun B => ?_
 refine qS ?_
 refine qS ?_
 refine Wp.seqW fun K3 hK3 hW3 => ?_
 obtain ⟨k_60, hk_60, hm⟩ := jp_elim hm
 have hcut3 : ∀ s, k_60 s = some z → K3 [(0, .ptr 0 0)] [.cells 107 [.p (.s o0_0_1), .p (.i .i64 s.1), .p (.b s.2)]] := by
  intro s hs
  have hm := hk_60 _ hs
  clear hs
  obtain ⟨o0_1_58, o0_2_59⟩ := s
  try dsimp only at hm
  try dsimp only
  refine hK3 _ _ ?_
  refine qS ?_
  refine qS ?_
  refine Wp.ret ?_
  refine retQ_ret ?_
  cases hm
  exact fse2
 clear hK3 hk_60
 refine qS ?_
 refine Wp.block ?_
 obtain ⟨k_73, hk_73, hm⟩ := loopN_cont hm
 refine Wp.loopN (fun s => [(0, .ptr 0 0), (3, .p (.i .i64 s.1)), (6, .p (.i .i64 s.2.1))]) (fun s => [.cells 107 [.p (.s o0_0_1), .p (.i .i64 s.2.2.1), .p (.b s.2.2.2)]]) ?_ hm ?_
 ·
  exact fse2
 clear hm
 intro s nx_74 hm
 obtain ⟨n_66, t6_67, o0_1_68, o0_2_69⟩ := s
 try dsimp only at hm
 try dsimp only
 refine qS ?_
 refine Wp.seqW fun K8 hK8 hW8 => ?_
 refine cM hm (fun hc9 hm => ?_) (fun hc9 hm => ?_)
 ·refine Wp.skip ?_
  refine hK8 _ _ ?_
  refine Wp.seqW fun K10 hK10 hW10 => ?_
  refine Wp.block ?_
  refine qS ?_
  obtain ⟨r_75, hr_75, hm⟩ := call_elim hm
  refine Wp.seqR fun K12 hK12 => ?_
  simp only [go_sem, simprocAttr]
  try refine ⟨sd, ?_⟩
  refine Rg.callO (av := ?av13) [0] (ok_delta_reader_take_i1 1 o0_0_1 o0_1_68 o0_2_69 _ hr_75) si si si sg sg ?cont13
  rintro _ _ ⟨rfl, rfl⟩ hv13
  simp only [go_sem, simprocAttr]
  first | apply hK12 | refine ⟨sd, hK12 _ _ ?_⟩
  refine Wp.seqW fun K14 hK14 hW14 => ?_
  refine qS ?_
  refine cM hm (fun hc16 hm => ?_) (fun hc16 hm => ?_)
  ·refine qS ?_
   refine Wp.ret ?_
   refine retQ_ret ?_
   cases hm
   exact fse2
  ·refine Wp.skip ?_
   refine hK14 _ _ ?_
   obtain ⟨c_76, hbc_76, hxc_76, hm⟩ := idxS_elim hm
   replace hxc_76 : ((r_75.1.getD 0 0).toNat : Int) = c_76 := hxc_76
   obtain ⟨c_77, hm⟩ := chk_elim hm
   refine Wp.seqR fun K18 hK18 => ?_
   simp only [go_sem, simprocAttr, hxc_76]
   first | apply hK18 | refine ⟨by first | exact sd | ((repeat' apply And.intro) <;> first | assumption | omega | (simp only [List.length_append, List.length_map, List.length_cons, List.length_nil, List.length_set, List.length_replicate] at c_77 ⊢; omega)), hK18 _ _ ?_⟩
   refine Wp.seqR fun K19 hK19 => ?_
   simp only [go_sem, simprocAttr, hxc_76]
   first | apply hK19 | refine ⟨sd, hK19 _ _ ?_⟩
   refine cM hm (fun hc20 hm => ?_) (fun hc20 hm => ?_)
   ·refine Wp.seqR fun K21 hK21 => ?_
    simp only [go_sem, simprocAttr, hxc_76]
    first | apply hK21 | refine ⟨sd, hK21 _ _ ?_⟩
    refine Wp.seqR fun K22 hK22 => ?_
    simp only [go_sem, simprocAttr, hxc_76]
    first | apply hK22 | refine ⟨sd, hK22 _ _ ?_⟩
    refine Wp.ret ?_
    refine retQ_ret ?_
    cases hm
    simp only [go_sem, simprocAttr, hxc_76]
    try exact se2
   ·refine Wp.skip ?_
    refine hK10 _ _ ?_
    refine Wp.region fun K23 hK23 => ?_
    simp only [go_sem, simprocAttr, hxc_76]
    first | apply hK23 | refine ⟨sd, hK23 _ _ ?_⟩
    simp only [thenQ, blockQ, ↓reduceIte]
    refine ⟨(bitsI .or .i64 n_66 (IntKind.i64.wrap ((IntKind.i64.wrap (bitsI .and .u8 c_76 127)) * 2 ^ (shI .i64 (IntKind.i64.wrap (7 * t6_67))))), IntKind.i64.wrap (t6_67 + 1), r_75.2.2, r_75.2.1), hm, ?_⟩
    simp only [go_sem, simprocAttr, hxc_76]
    try exact se2
 ·refine Wp.exit ?_
  simp only [thenQ, blockQ, ↓reduceIte]
  have hm := hk_73 _ hm
  try dsimp only at hm
  refine hW3 _ _ _ _ ?_ (hcut3 (o0_1_68, o0_2_69) hm)
  exact fse2
theorem ok_delta_reader_sum_i1 (o0_0_1 : Str) (o0_1_2 : Int) (o0_2_3 : Bool) (z : Str × Int × Bool) (hm : delta_reader_sum_i1 o0_0_1 o0_1_2 o0_2_3 = some z) : Does Tryd.prog 77 [.ptr 0 0] [.cells 107 [.p (.s o0_0_1), .p (.i .i64 o0_1_2), .p (.b o0_2_3)]] (fun r X => r = .p (.s z.1) ∧ X = [.cells 107 [.p (.s o0_0_1), .p (.i .i64 z.2.1), .p (.b z.2.2)]]) := by
 unfold delta_reader_sum_i1 at hm
 refine Does.of_wp 1 26 [.tmp 2] Tryd.func77 rfl (by decide) rfl rfl (Nat.le_of_ble_eq_true rfl) fun B => ?_
 refine qS ?_
 refine qS ?_
 refine Wp.seqW fun K3 hK3 hW3 => ?_
 obtain ⟨k_80, hk_80, hm⟩ := jp_elim hm
 have hcut3 : ∀ s, k_80 s = some z → K3 [(3, .buf 2)] [.cells 107 [.p (.s o0_0_1), .p (.i .i64 s.1), .p (.b s.2.1)], .gone, .buf 5 1 (List.map ecI_u8 s.2.2)] := by
  intro s hs
  have hm := hk_80 _ hs
  clear hs
  obtain ⟨o0_1_77, o0_2_78, o2_79⟩ := s
  try dsimp only at hm
  try dsimp only
  refine hK3 _ _ ?_
  refine qS ?_
  refine Wp.ret ?_
  refine retQ_ret ?_
  cases hm
  exact fse2
 clear hK3 hk_80
 obtain ⟨r_81, hr_81, hm⟩ := call_elim hm
 refine Wp.seqR fun K5 hK5 => ?_
 simp only [go_sem, simprocAttr]
 try refine ⟨sd, ?_⟩
 refine Rg.callO (av := ?av6) [0] (ok_delta_reader_take_i1 8 o0_0_1 o0_1_2 o0_2_3 _ hr_81) si si si sg sg ?cont6
 rintro _ _ ⟨rfl, rfl⟩ hv6
 simp only [go_sem, simprocAttr]
 first | apply hK5 | refine ⟨sd, hK5 _ _ ?_⟩
 refine Wp.block ?_
 refine Wp.adopt 3 5 1 rfl ?_
 simp only [go_sem, simprocAttr]
 obtain ⟨k_95, hk_95, hm⟩ := forC_cont hm
 refine Wp.factO 1 fun hl_98 => ?_
 replace hl_98 : r_81.1.length ≤ 274877906944 := by
  simp only [go_sem, simprocAttr, List.length_map] at hl_98
  omega
 refine Wp.forC (fun i_97 s => [(3, .buf 2), (8, .buf 1), (9, .p (.i .i64 (r_81.1.length : Int))), (10, .p (.i .i64 (i_97 : Int)))]) (fun i_97 s => [.cells 107 [.p (.s o0_0_1), .p (.i .i64 r_81.2.2), .p (.b r_81.2.1)], .buf 5 1 (List.map ecI_u8 (bytesOf r_81.1)), .buf 5 1 (List.map ecI_u8 s)]) ?_ hm ?_
 ·
  exact fse2
 clear hm
 intro i_97 o2_89 hii_97 hm
 try dsimp only at hm
 try dsimp only
 refine qS ?_
 refine Wp.seqW fun K8 hK8 hW8 => ?_
 refine Wp.cond rfl ⟨⟩ (fun hc8 => ?_) (fun hc8 => ?_)
 rotate_left
 ·refine Wp.exit ?_
  have hm := hk_95 _ (forC_end hm (ge_nat (by first | exact hc8 | simpa using hc8)))
  try dsimp only at hm
  refine hW3 _ _ _ _ ?_ (hcut3 (r_81.2.2, r_81.2.1, o2_89) hm)
  exact fse2
 have hlt8 := lt_nat (by first | exact hc8 | simpa using hc8)
 have hw8 := wrap_succ hlt8 hl_98
 obtain ⟨nx_96, hnx_96, hm⟩ := forC_step hm hlt8
 refine Wp.skip ?_
 simp only [thenQ]
 refine hK8 _ _ ?_
 refine Wp.seqW fun K9 hK9 hW9 => ?_
 refine Wp.block ?_
 have hr_100 := fun h => getD_encB (l := bytesOf r_81.1) (e := ecI_u8) (d := 0) (i := i_97) h []
 refine Wp.seqR fun K10 hK10 => ?_
 simp only [go_sem, simprocAttr, hw8, hr_100 (by simp only [bytesOf_length]; omega)]
 first | apply hK10 | refine ⟨sd, hK10 _ _ ?_⟩
 obtain ⟨c_101, hbc_101, hxc_101, hm⟩ := idxS_elim hm
 replace hxc_101 : ((([48, 49, 50, 51, 52, 53, 54, 55, 56, 57, 97, 98, 99, 100, 101, 102] : Str).getD ((Int.fdiv ((bytesOf r_81.1).getD i_97 0) (2 ^ (shI .u8 4))).toNat) 0).toNat : Int) = c_101 := hxc_101
 obtain ⟨c_102, hbc_102, hxc_102, hm⟩ := idxS_elim hm
 replace hxc_102 : ((([48, 49, 50, 51, 52, 53, 54, 55, 56, 57, 97, 98, 99, 100, 101, 102] : Str).getD ((bitsI .and .u8 ((bytesOf r_81.1).getD i_97 0) 15).toNat) 0).toNat : Int) = c_102 := hxc_102
 obtain ⟨c_103, hm⟩ := chk_elim hm
 refine Wp.regD (plan := pl [(0, none), (1, none), (2, none), (3, none), (4, none), (5, none), (6, none), (7, some [0]), (8, some []), (9, none)]) (by kernel_rfl) rfl (by kernel_rfl) fun K11 hK11 => ?_
 simp only [go_sem, simprocAttr, hw8, hxc_101, hxc_102]
 first | apply hK11 | refine ⟨by first | exact sd | ((repeat' apply And.intro) <;> first | assumption | omega | (simp only [List.length_append, List.length_map, List.length_cons, List.length_nil, List.length_set, List.length_replicate] at c_103 ⊢; omega)), hK11 _ _ ?_⟩
 refine hK9 _ _ ?_
 refine Wp.region fun K12 hK12 => ?_
 simp only [go_sem, simprocAttr, hw8, hxc_101, hxc_102]
 first | apply hK12 | refine ⟨sd, hK12 _ _ ?_⟩
 simp only [thenQ, blockQ, ↓reduceIte]
 refine ⟨o2_89 ++ [c_101, c_102], hlt8, hnx_96 _ hm, ?_⟩
 simp only [go_sem, simprocAttr, hw8, hxc_101, hxc_102]
 try exact se2
end Go.Proofs.YthofobeoaimclaaDoor
