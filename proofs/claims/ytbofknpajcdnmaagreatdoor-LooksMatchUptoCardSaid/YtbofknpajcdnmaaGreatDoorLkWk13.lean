/- That the code does what the models say (part 13). -/
import Derived.Test.YtbofknpajcdnmaaGreatDoorLkWk0
import Derived.Test.YtbofknpajcdnmaaGreatDoorLkWk4
import Derived.Test.YtbofknpajcdnmaaGreatDoorLkWk5
import Derived.Test.YtbofknpajcdnmaaGreatDoorLkWk6
import Derived.Test.YtbofknpajcdnmaaGreatDoorLkWk7
set_option linter.unusedSimpArgs false
set_option linter.unusedVariables false
open Go.Proofs Go.Shelf
namespace Go.Proofs.YtbofknpajcdnmaaGreatDoor
open Go.Vc Go.Md
set_option maxRecDepth 100000
set_option maxHeartbeats 4000000
theorem ok_R_Diff(a_6:api_Machine)(b_7:api_Machine)(z:List api_Change)(hm:R_Diff a_6 b_7=some z):Does Tryz.prog 168 [.agg [.p (.l (List.map za a_6.Facts)),.p (.l (List.map zc a_6.Files)),.p (.l (List.map za a_6.Settings)),.p (.l (List.map zb a_6.Services))],.agg [.p (.l (List.map za b_7.Facts)),.p (.l (List.map zc b_7.Files)),.p (.l (List.map za b_7.Settings)),.p (.l (List.map zb b_7.Services))]] [] (fun r X=>r=.p (.l (List.map ze z))∧X=[]):=by
 unfold R_Diff at hm
 refine dW 0 249 [.tmp 4] Tryz.func168 fun B=>nA fun hA=>?_
 refine qS ?_;obtain⟨r_2,hr_2,hm⟩:=zd hm;obtain⟨r_1,hr_1,hm⟩:=zd hm
 refine dS (pl [(0,none),(2,none),(1,some [2]),(3,some []),(4,none),(5,none)]) fun _ hK2=>?_
 refine cE [] (zbr a_6 _ hr_2) ?_;refine cE [] (zbr b_7 _ hr_1) (hK2 _ _ ?_);refine qS ?_
 refine Wp.seqW fun K6 hK6 hW6=>?_
 obtain⟨k_29,hk_29,hm⟩:=zj hm
 have hcut6:∀s,k_29 s=some z→K6 [(5,.ptr 6 0),(6,.ptr 11 0),(7,.buf 12)] [.cells 26 [.top,.top,.top,.top],.cells 26 [.top,.top,.top,.top],.cells 26 [.top,.top,.top,.top],.mp true (zx Dt.s zc r_2.1),.mp false (zx Dt.s ecS r_2.2.1),.mp true (zx Dt.s zb r_2.2.2.1),.cells 129 [.p (.l (List.map za r_2.2.2.2)),.mp 3,.mp 4,.mp 5],.cells 26 [.top,.top,.top,.top],.mp true (zx Dt.s zc r_1.1),.mp false (zx Dt.s ecS r_1.2.1),.mp true (zx Dt.s zb r_1.2.2.1),.cells 129 [.p (.l (List.map za r_1.2.2.2)),.mp 8,.mp 9,.mp 10],.buf 44 10 (List.map ze s)]:=by
  intro o12_68 hs;have hm:=hk_29 _ hs;clear hs
  try dsimp only at hm⊢
  refine hK6 _ _ (Wp.seqW fun K7 hK7 hW7=>?_);obtain⟨k_30,hk_30,hm⟩:=zj hm
  have hcut7:∀s,k_30 s=some z→K7 [(5,.ptr 6 0),(6,.ptr 11 0),(7,.buf 12)] [.cells 26 [.top,.top,.top,.top],.cells 26 [.top,.top,.top,.top],.cells 26 [.top,.top,.top,.top],.mp true (zx Dt.s zc r_2.1),.mp false (zx Dt.s ecS r_2.2.1),.mp true (zx Dt.s zb r_2.2.2.1),.cells 129 [.p (.l (List.map za r_2.2.2.2)),.mp 3,.mp 4,.mp 5],.cells 26 [.top,.top,.top,.top],.mp true (zx Dt.s zc r_1.1),.mp false (zx Dt.s ecS r_1.2.1),.mp true (zx Dt.s zb r_1.2.2.1),.cells 129 [.p (.l (List.map za r_1.2.2.2)),.mp 8,.mp 9,.mp 10],.buf 44 10 (List.map ze s)]:=by
   intro o12_69 hs;have hm:=hk_30 _ hs;clear hs
   try dsimp only at hm⊢
   refine hK7 _ _ (Wp.seqW fun K8 hK8 hW8=>?_);obtain⟨k_31,hk_31,hm⟩:=zj hm
   have hcut8:∀s,k_31 s=some z→K8 [(5,.ptr 6 0),(6,.ptr 11 0),(7,.buf 12)] [.cells 26 [.top,.top,.top,.top],.cells 26 [.top,.top,.top,.top],.cells 26 [.top,.top,.top,.top],.mp true (zx Dt.s zc r_2.1),.mp false (zx Dt.s ecS r_2.2.1),.mp true (zx Dt.s zb r_2.2.2.1),.cells 129 [.p (.l (List.map za r_2.2.2.2)),.mp 3,.mp 4,.mp 5],.cells 26 [.top,.top,.top,.top],.mp true (zx Dt.s zc r_1.1),.mp false (zx Dt.s ecS r_1.2.1),.mp true (zx Dt.s zb r_1.2.2.1),.cells 129 [.p (.l (List.map za r_1.2.2.2)),.mp 8,.mp 9,.mp 10],.buf 44 10 (List.map ze s)]:=by
    intro o12_70 hs;have hm:=hk_31 _ hs;clear hs
    try dsimp only at hm⊢
    refine hK8 _ _ (Wp.seqW fun K9 hK9 hW9=>?_);obtain⟨k_32,hk_32,hm⟩:=zj hm
    have hcut9:∀s,k_32 s=some z→K9 [(5,.ptr 6 0),(6,.ptr 11 0),(7,.buf 12)] [.cells 26 [.top,.top,.top,.top],.cells 26 [.top,.top,.top,.top],.cells 26 [.top,.top,.top,.top],.mp true (zx Dt.s zc r_2.1),.mp false (zx Dt.s ecS r_2.2.1),.mp true (zx Dt.s zb r_2.2.2.1),.cells 129 [.p (.l (List.map za r_2.2.2.2)),.mp 3,.mp 4,.mp 5],.cells 26 [.top,.top,.top,.top],.mp true (zx Dt.s zc r_1.1),.mp false (zx Dt.s ecS r_1.2.1),.mp true (zx Dt.s zb r_1.2.2.1),.cells 129 [.p (.l (List.map za r_1.2.2.2)),.mp 8,.mp 9,.mp 10],.buf 44 10 (List.map ze s)]:=by
     intro o12_71 hs;have hm:=hk_32 _ hs;clear hs
     try dsimp only at hm⊢
     refine hK9 _ _ (Wp.seqW fun K10 hK10 hW10=>?_);obtain⟨k_33,hk_33,hm⟩:=zj hm
     have hcut10:∀s,k_33 s=some z→K10 [(5,.ptr 6 0),(6,.ptr 11 0),(7,.buf 12)] [.cells 26 [.top,.top,.top,.top],.cells 26 [.top,.top,.top,.top],.cells 26 [.top,.top,.top,.top],.mp true (zx Dt.s zc r_2.1),.mp false (zx Dt.s ecS r_2.2.1),.mp true (zx Dt.s zb r_2.2.2.1),.cells 129 [.p (.l (List.map za r_2.2.2.2)),.mp 3,.mp 4,.mp 5],.cells 26 [.top,.top,.top,.top],.mp true (zx Dt.s zc r_1.1),.mp false (zx Dt.s ecS r_1.2.1),.mp true (zx Dt.s zb r_1.2.2.1),.cells 129 [.p (.l (List.map za r_1.2.2.2)),.mp 8,.mp 9,.mp 10],.buf 44 10 (List.map ze s)]:=by
      intro o12_72 hs;have hm:=hk_33 _ hs;clear hs
      try dsimp only at hm⊢
      refine hK10 _ _ (Wp.seqW fun K11 hK11 hW11=>?_);obtain⟨k_34,hk_34,hm⟩:=zj hm
      have hcut11:∀s,k_34 s=some z→K11 [(7,.buf 12)] [.cells 26 [.top,.top,.top,.top],.cells 26 [.top,.top,.top,.top],.cells 26 [.top,.top,.top,.top],.mp true (zx Dt.s zc r_2.1),.mp false (zx Dt.s ecS r_2.2.1),.mp true (zx Dt.s zb r_2.2.2.1),.cells 129 [.top,.top,.top,.top],.cells 26 [.top,.top,.top,.top],.mp true (zx Dt.s zc r_1.1),.mp false (zx Dt.s ecS r_1.2.1),.mp true (zx Dt.s zb r_1.2.2.1),.cells 129 [.top,.top,.top,.top],.buf 44 10 (List.map ze s)]:=by
       intro o12_73 hs;have hm:=hk_34 _ hs;clear hs
       try dsimp only at hm⊢
       exact hK11 _ _ (wQ)
      clear hK11 hk_34;obtain⟨r_23,hr_23,hm⟩:=zd hm
      refine rS fun _ hK13=>?_
      refine cQ [10] (fun hg=>zbL r_1.2.2.1 _ hr_23) (hK13 _ _ ?_);refine Wp.block ?_;obtain⟨k_53,hk_53,hm⟩:=zp hm
      refine fL 210 r_23.length fun hl_59=>?_
      refine Wp.forL (fun i_35 s=>[(5,.ptr 6 0),(6,.ptr 11 0),(7,.buf 12),(210,.p (.l (List.map ecS r_23))),(211,.p (.i .i64 (r_23.length:Int))),(212,.p (.i .i64 (i_35:Int)))]) (fun i_35 s=>[.cells 26 [.top,.top,.top,.top],.cells 26 [.top,.top,.top,.top],.cells 26 [.top,.top,.top,.top],.mp true (zx Dt.s zc r_2.1),.mp false (zx Dt.s ecS r_2.2.1),.mp true (zx Dt.s zb r_2.2.2.1),.cells 129 [.p (.l (List.map za r_2.2.2.2)),.mp 3,.mp 4,.mp 5],.cells 26 [.top,.top,.top,.top],.mp true (zx Dt.s zc r_1.1),.mp false (zx Dt.s ecS r_1.2.1),.mp true (zx Dt.s zb r_1.2.2.1),.cells 129 [.p (.l (List.map za r_1.2.2.2)),.mp 8,.mp 9,.mp 10],.buf 44 10 (List.map ze s)]) wF hm ?_;clear hm;intro i_35 o12_41 hii_35 hm
      try dsimp only at hm⊢
      refine qS ?_
      refine Wp.seqW fun _ hK16 _=>Wp.cond rfl ⟨⟩ (fun hc16=>?_) fun hc16=>Wp.exit (hW11 _ _ _ _ wF (hcut11 o12_41 (hk_53 _ (zt hm (geN hc16)))))
      have hlt16:=ltN hc16;have hw16:=zn hlt16 hl_59;obtain⟨s_4,nx_42,hxs_4,hys_4,hnx_42,hm⟩:=zo hm hlt16;replace hxs_4:=hxs_4 ecS;refine Wp.skip ?_;simp only[zq];refine hK16 _ _ (Wp.seqW fun _ hK17 _=>Wp.block ?_);have hA:=And.intro hw16 hxs_4;refine q6 ?_;obtain⟨q_74,hq_11,hm⟩:=zZ hm;have hq_11d:=zM (e:=zb) zai r_2.2.2.1 s_4 (api_Service.mk [] [] false false);have hq_11s:=zL (e:=zb) zai r_2.2.2.1 s_4;simp only[hq_11,zb,List.map_nil]at hq_11d hq_11s;have hA:=And.intro hw16 (And.intro hxs_4 (And.intro hq_11d hq_11s));refine q6 ?_;obtain⟨q_75,hq_12,hm⟩:=zZ hm;have hq_12d:=zM (e:=zb) zai r_1.2.2.1 s_4 (api_Service.mk [] [] false false);have hq_12s:=zL (e:=zb) zai r_1.2.2.1 s_4;simp only[hq_12,zb,List.map_nil]at hq_12d hq_12s;have hA:=And.intro hw16 (And.intro hxs_4 (And.intro hq_12d hq_12s))
      refine dS (pl [(0,none),(1,none),(2,none),(3,none),(4,none),(5,none),(6,none),(7,none),(8,none),(9,none),(10,none),(11,none)]) fun _ hK20=>hK20 _ _ ?_
      refine cN hm (fun hm=>?_) fun hm=>?_
      ·obtain⟨q_60,hq_13,hm⟩:=zZ hm
       have hq_13d:=zM (e:=zb) zai r_1.2.2.1 s_4 (api_Service.mk [] [] false false);have hq_13s:=zL (e:=zb) zai r_1.2.2.1 s_4;simp only[hq_13,zb,List.map_nil]at hq_13d hq_13s;obtain⟨c_76,hm⟩:=zh hm;have hA:=And.intro hw16 (And.intro hxs_4 (And.intro hq_13d hq_13s));refine r6 ?_;refine hK17 _ _ (r6 ?_);exact wN (o12_41++[(api_Change.mk 5 (api_File.mk [] [] false) (api_Setting.mk [] []) (q_60.getD (api_Service.mk [] [] false false)))]) hlt16 (hnx_42 _ hm)
      ·refine Wp.skip (hK17 _ _ (r6 ?_))
       exact wN o12_41 hlt16 (hnx_42 _ hm)
     clear hK10 hk_33;obtain⟨r_24,hr_24,hm⟩:=zd hm
     refine rS fun _ hK25=>?_
     refine cQ [9] (fun hg=>zc9 r_1.2.1 _ hr_24) (hK25 _ _ ?_);refine Wp.block ?_;obtain⟨k_54,hk_54,hm⟩:=zp hm
     refine fL 166 r_24.length fun hl_61=>?_
     refine Wp.forL (fun i_36 s=>[(5,.ptr 6 0),(6,.ptr 11 0),(7,.buf 12),(166,.p (.l (List.map ecS r_24))),(167,.p (.i .i64 (r_24.length:Int))),(168,.p (.i .i64 (i_36:Int)))]) (fun i_36 s=>[.cells 26 [.top,.top,.top,.top],.cells 26 [.top,.top,.top,.top],.cells 26 [.top,.top,.top,.top],.mp true (zx Dt.s zc r_2.1),.mp false (zx Dt.s ecS r_2.2.1),.mp true (zx Dt.s zb r_2.2.2.1),.cells 129 [.p (.l (List.map za r_2.2.2.2)),.mp 3,.mp 4,.mp 5],.cells 26 [.top,.top,.top,.top],.mp true (zx Dt.s zc r_1.1),.mp false (zx Dt.s ecS r_1.2.1),.mp true (zx Dt.s zb r_1.2.2.1),.cells 129 [.p (.l (List.map za r_1.2.2.2)),.mp 8,.mp 9,.mp 10],.buf 44 10 (List.map ze s)]) wF hm ?_;clear hm;intro i_36 o12_43 hii_36 hm
     try dsimp only at hm⊢
     refine qS ?_
     refine Wp.seqW fun _ hK28 _=>Wp.cond rfl ⟨⟩ (fun hc28=>?_) fun hc28=>Wp.exit (hW10 _ _ _ _ wF (hcut10 o12_43 (hk_54 _ (zt hm (geN hc28)))))
     have hlt28:=ltN hc28;have hw28:=zn hlt28 hl_61;obtain⟨s_3,nx_44,hxs_3,hys_3,hnx_44,hm⟩:=zo hm hlt28;replace hxs_3:=hxs_3 ecS;refine Wp.skip ?_;simp only[zq];refine hK28 _ _ (Wp.seqW fun _ hK29 _=>Wp.block ?_);have hA:=And.intro hw28 hxs_3;refine q6 ?_;obtain⟨q_77,hq_14,hm⟩:=zZ hm;have hq_14d:=zM (e:=ecS) zai r_2.2.1 s_3 [];have hq_14s:=zL (e:=ecS) zai r_2.2.1 s_3;simp only[hq_14,ecS,List.map_nil]at hq_14d hq_14s;have hA:=And.intro hw28 (And.intro hxs_3 (And.intro hq_14d hq_14s));refine q6 ?_;obtain⟨q_78,hq_15,hm⟩:=zZ hm;have hq_15d:=zM (e:=ecS) zai r_1.2.1 s_3 [];have hq_15s:=zL (e:=ecS) zai r_1.2.1 s_3;simp only[hq_15,ecS,List.map_nil]at hq_15d hq_15s;have hA:=And.intro hw28 (And.intro hxs_3 (And.intro hq_15d hq_15s));refine q6 ?_
     refine cN hm (fun hm=>?_) fun hm=>?_
     ·obtain⟨q_62,hq_16,hm⟩:=zZ hm
      have hq_16d:=zM (e:=ecS) zai r_1.2.1 s_3 [];have hq_16s:=zL (e:=ecS) zai r_1.2.1 s_3;simp only[hq_16,ecS,List.map_nil]at hq_16d hq_16s;obtain⟨c_79,hm⟩:=zh hm;have hA:=And.intro hw28 (And.intro hxs_3 (And.intro hq_16d hq_16s));refine r6 ?_;refine hK29 _ _ (r6 ?_);exact wN (o12_43++[(api_Change.mk 3 (api_File.mk [] [] false) (api_Setting.mk s_3 (q_62.getD [])) (api_Service.mk [] [] false false))]) hlt28 (hnx_44 _ hm)
     ·refine Wp.skip (hK29 _ _ (r6 ?_))
      exact wN o12_43 hlt28 (hnx_44 _ hm)
    clear hK9 hk_32;obtain⟨r_25,hr_25,hm⟩:=zd hm
    refine rS fun _ hK37=>?_
    refine cQ [8] (fun hg=>zbs r_1.1 _ hr_25) (hK37 _ _ ?_);refine Wp.block ?_;obtain⟨k_55,hk_55,hm⟩:=zp hm
    refine fL 124 r_25.length fun hl_63=>?_
    refine Wp.forL (fun i_37 s=>[(5,.ptr 6 0),(6,.ptr 11 0),(7,.buf 12),(124,.p (.l (List.map ecS r_25))),(125,.p (.i .i64 (r_25.length:Int))),(126,.p (.i .i64 (i_37:Int)))]) (fun i_37 s=>[.cells 26 [.top,.top,.top,.top],.cells 26 [.top,.top,.top,.top],.cells 26 [.top,.top,.top,.top],.mp true (zx Dt.s zc r_2.1),.mp false (zx Dt.s ecS r_2.2.1),.mp true (zx Dt.s zb r_2.2.2.1),.cells 129 [.p (.l (List.map za r_2.2.2.2)),.mp 3,.mp 4,.mp 5],.cells 26 [.top,.top,.top,.top],.mp true (zx Dt.s zc r_1.1),.mp false (zx Dt.s ecS r_1.2.1),.mp true (zx Dt.s zb r_1.2.2.1),.cells 129 [.p (.l (List.map za r_1.2.2.2)),.mp 8,.mp 9,.mp 10],.buf 44 10 (List.map ze s)]) wF hm ?_;clear hm;intro i_37 o12_45 hii_37 hm
    try dsimp only at hm⊢
    refine qS ?_
    refine Wp.seqW fun _ hK40 _=>Wp.cond rfl ⟨⟩ (fun hc40=>?_) fun hc40=>Wp.exit (hW9 _ _ _ _ wF (hcut9 o12_45 (hk_55 _ (zt hm (geN hc40)))))
    have hlt40:=ltN hc40;have hw40:=zn hlt40 hl_63;obtain⟨s_5,nx_46,hxs_5,hys_5,hnx_46,hm⟩:=zo hm hlt40;replace hxs_5:=hxs_5 ecS;refine Wp.skip ?_;simp only[zq];refine hK40 _ _ (Wp.seqW fun _ hK41 _=>Wp.block ?_);have hA:=And.intro hw40 hxs_5;refine q6 ?_;obtain⟨q_80,hq_17,hm⟩:=zZ hm;have hq_17d:=zM (e:=zc) zai r_2.1 s_5 (api_File.mk [] [] false);have hq_17s:=zL (e:=zc) zai r_2.1 s_5;simp only[hq_17,zc,List.map_nil]at hq_17d hq_17s;have hA:=And.intro hw40 (And.intro hxs_5 (And.intro hq_17d hq_17s));refine q6 ?_;obtain⟨q_81,hq_18,hm⟩:=zZ hm;have hq_18d:=zM (e:=zc) zai r_1.1 s_5 (api_File.mk [] [] false);have hq_18s:=zL (e:=zc) zai r_1.1 s_5;simp only[hq_18,zc,List.map_nil]at hq_18d hq_18s;have hA:=And.intro hw40 (And.intro hxs_5 (And.intro hq_18d hq_18s))
    refine dS (pl [(0,none),(1,none),(2,none),(3,none),(4,none),(5,none),(6,none),(7,none),(8,none),(9,none),(10,none),(11,none)]) fun _ hK44=>hK44 _ _ ?_
    refine cN hm (fun hm=>?_) fun hm=>?_
    ·obtain⟨q_64,hq_19,hm⟩:=zZ hm
     have hq_19d:=zM (e:=zc) zai r_1.1 s_5 (api_File.mk [] [] false);have hq_19s:=zL (e:=zc) zai r_1.1 s_5;simp only[hq_19,zc,List.map_nil]at hq_19d hq_19s;obtain⟨c_82,hm⟩:=zh hm;have hA:=And.intro hw40 (And.intro hxs_5 (And.intro hq_19d hq_19s));refine r6 ?_;refine hK41 _ _ (r6 ?_);exact wN (o12_45++[(api_Change.mk 1 (q_64.getD (api_File.mk [] [] false)) (api_Setting.mk [] []) (api_Service.mk [] [] false false))]) hlt40 (hnx_46 _ hm)
    ·refine Wp.skip (hK41 _ _ (r6 ?_))
     exact wN o12_45 hlt40 (hnx_46 _ hm)
   clear hK8 hk_31;obtain⟨r_26,hr_26,hm⟩:=zd hm
   refine rS fun _ hK49=>?_
   refine cQ [5] (fun hg=>zbL r_2.2.2.1 _ hr_26) (hK49 _ _ ?_);refine Wp.block ?_;obtain⟨k_56,hk_56,hm⟩:=zp hm
   refine fL 96 r_26.length fun hl_65=>?_
   refine Wp.forL (fun i_38 s=>[(5,.ptr 6 0),(6,.ptr 11 0),(7,.buf 12),(96,.p (.l (List.map ecS r_26))),(97,.p (.i .i64 (r_26.length:Int))),(98,.p (.i .i64 (i_38:Int)))]) (fun i_38 s=>[.cells 26 [.top,.top,.top,.top],.cells 26 [.top,.top,.top,.top],.cells 26 [.top,.top,.top,.top],.mp true (zx Dt.s zc r_2.1),.mp false (zx Dt.s ecS r_2.2.1),.mp true (zx Dt.s zb r_2.2.2.1),.cells 129 [.p (.l (List.map za r_2.2.2.2)),.mp 3,.mp 4,.mp 5],.cells 26 [.top,.top,.top,.top],.mp true (zx Dt.s zc r_1.1),.mp false (zx Dt.s ecS r_1.2.1),.mp true (zx Dt.s zb r_1.2.2.1),.cells 129 [.p (.l (List.map za r_1.2.2.2)),.mp 8,.mp 9,.mp 10],.buf 44 10 (List.map ze s)]) wF hm ?_;clear hm;intro i_38 o12_47 hii_38 hm
   try dsimp only at hm⊢
   refine qS ?_
   refine Wp.seqW fun _ hK52 _=>Wp.cond rfl ⟨⟩ (fun hc52=>?_) fun hc52=>Wp.exit (hW8 _ _ _ _ wF (hcut8 o12_47 (hk_56 _ (zt hm (geN hc52)))))
   have hlt52:=ltN hc52;have hw52:=zn hlt52 hl_65;obtain⟨s_8,nx_48,hxs_8,hys_8,hnx_48,hm⟩:=zo hm hlt52;replace hxs_8:=hxs_8 ecS;refine Wp.skip ?_;simp only[zq];refine hK52 _ _ (Wp.seqW fun _ hK53 _=>Wp.block ?_);have hA:=And.intro hw52 hxs_8;refine q6 ?_;obtain⟨q_83,hq_20,hm⟩:=zZ hm;have hq_20d:=zM (e:=zb) zai r_1.2.2.1 s_8 (api_Service.mk [] [] false false);have hq_20s:=zL (e:=zb) zai r_1.2.2.1 s_8;simp only[hq_20,zb,List.map_nil]at hq_20d hq_20s;have hA:=And.intro hw52 (And.intro hxs_8 (And.intro hq_20d hq_20s));refine q6 ?_;refine q6 ?_
   refine cN hm (fun hm=>?_) fun hm=>?_
   ·obtain⟨c_84,hm⟩:=zh hm
    refine r6 ?_;refine hK53 _ _ (r6 ?_);exact wN (o12_47++[(api_Change.mk 6 (api_File.mk [] [] false) (api_Setting.mk [] []) (api_Service.mk s_8 [] false false))]) hlt52 (hnx_48 _ hm)
   ·refine Wp.skip (hK53 _ _ (r6 ?_))
    exact wN o12_47 hlt52 (hnx_48 _ hm)
  clear hK7 hk_30;obtain⟨r_27,hr_27,hm⟩:=zd hm
  refine rS fun _ hK61=>?_
  refine cQ [4] (fun hg=>zc9 r_2.2.1 _ hr_27) (hK61 _ _ ?_);refine Wp.block ?_;obtain⟨k_57,hk_57,hm⟩:=zp hm
  refine fL 68 r_27.length fun hl_66=>?_
  refine Wp.forL (fun i_39 s=>[(5,.ptr 6 0),(6,.ptr 11 0),(7,.buf 12),(68,.p (.l (List.map ecS r_27))),(69,.p (.i .i64 (r_27.length:Int))),(70,.p (.i .i64 (i_39:Int)))]) (fun i_39 s=>[.cells 26 [.top,.top,.top,.top],.cells 26 [.top,.top,.top,.top],.cells 26 [.top,.top,.top,.top],.mp true (zx Dt.s zc r_2.1),.mp false (zx Dt.s ecS r_2.2.1),.mp true (zx Dt.s zb r_2.2.2.1),.cells 129 [.p (.l (List.map za r_2.2.2.2)),.mp 3,.mp 4,.mp 5],.cells 26 [.top,.top,.top,.top],.mp true (zx Dt.s zc r_1.1),.mp false (zx Dt.s ecS r_1.2.1),.mp true (zx Dt.s zb r_1.2.2.1),.cells 129 [.p (.l (List.map za r_1.2.2.2)),.mp 8,.mp 9,.mp 10],.buf 44 10 (List.map ze s)]) wF hm ?_;clear hm;intro i_39 o12_49 hii_39 hm
  try dsimp only at hm⊢
  refine qS ?_
  refine Wp.seqW fun _ hK64 _=>Wp.cond rfl ⟨⟩ (fun hc64=>?_) fun hc64=>Wp.exit (hW7 _ _ _ _ wF (hcut7 o12_49 (hk_57 _ (zt hm (geN hc64)))))
  have hlt64:=ltN hc64;have hw64:=zn hlt64 hl_66;obtain⟨s_9,nx_50,hxs_9,hys_9,hnx_50,hm⟩:=zo hm hlt64;replace hxs_9:=hxs_9 ecS;refine Wp.skip ?_;simp only[zq];refine hK64 _ _ (Wp.seqW fun _ hK65 _=>Wp.block ?_);have hA:=And.intro hw64 hxs_9;refine q6 ?_;obtain⟨q_85,hq_21,hm⟩:=zZ hm;have hq_21d:=zM (e:=ecS) zai r_1.2.1 s_9 [];have hq_21s:=zL (e:=ecS) zai r_1.2.1 s_9;simp only[hq_21,ecS,List.map_nil]at hq_21d hq_21s;have hA:=And.intro hw64 (And.intro hxs_9 (And.intro hq_21d hq_21s));refine q6 ?_;refine q6 ?_
  refine cN hm (fun hm=>?_) fun hm=>?_
  ·obtain⟨c_86,hm⟩:=zh hm
   refine r6 ?_;refine hK65 _ _ (r6 ?_);exact wN (o12_49++[(api_Change.mk 4 (api_File.mk [] [] false) (api_Setting.mk s_9 []) (api_Service.mk [] [] false false))]) hlt64 (hnx_50 _ hm)
  ·refine Wp.skip (hK65 _ _ (r6 ?_))
   exact wN o12_49 hlt64 (hnx_50 _ hm)
 clear hK6 hk_29;obtain⟨r_28,hr_28,hm⟩:=zd hm
 refine rS fun _ hK73=>?_
 refine cQ [3] (fun hg=>zbs r_2.1 _ hr_28) (hK73 _ _ ?_);refine Wp.block (Wp.adopt 7 44 10 rfl ?_);simp only[go_sem,simprocAttr];obtain⟨k_58,hk_58,hm⟩:=zp hm
 refine fL 40 r_28.length fun hl_67=>?_
 refine Wp.forL (fun i_40 s=>[(5,.ptr 6 0),(6,.ptr 11 0),(7,.buf 12),(40,.p (.l (List.map ecS r_28))),(41,.p (.i .i64 (r_28.length:Int))),(42,.p (.i .i64 (i_40:Int)))]) (fun i_40 s=>[.cells 26 [.p (.l (List.map za a_6.Facts)),.p (.l (List.map zc a_6.Files)),.p (.l (List.map za a_6.Settings)),.p (.l (List.map zb a_6.Services))],.cells 26 [.p (.l (List.map za b_7.Facts)),.p (.l (List.map zc b_7.Files)),.p (.l (List.map za b_7.Settings)),.p (.l (List.map zb b_7.Services))],.cells 26 [.top,.top,.top,.top],.mp true (zx Dt.s zc r_2.1),.mp false (zx Dt.s ecS r_2.2.1),.mp true (zx Dt.s zb r_2.2.2.1),.cells 129 [.p (.l (List.map za r_2.2.2.2)),.mp 3,.mp 4,.mp 5],.cells 26 [.top,.top,.top,.top],.mp true (zx Dt.s zc r_1.1),.mp false (zx Dt.s ecS r_1.2.1),.mp true (zx Dt.s zb r_1.2.2.1),.cells 129 [.p (.l (List.map za r_1.2.2.2)),.mp 8,.mp 9,.mp 10],.buf 44 10 (List.map ze s)]) wF hm ?_;clear hm;intro i_40 o12_51 hii_40 hm
 try dsimp only at hm⊢
 refine qS ?_
 refine Wp.seqW fun _ hK76 _=>Wp.cond rfl ⟨⟩ (fun hc76=>?_) fun hc76=>Wp.exit (hW6 _ _ _ _ wF (hcut6 o12_51 (hk_58 _ (zt hm (geN hc76)))))
 have hlt76:=ltN hc76;have hw76:=zn hlt76 hl_67;obtain⟨s_10,nx_52,hxs_10,hys_10,hnx_52,hm⟩:=zo hm hlt76;replace hxs_10:=hxs_10 ecS;refine Wp.skip ?_;simp only[zq];refine hK76 _ _ (Wp.seqW fun _ hK77 _=>Wp.block ?_);have hA:=And.intro hw76 hxs_10;refine q6 ?_;obtain⟨q_87,hq_22,hm⟩:=zZ hm;have hq_22d:=zM (e:=zc) zai r_1.1 s_10 (api_File.mk [] [] false);have hq_22s:=zL (e:=zc) zai r_1.1 s_10;simp only[hq_22,zc,List.map_nil]at hq_22d hq_22s;have hA:=And.intro hw76 (And.intro hxs_10 (And.intro hq_22d hq_22s));refine q6 ?_;refine q6 ?_
 refine cN hm (fun hm=>?_) fun hm=>?_
 ·obtain⟨c_88,hm⟩:=zh hm
  refine r6 ?_;refine hK77 _ _ (r6 ?_);exact wN (o12_51++[(api_Change.mk 2 (api_File.mk s_10 [] false) (api_Setting.mk [] []) (api_Service.mk [] [] false false))]) hlt76 (hnx_52 _ hm)
 ·refine Wp.skip (hK77 _ _ (r6 ?_))
  exact wN o12_51 hlt76 (hnx_52 _ hm)
theorem ok_R_Undo(m_1:api_Machine)(l_2:List api_Change)(z:List api_Change×Int)(hm:R_Undo m_1 l_2=some z):Does Tryz.prog 99 [.agg [.p (.l (List.map za m_1.Facts)),.p (.l (List.map zc m_1.Files)),.p (.l (List.map za m_1.Settings)),.p (.l (List.map zb m_1.Services))],.p (.l (List.map ze l_2))] [] (fun r X=>r=.tup [.p (.l (List.map ze z.1)),.p (.i .i64 z.2)]∧X=[]):=by
 unfold R_Undo at hm
 refine dW 0 20 [.tmp 4,.tmp 5] Tryz.func99 fun B=>nA fun hA=>?_
 refine qS ?_;obtain⟨r_3,hr_3,hm⟩:=zd hm
 refine rS fun _ hK2=>?_
 refine cF (zfX m_1 l_2 _ hr_3) (hK2 _ _ ?_)
 refine Wp.seqW fun _ hK4 _=>qS ?_
 refine cN hm (fun hm=>?_) fun hm=>?_
 ·refine qS ?_
  refine Wp.ret ?_;simp only[zq,zD];refine zO ?_;cases hm;exact zf5
 ·refine Wp.skip (hK4 _ _ ?_)
  obtain⟨r_4,hr_4,hm⟩:=zd hm
  refine rS fun _ hK8=>?_
  refine cF (ok_R_Diff r_3.1 m_1 _ hr_4) (hK8 _ _ ?_);exact wR
theorem zgx(path_1:Str)(z:api_Change)(hm:zc5 path_1=some z):Does Tryz.prog 102 [.p (.s path_1)] [] (fun r X=>r=.agg [.p (.i .i64 z.Kind),.p (.s z.File.Path),.p (.s z.File.Data),.p (.b z.File.Runs),.p (.s z.Setting.Key),.p (.s z.Setting.Value),.p (.s z.Service.Name),.p (.s z.Service.Path),.p (.b z.Service.Auto),.p (.b z.Service.On)]∧X=[]):=by
 unfold zc5 at hm
 refine dW 0 6 [.cell 2 44] Tryz.func102 fun B=>nA fun hA=>?_
 refine qS ?_;exact wQ
theorem zjV(last_3:Str)(o0_0_4:List api_Setting)(m1_2:List (Str×api_File))(m2_5:List (Str×Str))(m3_6:List (Str×api_Service))(z:List api_Change)(hm:zcc last_3 o0_0_4 m1_2 m2_5 m3_6=some z):Does Tryz.prog 100 [.ptr 0 0,.p (.s last_3)] [.cells 129 [.p (.l (List.map za o0_0_4)),.mp 1,.mp 2,.mp 3],.mp true (zx Dt.s zc m1_2),.mp false (zx Dt.s ecS m2_5),.mp true (zx Dt.s zb m3_6)] (fun r X=>r=.buf 4∧X=[.cells 129 [.p (.l (List.map za o0_0_4)),.mp 1,.mp 2,.mp 3],.mp true (zx Dt.s zc m1_2),.mp false (zx Dt.s ecS m2_5),.mp true (zx Dt.s zb m3_6),.buf 44 10 (List.map ze z)]):=by
 unfold zcc at hm
 refine dW 5 37 [.tmp 4] Tryz.func100 fun B=>nA fun hA=>?_
 refine qS ?_;refine qS ?_;refine qS ?_
 refine Wp.seqW fun K4 hK4 hW4=>?_
 obtain⟨k_8,hk_8,hm⟩:=zj hm
 have hcut4:∀s,k_8 s=some z→K4 [(1,.p (.s last_3)),(5,.buf 4),(6,.p (.b s.1))] [.cells 129 [.p (.l (List.map za o0_0_4)),.mp 1,.mp 2,.mp 3],.mp true (zx Dt.s zc m1_2),.mp false (zx Dt.s ecS m2_5),.mp true (zx Dt.s zb m3_6),.buf 44 10 (List.map ze s.2)]:=by
  intro s hs;have hm:=hk_8 _ hs;clear hs;obtain⟨end_18,o4_19⟩:=s
  try dsimp only at hm⊢
  refine hK4 _ _ (Wp.seqW fun _ hK5 _=>qS ?_)
  refine cN hm (fun hm=>?_) fun hm=>?_
  ·obtain⟨r_14,hr_14,hm⟩:=zd hm
   obtain⟨c_20,hm⟩:=zh hm
   refine rE fun _ hK8=>?_
   refine cX (fun hg=>zgx last_3 _ hr_14) (hK8 _ _ ?_);exact hK5 _ _ (wQ)
  ·exact Wp.skip (hK5 _ _ (wQ))
 clear hK4 hk_8;obtain⟨r_7,hr_7,hm⟩:=zd hm
 refine rS fun _ hK12=>?_
 refine cQ [1] (fun hg=>zbs m1_2 _ hr_7) (hK12 _ _ ?_);refine Wp.block (Wp.adopt 5 44 10 rfl ?_);simp only[go_sem,simprocAttr];obtain⟨k_15,hk_15,hm⟩:=zp hm
 refine fL 13 r_7.length fun hl_17=>?_
 refine Wp.forL (fun i_9 s=>[(1,.p (.s last_3)),(5,.buf 4),(6,.p (.b s.1)),(13,.p (.l (List.map ecS r_7))),(14,.p (.i .i64 (r_7.length:Int))),(15,.p (.i .i64 (i_9:Int)))]) (fun i_9 s=>[.cells 129 [.p (.l (List.map za o0_0_4)),.mp 1,.mp 2,.mp 3],.mp true (zx Dt.s zc m1_2),.mp false (zx Dt.s ecS m2_5),.mp true (zx Dt.s zb m3_6),.buf 44 10 (List.map ze s.2)]) wF hm ?_;clear hm;intro i_9 s hii_9 hm;obtain⟨end_12,o4_10⟩:=s
 try dsimp only at hm⊢
 refine qS ?_
 refine Wp.seqW fun _ hK15 _=>Wp.cond rfl ⟨⟩ (fun hc15=>?_) fun hc15=>Wp.exit (hW4 _ _ _ _ wF (hcut4 (end_12,o4_10) (hk_15 _ (zt hm (geN hc15)))))
 have hlt15:=ltN hc15;have hw15:=zn hlt15 hl_17;obtain⟨s_1,nx_11,hxs_1,hys_1,hnx_11,hm⟩:=zo hm hlt15;replace hxs_1:=hxs_1 ecS;refine Wp.skip ?_;simp only[zq];refine hK15 _ _ (Wp.seqW fun _ hK16 _=>Wp.block ?_);have hA:=And.intro hw15 hxs_1;refine q6 ?_;refine q6 ?_
 refine cN hm (fun hm=>?_) fun hm=>?_
 ·refine r6 ?_
  refine hK16 _ _ (r6 ?_);exact wN (true,o4_10) hlt15 (hnx_11 _ hm)
 ·obtain⟨r_16,hr_16,hm⟩:=zd hm
  refine rS fun _ hK22=>?_
  refine cX (fun hg=>zha s_1 _ hr_16) (hK22 _ _ ?_)
  refine cN hm (fun hm=>?_) fun hm=>?_
  ·obtain⟨r_13,hr_13,hm⟩:=zd hm
   obtain⟨c_21,hm⟩:=zh hm
   refine rE fun _ hK25=>?_
   refine cX (fun hg=>zgx s_1 _ hr_13) (hK25 _ _ ?_);refine hK16 _ _ (r6 ?_);exact wN (end_12,o4_10++[r_13]) hlt15 (hnx_11 _ hm)
  ·refine Wp.skip (hK16 _ _ (r6 ?_))
   exact wN (end_12,o4_10) hlt15 (hnx_11 _ hm)
theorem ok_R_put(path_1:Str)(data_2:Str)(z:api_Change)(hm:R_put path_1 data_2=some z):Does Tryz.prog 101 [.p (.s path_1),.p (.s data_2)] [] (fun r X=>r=.agg [.p (.i .i64 z.Kind),.p (.s z.File.Path),.p (.s z.File.Data),.p (.b z.File.Runs),.p (.s z.Setting.Key),.p (.s z.Setting.Value),.p (.s z.Service.Name),.p (.s z.Service.Path),.p (.b z.Service.Auto),.p (.b z.Service.On)]∧X=[]):=by
 unfold R_put at hm
 refine dW 0 9 [.cell 4 44] Tryz.func101 fun B=>nA fun hA=>?_
 refine qS ?_;exact wQ
end Go.Proofs.YtbofknpajcdnmaaGreatDoor
