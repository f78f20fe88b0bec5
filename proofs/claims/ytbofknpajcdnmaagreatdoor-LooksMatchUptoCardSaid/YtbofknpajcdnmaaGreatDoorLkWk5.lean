/- That the code does what the models say (part 5). -/
import Derived.Test.YtbofknpajcdnmaaGreatDoorLkWk0
import Derived.Test.YtbofknpajcdnmaaGreatDoorLkWk3
import Derived.Test.YtbofknpajcdnmaaGreatDoorLkWk4
set_option linter.unusedSimpArgs false
set_option linter.unusedVariables false
open Go.Proofs Go.Shelf
namespace Go.Proofs.YtbofknpajcdnmaaGreatDoor
open Go.Vc Go.Md
set_option maxRecDepth 100000
set_option maxHeartbeats 4000000
theorem zbq(s_1:Str)(prefix_2:Str)(z:Bool)(hm:zS s_1 prefix_2=some z):Does Tryz.prog 237 [.p (.s s_1),.p (.s prefix_2)] [] (fun r X=>r=.p (.b z)∧X=[]):=by
 unfold zS at hm
 refine dW 0 18 [.tmp 4] Tryz.func237 fun B=>nA fun hA=>?_
 refine qS ?_;obtain⟨c_3,hm⟩:=zh hm;exact wQ
theorem zaJ(s_1:Str)(prefix_2:Str)(z:Bool)(hm:zT s_1 prefix_2=some z):Does Tryz.prog 211 [.p (.s s_1),.p (.s prefix_2)] [] (fun r X=>r=.p (.b z)∧X=[]):=by
 unfold zT at hm
 refine dW 0 8 [.tmp 4] Tryz.func211 fun B=>nA fun hA=>?_
 refine qS ?_;obtain⟨r_3,hr_3,hm⟩:=zd hm
 refine rS fun _ hK2=>?_
 refine cX (fun hg=>zbq s_1 prefix_2 _ hr_3) (hK2 _ _ ?_);exact wR
theorem zjT(path_1:Str)(dir_2:Str)(z:Bool)(hm:zgM path_1 dir_2=some z):Does Tryz.prog 157 [.p (.s path_1),.p (.s dir_2)] [] (fun r X=>r=.p (.b z)∧X=[]):=by
 unfold zgM at hm
 refine dW 0 9 [.tmp 4] Tryz.func157 fun B=>nA fun hA=>?_
 refine qS ?_;obtain⟨c_4,hm⟩:=zh hm;obtain⟨r_3,hr_3,hm⟩:=zd hm
 refine rS fun _ hK2=>?_
 refine cX (fun hg=>zaJ path_1 (dir_2++([47]:Str)) _ hr_3) (hK2 _ _ ?_);exact wR
theorem zgO(c_1:api_Change)(o0_0_12:List api_Setting)(m1_2:List (Str×api_File))(m2_3:List (Str×Str))(m3_4:List (Str×api_Service))(z:Int×(List (Str×api_File))×(List (Str×Str))×(List (Str×api_Service)))(hm:zbX c_1 o0_0_12 m1_2 m2_3 m3_4=some z):Does Tryz.prog 78 [.ptr 0 0,.agg [.p (.i .i64 c_1.Kind),.p (.s c_1.File.Path),.p (.s c_1.File.Data),.p (.b c_1.File.Runs),.p (.s c_1.Setting.Key),.p (.s c_1.Setting.Value),.p (.s c_1.Service.Name),.p (.s c_1.Service.Path),.p (.b c_1.Service.Auto),.p (.b c_1.Service.On)]] [.cells 129 [.p (.l (List.map za o0_0_12)),.mp 1,.mp 2,.mp 3],.mp true (zx Dt.s zc m1_2),.mp false (zx Dt.s ecS m2_3),.mp true (zx Dt.s zb m3_4)] (fun r X=>r=.p (.i .i64 z.1)∧X=[.cells 129 [.p (.l (List.map za o0_0_12)),.mp 1,.mp 2,.mp 3],.mp true (zx Dt.s zc z.2.1),.mp false (zx Dt.s ecS z.2.2.1),.mp true (zx Dt.s zb z.2.2.2)]):=by
 unfold zbX at hm
 refine dW 4 208 [.tmp 4] Tryz.func78 fun B=>nA fun hA=>?_
 refine qS ?_
 refine Wp.seqW fun _ hK2 _=>?_
 obtain⟨r_22,hr_22,hm⟩:=zd hm
 refine rS fun _ hK3=>?_
 refine cX (fun hg=>zgP c_1 _ hr_22) (hK3 _ _ ?_);refine qS ?_
 refine cR hm fun hm=>?_
 refine Wp.skip (hK2 _ _ (Wp.seqW fun K8 hK8 hW8=>?_));obtain⟨k_16,hk_16,hm⟩:=zj hm
 have hcut8:∀s,k_16 s=some z→K8 [] [.cells 129 [.p (.l (List.map za o0_0_12)),.mp 1,.mp 2,.mp 3],.mp true (zx Dt.s zc s.1),.mp false (zx Dt.s ecS s.2.1),.mp true (zx Dt.s zb s.2.2)]:=by
  intro s hs;have hm:=hk_16 _ hs;clear hs;obtain⟨m1_34,m2_35,m3_36⟩:=s
  try dsimp only at hm⊢
  exact hK8 _ _ (wQ)
 clear hK8 hk_16;refine qS ?_;refine Wp.block (qS ?_)
 refine cN hm (fun hm=>?_) fun hm=>?_
 ·refine Wp.seqW fun _ hK13 _=>?_
  obtain⟨q_37,hq_6,hm⟩:=zZ hm;have hq_6d:=zM (e:=zc) zai m1_2 c_1.File.Path (api_File.mk [] [] false);have hq_6s:=zL (e:=zc) zai m1_2 c_1.File.Path;simp only[hq_6,zc,List.map_nil]at hq_6d hq_6s;have hA:=And.intro hq_6d hq_6s
  refine dS (pl [(0,none),(1,none),(2,none),(3,none),(4,none),(5,none),(6,none),(7,none),(8,none),(9,none),(10,none),(11,some [0,1,2,3,4,5,6,7,8,9,10]),(12,some [10]),(13,none)]) fun _ hK14=>hK14 _ _ ?_
  refine qS ?_
  refine cR hm fun hm=>?_
  refine Wp.skip (hK13 _ _ ?_);have hp_30:=zje (e:=zc) zai m1_2 c_1.File.Path;have hA:=hp_30
  refine dE (pl [(0,none),(1,none),(2,none),(3,none),(4,none),(5,none),(6,none),(7,some [])]) fun _ hK18=>hK18 _ _ ?_
  refine hW8 _ _ _ _ ?_ (hcut8 (zka m1_2 c_1.File.Path,m2_3,m3_4) hm);exact zbD
 ·refine qS ?_
  refine cN hm (fun hm=>?_) fun hm=>?_
  ·refine Wp.seqW fun _ hK21 _=>?_
   obtain⟨q_38,hq_7,hm⟩:=zZ hm;have hq_7d:=zM (e:=ecS) zai m2_3 c_1.Setting.Key [];have hq_7s:=zL (e:=ecS) zai m2_3 c_1.Setting.Key;simp only[hq_7,ecS,List.map_nil]at hq_7d hq_7s;have hA:=And.intro hq_7d hq_7s
   refine dS (pl [(0,none),(1,none),(2,none),(3,none),(4,none),(5,none),(6,none),(7,none),(8,none),(9,none),(10,none),(11,none),(12,none)]) fun _ hK22=>hK22 _ _ ?_
   refine qS ?_
   refine cR hm fun hm=>?_
   refine Wp.skip (hK21 _ _ ?_);have hp_31:=zje (e:=ecS) zai m2_3 c_1.Setting.Key;have hA:=hp_31
   refine dE (pl [(0,none),(1,none),(2,none),(3,none),(4,none),(5,none),(6,none),(7,some [])]) fun _ hK26=>hK26 _ _ ?_
   refine hW8 _ _ _ _ ?_ (hcut8 (m1_2,zka m2_3 c_1.Setting.Key,m3_4) hm);exact zbD
  ·refine qS ?_
   refine cN hm (fun hm=>?_) fun hm=>?_
   ·refine Wp.seqW fun _ hK29 _=>?_
    obtain⟨q_39,hq_8,hm⟩:=zZ hm;have hq_8d:=zM (e:=zb) zai m3_4 c_1.Service.Name (api_Service.mk [] [] false false);have hq_8s:=zL (e:=zb) zai m3_4 c_1.Service.Name;simp only[hq_8,zb,List.map_nil]at hq_8d hq_8s;have hA:=And.intro hq_8d hq_8s
    refine dS (pl [(0,none),(1,none),(2,none),(3,none),(4,none),(5,none),(6,none),(7,none),(8,none),(9,none),(10,none),(11,some [0,1,2,3,4,5,6,7,8,9,10]),(12,some [10]),(13,none)]) fun _ hK30=>hK30 _ _ ?_
    refine qS ?_
    refine cR hm fun hm=>?_
    refine Wp.skip (hK29 _ _ ?_);have hp_32:=zje (e:=zb) zai m3_4 c_1.Service.Name;have hA:=hp_32
    refine dE (pl [(0,none),(1,none),(2,none),(3,none),(4,none),(5,none),(6,none),(7,some [])]) fun _ hK34=>hK34 _ _ ?_
    refine hW8 _ _ _ _ ?_ (hcut8 (m1_2,m2_3,zka m3_4 c_1.Service.Name) hm);exact zbD
   ·refine qS ?_
    refine cN hm (fun hm=>?_) fun hm=>?_
    ·refine Wp.seqW fun K37 hK37 hW37=>?_
     obtain⟨k_17,hk_17,hm⟩:=zj hm
     have hcut37:∀s,k_17 s=some z→K37 [(0,.ptr 0 0),(3,.ptr 4 0)] [.cells 129 [.p (.l (List.map za o0_0_12)),.mp 1,.mp 2,.mp 3],.mp true (zx Dt.s zc m1_2),.mp false (zx Dt.s ecS m2_3),.mp true (zx Dt.s zb m3_4),.cells 44 [.p (.i .i64 c_1.Kind),.p (.s c_1.File.Path),.p (.s c_1.File.Data),.p (.b c_1.File.Runs),.p (.s c_1.Setting.Key),.p (.s c_1.Setting.Value),.p (.s c_1.Service.Name),.p (.s c_1.Service.Path),.p (.b c_1.Service.Auto),.p (.b c_1.Service.On)]]:=by
      intro s hs;have hm:=hk_17 _ hs;clear hs
      try dsimp only at hm⊢
      refine hK37 _ _ (Wp.seqW fun _ hK38 _=>?_);obtain⟨q_40,hq_9,hm⟩:=zZ hm;have hq_9d:=zM (e:=zc) zai m1_2 c_1.File.Path (api_File.mk [] [] false);have hq_9s:=zL (e:=zc) zai m1_2 c_1.File.Path;simp only[hq_9,zc,List.map_nil]at hq_9d hq_9s;have hA:=And.intro hq_9d hq_9s
      refine dS (pl [(0,none),(1,none),(2,none),(3,none),(4,none),(5,none),(6,none),(7,none),(8,none),(9,none),(10,none),(11,some [0,1,2,3,4,5,6,7,8,9,10]),(12,some [10]),(13,none)]) fun _ hK39=>hK39 _ _ ?_
      refine qS ?_
      refine cR hm fun hm=>?_
      refine Wp.skip (hK38 _ _ ?_);obtain⟨c_41,hm⟩:=zh hm;have hp_23:=zdI (e:=zc) zai m1_2 c_1.File.Path c_1.File;simp only[zc]at hp_23;have hA:=hp_23
      refine dE (pl [(0,none),(1,none),(2,none),(3,none),(4,none),(5,none),(6,none),(7,none),(8,none),(9,some [])]) fun _ hK43=>hK43 _ _ ?_
      refine hW8 _ _ _ _ ?_ (hcut8 (zcy m1_2 c_1.File.Path c_1.File,m2_3,m3_4) hm);exact zbD
     clear hK37 hk_17
     refine Wp.seqR fun K44 hK44=>?_
     simp only[go_sem,simprocAttr]
     try refine⟨sd,?_⟩
     refine Rg.range (i:=1) (ag:=?ag45) (es:=?es45) (kt:=?kt45) (et:=?et45) Is.mk Is.mk sg sg si si si ?cont45;intro bs_13 cl_18 hb_5 hn_24 hl_33;replace hb_5:=zma hb_5;simp only[go_sem,simprocAttr];refine kA hK44 ?_;refine Wp.block ?_;obtain⟨k_25,hk_25,hm⟩:=zhf hm;refine Wp.forM (bs:=bs_13) (fun sn_14 s=>[(0,.ptr 0 0),(3,.ptr 4 0),(128,.ptr 5 0)]) (fun sn_14 s=>[.cells 129 [.p (.l (List.map za o0_0_12)),.mp 1,.mp 2,.mp 3],.mpb true (zx Dt.s zc m1_2) bs_13 cl_18,.mp false (zx Dt.s ecS m2_3),.mp true (zx Dt.s zb m3_4),.cells 44 [.p (.i .i64 c_1.Kind),.p (.s c_1.File.Path),.p (.s c_1.File.Data),.p (.b c_1.File.Runs),.p (.s c_1.Setting.Key),.p (.s c_1.Setting.Value),.p (.s c_1.Service.Name),.p (.s c_1.Service.Path),.p (.b c_1.Service.Auto),.p (.b c_1.Service.On)],.it 1 cl_18 sn_14]) hb_5 ?_ hm ?_
     ·exact zbD
     clear hm;intro sn_14 s hm
     try dsimp only at hm⊢
     refine Wp.seqR fun K46 hK46=>?_
     simp only[go_sem,simprocAttr]
     try refine⟨by exact sd,?_⟩
     refine Rg.next (q:=5) (i:=1) (cl:=cl_18) (bs:=bs_13) (seen:=sn_14) (ag:=?ag46) (es:=?es46) Is.mk Is.mk sg sg si si si sg ?hb46 hn_24 hl_33 ?he46 ?hs46
     case hb46=>rw[zgG];exact hb_5
     case he46 =>
      intro hend;simp only[go_sem,simprocAttr]
      first|apply hK46|refine⟨by exact sd,hK46 _ _ ?_⟩
      refine Wp.seqW fun K47 hK47 hW47=>?_
      refine Wp.cond rfl ⟨⟩ (fun h=>?_) (fun h=>?_)
      ·cases h
      refine Wp.endM 1 5 (by simp only[go_sem,simprocAttr];exact Is.mk) (by simp only[go_sem,simprocAttr];exact Is.mk) (by simp only[go_sem,simprocAttr]) ?_;simp only[go_sem,simprocAttr];refine Wp.exit ?_;have hm:=hk_25 _ (zjp hm ((zcu (m:=bs_13) hb_5 rfl).trans hend))
      try dsimp only at hm
      refine hW37 _ _ _ _ ?_ (hcut37 () hm);exact zbD
     case hs46 =>
      intro j_42 p_43 st_44 hok_15;simp only[go_sem,simprocAttr]
      first|apply hK46|refine⟨by exact sd,hK46 _ _ ?_⟩
      refine Wp.seqW fun K47 hK47 hW47=>?_
      refine Wp.cond rfl ⟨⟩ (fun h=>?_) (fun h=>?_)
      rotate_left
      ·cases h
      refine Wp.skip ?_;simp only[zq];refine hK47 _ _ ?_;obtain⟨e_26,nx_19,hx_20,hnx_19,hm⟩:=zhe hm (hok_15.er _ hb_5).1;replace hx_20:=(hok_15.er _ hb_5).2.2.symm.trans hx_20;refine Wp.block ?_
      refine Wp.seqR fun K48 hK48=>?_
      simp only[go_sem,simprocAttr]
      try refine⟨sd,?_⟩
      refine Rg.entry (q:=5) (i:=1) (cl:=cl_18) (bs:=bs_13) (seen:=sn_14) (ag:=?ag49) (es:=?es49) (d:=?d49) (row:=?row49) Is.mk Is.mk sg sg si si si hn_24 hok_15.hp ?he49 ?cont49
      case he49=>exact zjr hx_20
      simp only[go_sem,simprocAttr];refine kA hK48 ?_;obtain⟨r_21,hr_21,hm⟩:=zd hm;obtain⟨r_27,hr_27,hm⟩:=zI hm
      refine Wp.seqR fun K50 hK50=>?_
      simp only[go_sem,simprocAttr]
      try refine⟨sd,?_⟩
      refine Rg.callX (av:=?av51) (g:=true) (fun hg=>zjT e_26.1 c_1.File.Path _ hr_21) si si si sg si ?cont51;intro hv51;simp only[go_sem,simprocAttr]
      try refine⟨sd,?_⟩
      refine Rg.callX (av:=?av52) (g:=!r_21) (fun hg=>zjT c_1.File.Path e_26.1 _ (hr_27 hg)) si si si sg si ?cont52;intro hv52;simp only[go_sem,simprocAttr];refine kA hK50 ?_;refine cM hm (fun hc53 hm=>?_) (fun hc53 hm=>?_)
      ·refine qS ?_
       refine Wp.endM 1 5 (by simp only[go_sem,simprocAttr];exact Is.mk) (by simp only[go_sem,simprocAttr];exact Is.mk) (by simp only[go_sem,simprocAttr]) ?_;simp only[go_sem,simprocAttr];refine Wp.ret ?_;refine zc3 ?_;cases hm;exact zbD
      ·refine Wp.skip ?_
       simp only[zq,zD,↓reduceIte];refine⟨_,(),(zeB hok_15 hb_5 (hnx_19 _ hm)).1,(zeB hok_15 hb_5 (hnx_19 _ hm)).2,?_⟩;exact zbD
    ·refine qS ?_
     refine cN hm (fun hm=>?_) fun hm=>?_
     ·refine Wp.seqW fun _ hK57 _=>?_
      obtain⟨q_45,hq_10,hm⟩:=zZ hm;have hq_10d:=zM (e:=ecS) zai m2_3 c_1.Setting.Key [];have hq_10s:=zL (e:=ecS) zai m2_3 c_1.Setting.Key;simp only[hq_10,ecS,List.map_nil]at hq_10d hq_10s;have hA:=And.intro hq_10d hq_10s
      refine dS (pl [(0,none),(1,none),(2,none),(3,none),(4,none),(5,none),(6,none),(7,none),(8,none),(9,none),(10,none),(11,none),(12,none)]) fun _ hK58=>hK58 _ _ ?_
      refine qS ?_
      refine cR hm fun hm=>?_
      refine Wp.skip (hK57 _ _ ?_);obtain⟨c_46,hm⟩:=zh hm;have hp_28:=zdI (e:=ecS) zai m2_3 c_1.Setting.Key c_1.Setting.Value;simp only[ecS]at hp_28;have hA:=hp_28
      refine dE (pl [(0,none),(1,none),(2,none),(3,none),(4,none),(5,none),(6,none),(7,none),(8,none),(9,none),(10,some [])]) fun _ hK62=>hK62 _ _ ?_
      refine hW8 _ _ _ _ ?_ (hcut8 (m1_2,zcy m2_3 c_1.Setting.Key c_1.Setting.Value,m3_4) hm);exact zbD
     ·refine Wp.seqW fun _ hK63 _=>?_
      obtain⟨q_47,hq_11,hm⟩:=zZ hm;have hq_11d:=zM (e:=zb) zai m3_4 c_1.Service.Name (api_Service.mk [] [] false false);have hq_11s:=zL (e:=zb) zai m3_4 c_1.Service.Name;simp only[hq_11,zb,List.map_nil]at hq_11d hq_11s;have hA:=And.intro hq_11d hq_11s
      refine dS (pl [(0,none),(1,none),(2,none),(3,none),(4,none),(5,none),(6,none),(7,none),(8,none),(9,none),(10,none),(11,some [0,1,2,3,4,5,6,7,8,9,10]),(12,some [10]),(13,none)]) fun _ hK64=>hK64 _ _ ?_
      refine qS ?_
      refine cR hm fun hm=>?_
      refine Wp.skip (hK63 _ _ ?_);obtain⟨c_48,hm⟩:=zh hm;have hp_29:=zdI (e:=zb) zai m3_4 c_1.Service.Name c_1.Service;simp only[zb]at hp_29;have hA:=hp_29
      refine dE (pl [(0,none),(1,none),(2,none),(3,none),(4,none),(5,none),(6,none),(7,none),(8,none),(9,some [])]) fun _ hK68=>hK68 _ _ ?_
      refine hW8 _ _ _ _ ?_ (hcut8 (m1_2,m2_3,zcy m3_4 c_1.Service.Name c_1.Service) hm);exact zbD
theorem zdB(o0 z:List Str)(hm:zdx o0=some z):Does Tryz.prog 210 [.buf 0] [.fx 9 1 (List.map ecS o0)] (fun r X=>r=.tup []∧X=[.fx 9 1 (List.map ecS z)]):=by
 cases hm;exact Does.sortS Tryz.sortL ⟨_,Tryz.func210,by kernel_rfl,by kernel_rfl⟩ 9 o0
theorem zbs(m0_2:List (Str×api_File))(z:List Str)(hm:zaa m0_2=some z):Does Tryz.prog 153 [.mp 0] [.mp true (zx Dt.s zc m0_2)] (fun r X=>r=.p (.l (List.map ecS z))∧X=[.mp true (zx Dt.s zc m0_2)]):=by
 unfold zaa at hm
 refine dW 1 18 [.tmp 2] Tryz.func153 fun B=>nA fun hA=>?_
 refine qS ?_;refine qS ?_
 refine Wp.seqW fun K3 hK3 hW3=>?_
 obtain⟨k_6,hk_6,hm⟩:=zj hm
 have hcut3:∀s,k_6 s=some z→K3 [(3,.buf 2)] [.mp true (zx Dt.s zc m0_2),.gone,.buf 9 1 (List.map ecS s)]:=by
  intro o2_14 hs;have hm:=hk_6 _ hs;clear hs
  try dsimp only at hm⊢
  refine hK3 _ _ (Wp.toFix 2 (by simp only[go_sem,simprocAttr];exact Is.mk) (by simp only[go_sem,simprocAttr]) ?_);simp only[go_sem,simprocAttr];obtain⟨r_10,hr_10,hm⟩:=zd hm
  refine rS fun _ hK4=>?_
  refine cO [2] (zdB o2_14 _ hr_10) (hK4 _ _ ?_);refine Wp.toBuf 2 (by simp only[go_sem,simprocAttr];exact Is.mk) (by simp only[go_sem,simprocAttr]) ?_;simp only[go_sem,simprocAttr];exact wQ
 clear hK3 hk_6
 refine Wp.seqR fun K7 hK7=>?_
 simp only[go_sem,simprocAttr]
 try refine⟨sd,?_⟩
 refine Rg.range (i:=0) (ag:=?ag8) (es:=?es8) (kt:=?kt8) (et:=?et8) Is.mk Is.mk sg sg si si si ?cont8;intro bs_3 cl_7 hb_1 hn_11 hl_15;replace hb_1:=zma hb_1;simp only[go_sem,simprocAttr];refine kA hK7 ?_;refine Wp.block (Wp.adopt 3 9 1 rfl ?_);simp only[go_sem,simprocAttr];obtain⟨k_12,hk_12,hm⟩:=zhf hm;refine Wp.forM (bs:=bs_3) (fun sn_4 s=>[(3,.buf 2),(6,.ptr 1 0)]) (fun sn_4 s=>[.mpb true (zx Dt.s zc m0_2) bs_3 cl_7,.it 0 cl_7 sn_4,.buf 9 1 (List.map ecS s)]) hb_1 ?_ hm ?_
 ·exact zbD
 clear hm;intro sn_4 o2_13 hm
 try dsimp only at hm⊢
 refine Wp.seqR fun K9 hK9=>?_
 simp only[go_sem,simprocAttr]
 try refine⟨by exact sd,?_⟩
 refine Rg.next (q:=1) (i:=0) (cl:=cl_7) (bs:=bs_3) (seen:=sn_4) (ag:=?ag9) (es:=?es9) Is.mk Is.mk sg sg si si si sg ?hb9 hn_11 hl_15 ?he9 ?hs9
 case hb9=>rw[zgG];exact hb_1
 case he9 =>
  intro hend;simp only[go_sem,simprocAttr]
  first|apply hK9|refine⟨by exact sd,hK9 _ _ ?_⟩
  refine Wp.seqW fun K10 hK10 hW10=>?_
  refine Wp.cond rfl ⟨⟩ (fun h=>?_) (fun h=>?_)
  ·cases h
  refine Wp.endM 0 1 (by simp only[go_sem,simprocAttr];exact Is.mk) (by simp only[go_sem,simprocAttr];exact Is.mk) (by simp only[go_sem,simprocAttr]) ?_;simp only[go_sem,simprocAttr];refine Wp.exit ?_;have hm:=hk_12 _ (zjp hm ((zcu (m:=bs_3) hb_1 rfl).trans hend))
  try dsimp only at hm
  refine hW3 _ _ _ _ ?_ (hcut3 o2_13 hm);exact zbD
 case hs9 =>
  intro j_17 p_18 st_19 hok_5;simp only[go_sem,simprocAttr]
  first|apply hK9|refine⟨by exact sd,hK9 _ _ ?_⟩
  refine Wp.seqW fun K10 hK10 hW10=>?_
  refine Wp.cond rfl ⟨⟩ (fun h=>?_) (fun h=>?_)
  rotate_left
  ·cases h
  refine Wp.skip ?_;simp only[zq];refine hK10 _ _ ?_;obtain⟨e_16,nx_8,hx_9,hnx_8,hm⟩:=zhe hm (hok_5.er _ hb_1).1;replace hx_9:=(hok_5.er _ hb_1).2.2.symm.trans hx_9;refine Wp.block ?_
  refine Wp.seqR fun K11 hK11=>?_
  simp only[go_sem,simprocAttr]
  try refine⟨sd,?_⟩
  refine Rg.entry (q:=1) (i:=0) (cl:=cl_7) (bs:=bs_3) (seen:=sn_4) (ag:=?ag12) (es:=?es12) (d:=?d12) (row:=?row12) Is.mk Is.mk sg sg si si si hn_11 hok_5.hp ?he12 ?cont12
  case he12=>exact zjr hx_9
  simp only[go_sem,simprocAttr];refine kA hK11 ?_;obtain⟨c_20,hm⟩:=zh hm
  refine Wp.region fun K13 hK13=>?_
  simp only[go_sem,simprocAttr];refine kA hK13 ?_;simp only[zq,zD,↓reduceIte];refine⟨_,o2_13++[e_16.1],(zeB hok_5 hb_1 (hnx_8 _ hm)).1,(zeB hok_5 hb_1 (hnx_8 _ hm)).2,?_⟩;exact zbD
theorem zc9(m0_2:List (Str×Str))(z:List Str)(hm:zaM m0_2=some z):Does Tryz.prog 154 [.mp 0] [.mp false (zx Dt.s ecS m0_2)] (fun r X=>r=.p (.l (List.map ecS z))∧X=[.mp false (zx Dt.s ecS m0_2)]):=by
 unfold zaM at hm
 refine dW 1 18 [.tmp 2] Tryz.func154 fun B=>nA fun hA=>?_
 refine qS ?_;refine qS ?_
 refine Wp.seqW fun K3 hK3 hW3=>?_
 obtain⟨k_6,hk_6,hm⟩:=zj hm
 have hcut3:∀s,k_6 s=some z→K3 [(3,.buf 2)] [.mp false (zx Dt.s ecS m0_2),.gone,.buf 9 1 (List.map ecS s)]:=by
  intro o2_14 hs;have hm:=hk_6 _ hs;clear hs
  try dsimp only at hm⊢
  refine hK3 _ _ (Wp.toFix 2 (by simp only[go_sem,simprocAttr];exact Is.mk) (by simp only[go_sem,simprocAttr]) ?_);simp only[go_sem,simprocAttr];obtain⟨r_10,hr_10,hm⟩:=zd hm
  refine rS fun _ hK4=>?_
  refine cO [2] (zdB o2_14 _ hr_10) (hK4 _ _ ?_);refine Wp.toBuf 2 (by simp only[go_sem,simprocAttr];exact Is.mk) (by simp only[go_sem,simprocAttr]) ?_;simp only[go_sem,simprocAttr];exact wQ
 clear hK3 hk_6
 refine Wp.seqR fun K7 hK7=>?_
 simp only[go_sem,simprocAttr]
 try refine⟨sd,?_⟩
 refine Rg.range (i:=0) (ag:=?ag8) (es:=?es8) (kt:=?kt8) (et:=?et8) Is.mk Is.mk sg sg si si si ?cont8;intro bs_3 cl_7 hb_1 hn_11 hl_15;replace hb_1:=zma hb_1;simp only[go_sem,simprocAttr];refine kA hK7 ?_;refine Wp.block (Wp.adopt 3 9 1 rfl ?_);simp only[go_sem,simprocAttr];obtain⟨k_12,hk_12,hm⟩:=zhf hm;refine Wp.forM (bs:=bs_3) (fun sn_4 s=>[(3,.buf 2),(6,.ptr 1 0)]) (fun sn_4 s=>[.mpb false (zx Dt.s ecS m0_2) bs_3 cl_7,.it 0 cl_7 sn_4,.buf 9 1 (List.map ecS s)]) hb_1 ?_ hm ?_
 ·exact zbD
 clear hm;intro sn_4 o2_13 hm
 try dsimp only at hm⊢
 refine Wp.seqR fun K9 hK9=>?_
 simp only[go_sem,simprocAttr]
 try refine⟨by exact sd,?_⟩
 refine Rg.next (q:=1) (i:=0) (cl:=cl_7) (bs:=bs_3) (seen:=sn_4) (ag:=?ag9) (es:=?es9) Is.mk Is.mk sg sg si si si sg ?hb9 hn_11 hl_15 ?he9 ?hs9
 case hb9=>rw[zgG];exact hb_1
 case he9 =>
  intro hend;simp only[go_sem,simprocAttr]
  first|apply hK9|refine⟨by exact sd,hK9 _ _ ?_⟩
  refine Wp.seqW fun K10 hK10 hW10=>?_
  refine Wp.cond rfl ⟨⟩ (fun h=>?_) (fun h=>?_)
  ·cases h
  refine Wp.endM 0 1 (by simp only[go_sem,simprocAttr];exact Is.mk) (by simp only[go_sem,simprocAttr];exact Is.mk) (by simp only[go_sem,simprocAttr]) ?_;simp only[go_sem,simprocAttr];refine Wp.exit ?_;have hm:=hk_12 _ (zjp hm ((zcu (m:=bs_3) hb_1 rfl).trans hend))
  try dsimp only at hm
  refine hW3 _ _ _ _ ?_ (hcut3 o2_13 hm);exact zbD
 case hs9 =>
  intro j_17 p_18 st_19 hok_5;simp only[go_sem,simprocAttr]
  first|apply hK9|refine⟨by exact sd,hK9 _ _ ?_⟩
  refine Wp.seqW fun K10 hK10 hW10=>?_
  refine Wp.cond rfl ⟨⟩ (fun h=>?_) (fun h=>?_)
  rotate_left
  ·cases h
  refine Wp.skip ?_;simp only[zq];refine hK10 _ _ ?_;obtain⟨e_16,nx_8,hx_9,hnx_8,hm⟩:=zhe hm (hok_5.er _ hb_1).1;replace hx_9:=(hok_5.er _ hb_1).2.2.symm.trans hx_9;refine Wp.block ?_
  refine Wp.seqR fun K11 hK11=>?_
  simp only[go_sem,simprocAttr]
  try refine⟨sd,?_⟩
  refine Rg.entry (q:=1) (i:=0) (cl:=cl_7) (bs:=bs_3) (seen:=sn_4) (ag:=?ag12) (es:=?es12) (d:=?d12) (row:=?row12) Is.mk Is.mk sg sg si si si hn_11 hok_5.hp ?he12 ?cont12
  case he12=>exact zjr hx_9
  simp only[go_sem,simprocAttr];refine kA hK11 ?_;obtain⟨c_20,hm⟩:=zh hm
  refine Wp.region fun K13 hK13=>?_
  simp only[go_sem,simprocAttr];refine kA hK13 ?_;simp only[zq,zD,↓reduceIte];refine⟨_,o2_13++[e_16.1],(zeB hok_5 hb_1 (hnx_8 _ hm)).1,(zeB hok_5 hb_1 (hnx_8 _ hm)).2,?_⟩;exact zbD
theorem zbL(m0_2:List (Str×api_Service))(z:List Str)(hm:zab m0_2=some z):Does Tryz.prog 155 [.mp 0] [.mp true (zx Dt.s zb m0_2)] (fun r X=>r=.p (.l (List.map ecS z))∧X=[.mp true (zx Dt.s zb m0_2)]):=by
 unfold zab at hm
 refine dW 1 18 [.tmp 2] Tryz.func155 fun B=>nA fun hA=>?_
 refine qS ?_;refine qS ?_
 refine Wp.seqW fun K3 hK3 hW3=>?_
 obtain⟨k_6,hk_6,hm⟩:=zj hm
 have hcut3:∀s,k_6 s=some z→K3 [(3,.buf 2)] [.mp true (zx Dt.s zb m0_2),.gone,.buf 9 1 (List.map ecS s)]:=by
  intro o2_14 hs;have hm:=hk_6 _ hs;clear hs
  try dsimp only at hm⊢
  refine hK3 _ _ (Wp.toFix 2 (by simp only[go_sem,simprocAttr];exact Is.mk) (by simp only[go_sem,simprocAttr]) ?_);simp only[go_sem,simprocAttr];obtain⟨r_10,hr_10,hm⟩:=zd hm
  refine rS fun _ hK4=>?_
  refine cO [2] (zdB o2_14 _ hr_10) (hK4 _ _ ?_);refine Wp.toBuf 2 (by simp only[go_sem,simprocAttr];exact Is.mk) (by simp only[go_sem,simprocAttr]) ?_;simp only[go_sem,simprocAttr];exact wQ
 clear hK3 hk_6
 refine Wp.seqR fun K7 hK7=>?_
 simp only[go_sem,simprocAttr]
 try refine⟨sd,?_⟩
 refine Rg.range (i:=0) (ag:=?ag8) (es:=?es8) (kt:=?kt8) (et:=?et8) Is.mk Is.mk sg sg si si si ?cont8;intro bs_3 cl_7 hb_1 hn_11 hl_15;replace hb_1:=zma hb_1;simp only[go_sem,simprocAttr];refine kA hK7 ?_;refine Wp.block (Wp.adopt 3 9 1 rfl ?_);simp only[go_sem,simprocAttr];obtain⟨k_12,hk_12,hm⟩:=zhf hm;refine Wp.forM (bs:=bs_3) (fun sn_4 s=>[(3,.buf 2),(6,.ptr 1 0)]) (fun sn_4 s=>[.mpb true (zx Dt.s zb m0_2) bs_3 cl_7,.it 0 cl_7 sn_4,.buf 9 1 (List.map ecS s)]) hb_1 ?_ hm ?_
 ·exact zbD
 clear hm;intro sn_4 o2_13 hm
 try dsimp only at hm⊢
 refine Wp.seqR fun K9 hK9=>?_
 simp only[go_sem,simprocAttr]
 try refine⟨by exact sd,?_⟩
 refine Rg.next (q:=1) (i:=0) (cl:=cl_7) (bs:=bs_3) (seen:=sn_4) (ag:=?ag9) (es:=?es9) Is.mk Is.mk sg sg si si si sg ?hb9 hn_11 hl_15 ?he9 ?hs9
 case hb9=>rw[zgG];exact hb_1
 case he9 =>
  intro hend;simp only[go_sem,simprocAttr]
  first|apply hK9|refine⟨by exact sd,hK9 _ _ ?_⟩
  refine Wp.seqW fun K10 hK10 hW10=>?_
  refine Wp.cond rfl ⟨⟩ (fun h=>?_) (fun h=>?_)
  ·cases h
  refine Wp.endM 0 1 (by simp only[go_sem,simprocAttr];exact Is.mk) (by simp only[go_sem,simprocAttr];exact Is.mk) (by simp only[go_sem,simprocAttr]) ?_;simp only[go_sem,simprocAttr];refine Wp.exit ?_;have hm:=hk_12 _ (zjp hm ((zcu (m:=bs_3) hb_1 rfl).trans hend))
  try dsimp only at hm
  refine hW3 _ _ _ _ ?_ (hcut3 o2_13 hm);exact zbD
 case hs9 =>
  intro j_17 p_18 st_19 hok_5;simp only[go_sem,simprocAttr]
  first|apply hK9|refine⟨by exact sd,hK9 _ _ ?_⟩
  refine Wp.seqW fun K10 hK10 hW10=>?_
  refine Wp.cond rfl ⟨⟩ (fun h=>?_) (fun h=>?_)
  rotate_left
  ·cases h
  refine Wp.skip ?_;simp only[zq];refine hK10 _ _ ?_;obtain⟨e_16,nx_8,hx_9,hnx_8,hm⟩:=zhe hm (hok_5.er _ hb_1).1;replace hx_9:=(hok_5.er _ hb_1).2.2.symm.trans hx_9;refine Wp.block ?_
  refine Wp.seqR fun K11 hK11=>?_
  simp only[go_sem,simprocAttr]
  try refine⟨sd,?_⟩
  refine Rg.entry (q:=1) (i:=0) (cl:=cl_7) (bs:=bs_3) (seen:=sn_4) (ag:=?ag12) (es:=?es12) (d:=?d12) (row:=?row12) Is.mk Is.mk sg sg si si si hn_11 hok_5.hp ?he12 ?cont12
  case he12=>exact zjr hx_9
  simp only[go_sem,simprocAttr];refine kA hK11 ?_;obtain⟨c_20,hm⟩:=zh hm
  refine Wp.region fun K13 hK13=>?_
  simp only[go_sem,simprocAttr];refine kA hK13 ?_;simp only[zq,zD,↓reduceIte];refine⟨_,o2_13++[e_16.1],(zeB hok_5 hb_1 (hnx_8 _ hm)).1,(zeB hok_5 hb_1 (hnx_8 _ hm)).2,?_⟩;exact zbD
theorem zaR(o0_0_4:List api_Setting)(m1_1:List (Str×api_File))(m2_2:List (Str×Str))(m3_3:List (Str×api_Service))(z:api_Machine)(hm:zW o0_0_4 m1_1 m2_2 m3_3=some z):Does Tryz.prog 77 [.ptr 0 0] [.cells 129 [.p (.l (List.map za o0_0_4)),.mp 1,.mp 2,.mp 3],.mp true (zx Dt.s zc m1_1),.mp false (zx Dt.s ecS m2_2),.mp true (zx Dt.s zb m3_3)] (fun r X=>r=.agg [.p (.l (List.map za z.Facts)),.p (.l (List.map zc z.Files)),.p (.l (List.map za z.Settings)),.p (.l (List.map zb z.Services))]∧X=[.cells 129 [.p (.l (List.map za o0_0_4)),.mp 1,.mp 2,.mp 3],.mp true (zx Dt.s zc m1_1),.mp false (zx Dt.s ecS m2_2),.mp true (zx Dt.s zb m3_3)]):=by
 unfold zW at hm
 refine dW 4 85 [.cell 2 26] Tryz.func77 fun B=>nA fun hA=>?_
 refine qS ?_;obtain⟨r_6,hr_6,hm⟩:=zd hm
 refine rS fun _ hK2=>?_
 refine cF (zct o0_0_4 _ hr_6) (hK2 _ _ ?_)
 refine Wp.seqW fun K4 hK4 hW4=>?_
 obtain⟨k_15,hk_15,hm⟩:=zj hm
 have hcut4:∀s,k_15 s=some z→K4 [(0,.ptr 0 0),(2,.ptr 4 0),(3,.ptr 5 0)] [.cells 129 [.p (.l (List.map za o0_0_4)),.mp 1,.mp 2,.mp 3],.mp true (zx Dt.s zc m1_1),.mp false (zx Dt.s ecS m2_2),.mp true (zx Dt.s zb m3_3),.cells 26 [.nils,.nils,.nils,.nils],.cells 26 [.p (.l (List.map za r_6)),.buf 6,.nils,.nils],.buf 38 3 (List.map zc s)]:=by
  intro o6_16 hs;have hm:=hk_15 _ hs;clear hs
  try dsimp only at hm⊢
  refine hK4 _ _ (Wp.seqW fun K5 hK5 hW5=>?_);obtain⟨k_17,hk_17,hm⟩:=zj hm
  have hcut5:∀s,k_17 s=some z→K5 [(0,.ptr 0 0),(2,.ptr 4 0),(3,.ptr 5 0)] [.cells 129 [.p (.l (List.map za o0_0_4)),.mp 1,.mp 2,.mp 3],.mp true (zx Dt.s zc m1_1),.mp false (zx Dt.s ecS m2_2),.mp true (zx Dt.s zb m3_3),.cells 26 [.nils,.nils,.nils,.nils],.cells 26 [.p (.l (List.map za r_6)),.buf 6,.buf 7,.nils],.buf 38 3 (List.map zc o6_16),.buf 40 2 (List.map za s)]:=by
   intro o7_22 hs;have hm:=hk_17 _ hs;clear hs
   try dsimp only at hm⊢
   refine hK5 _ _ (Wp.seqW fun K6 hK6 hW6=>?_);obtain⟨k_18,hk_18,hm⟩:=zj hm
   have hcut6:∀s,k_18 s=some z→K6 [(2,.ptr 4 0),(3,.ptr 5 0)] [.cells 129 [.p (.l (List.map za o0_0_4)),.mp 1,.mp 2,.mp 3],.mp true (zx Dt.s zc m1_1),.mp false (zx Dt.s ecS m2_2),.mp true (zx Dt.s zb m3_3),.cells 26 [.nils,.nils,.nils,.nils],.cells 26 [.p (.l (List.map za r_6)),.buf 6,.buf 7,.buf 8],.buf 38 3 (List.map zc o6_16),.buf 40 2 (List.map za o7_22),.buf 42 4 (List.map zb s)]:=by
    intro o8_38 hs;have hm:=hk_18 _ hs;clear hs
    try dsimp only at hm⊢
    exact hK6 _ _ (wQ)
   clear hK6 hk_18;obtain⟨r_12,hr_12,hm⟩:=zd hm
   refine rS fun _ hK8=>?_
   refine cQ [3] (fun hg=>zbL m3_3 _ hr_12) (hK8 _ _ ?_);refine Wp.block (Wp.adoptO 5 3 42 4 rfl rfl ?_);simp only[go_sem,simprocAttr];obtain⟨k_23,hk_23,hm⟩:=zp hm
   refine fL 66 r_12.length fun hl_32=>?_
   refine Wp.forL (fun i_19 s=>[(0,.ptr 0 0),(2,.ptr 4 0),(3,.ptr 5 0),(66,.p (.l (List.map ecS r_12))),(67,.p (.i .i64 (r_12.length:Int))),(68,.p (.i .i64 (i_19:Int)))]) (fun i_19 s=>[.cells 129 [.p (.l (List.map za o0_0_4)),.mp 1,.mp 2,.mp 3],.mp true (zx Dt.s zc m1_1),.mp false (zx Dt.s ecS m2_2),.mp true (zx Dt.s zb m3_3),.cells 26 [.nils,.nils,.nils,.nils],.cells 26 [.p (.l (List.map za r_6)),.buf 6,.buf 7,.buf 8],.buf 38 3 (List.map zc o6_16),.buf 40 2 (List.map za o7_22),.buf 42 4 (List.map zb s)]) wF hm ?_;clear hm;intro i_19 o8_24 hii_19 hm
   try dsimp only at hm⊢
   refine qS ?_
   refine Wp.seqW fun _ hK11 _=>Wp.cond rfl ⟨⟩ (fun hc11=>?_) fun hc11=>Wp.exit (hW6 _ _ _ _ wF (hcut6 o8_24 (hk_23 _ (zt hm (geN hc11)))))
   have hlt11:=ltN hc11;have hw11:=zn hlt11 hl_32;obtain⟨s_7,nx_25,hxs_7,hys_7,hnx_25,hm⟩:=zo hm hlt11;replace hxs_7:=hxs_7 ecS;refine Wp.skip ?_;simp only[zq];refine hK11 _ _ (Wp.seqW fun _ hK12 _=>Wp.block ?_);have hA:=And.intro hw11 hxs_7;refine q6 ?_;obtain⟨q_33,hq_9,hm⟩:=zZ hm;have hq_9d:=zM (e:=zb) zai m3_3 s_7 (api_Service.mk [] [] false false);have hq_9s:=zL (e:=zb) zai m3_3 s_7;simp only[hq_9,zb,List.map_nil]at hq_9d hq_9s;obtain⟨c_39,hm⟩:=zh hm;have hA:=And.intro hw11 (And.intro hxs_7 (And.intro hq_9d hq_9s))
   refine dE (pl [(0,none),(1,none),(2,none),(3,none),(4,none),(5,none),(6,none),(7,none),(8,some [0,1]),(9,some []),(10,none),(11,some [])]) fun _ hK14=>hK14 _ _ ?_
   refine hK12 _ _ (r6 ?_);exact wN (o8_24++[(q_33.getD (api_Service.mk [] [] false false))]) hlt11 (hnx_25 _ hm)
  clear hK5 hk_17;obtain⟨r_13,hr_13,hm⟩:=zd hm
  refine rS fun _ hK16=>?_
  refine cQ [2] (fun hg=>zc9 m2_2 _ hr_13) (hK16 _ _ ?_);refine Wp.block (Wp.adoptO 5 2 40 2 rfl rfl ?_);simp only[go_sem,simprocAttr];obtain⟨k_26,hk_26,hm⟩:=zp hm
  refine fL 42 r_13.length fun hl_34=>?_
  refine Wp.forL (fun i_20 s=>[(0,.ptr 0 0),(2,.ptr 4 0),(3,.ptr 5 0),(42,.p (.l (List.map ecS r_13))),(43,.p (.i .i64 (r_13.length:Int))),(44,.p (.i .i64 (i_20:Int)))]) (fun i_20 s=>[.cells 129 [.p (.l (List.map za o0_0_4)),.mp 1,.mp 2,.mp 3],.mp true (zx Dt.s zc m1_1),.mp false (zx Dt.s ecS m2_2),.mp true (zx Dt.s zb m3_3),.cells 26 [.nils,.nils,.nils,.nils],.cells 26 [.p (.l (List.map za r_6)),.buf 6,.buf 7,.nils],.buf 38 3 (List.map zc o6_16),.buf 40 2 (List.map za s)]) wF hm ?_;clear hm;intro i_20 o7_27 hii_20 hm
  try dsimp only at hm⊢
  refine qS ?_
  refine Wp.seqW fun _ hK19 _=>Wp.cond rfl ⟨⟩ (fun hc19=>?_) fun hc19=>Wp.exit (hW5 _ _ _ _ wF (hcut5 o7_27 (hk_26 _ (zt hm (geN hc19)))))
  have hlt19:=ltN hc19;have hw19:=zn hlt19 hl_34;obtain⟨s_5,nx_28,hxs_5,hys_5,hnx_28,hm⟩:=zo hm hlt19;replace hxs_5:=hxs_5 ecS;refine Wp.skip ?_;simp only[zq];refine hK19 _ _ (Wp.seqW fun _ hK20 _=>Wp.block ?_);have hA:=And.intro hw19 hxs_5;refine q6 ?_;obtain⟨q_35,hq_10,hm⟩:=zZ hm;have hq_10d:=zM (e:=ecS) zai m2_2 s_5 [];have hq_10s:=zL (e:=ecS) zai m2_2 s_5;simp only[hq_10,ecS,List.map_nil]at hq_10d hq_10s;obtain⟨c_40,hm⟩:=zh hm;have hA:=And.intro hw19 (And.intro hxs_5 (And.intro hq_10d hq_10s))
  refine dE (pl [(0,none),(1,none),(2,none),(3,none),(4,none),(5,none),(6,none),(7,none),(8,none),(9,none),(10,some [0,1]),(11,some []),(12,none),(13,some [])]) fun _ hK22=>hK22 _ _ ?_
  refine hK20 _ _ (r6 ?_);exact wN (o7_27++[(api_Setting.mk s_5 (q_35.getD []))]) hlt19 (hnx_28 _ hm)
 clear hK4 hk_15;obtain⟨r_14,hr_14,hm⟩:=zd hm
 refine rS fun _ hK24=>?_
 refine cQ [1] (fun hg=>zbs m1_1 _ hr_14) (hK24 _ _ ?_);refine Wp.block (Wp.adoptO 5 1 38 3 rfl rfl ?_);simp only[go_sem,simprocAttr];obtain⟨k_29,hk_29,hm⟩:=zp hm
 refine fL 20 r_14.length fun hl_36=>?_
 refine Wp.forL (fun i_21 s=>[(0,.ptr 0 0),(2,.ptr 4 0),(3,.ptr 5 0),(20,.p (.l (List.map ecS r_14))),(21,.p (.i .i64 (r_14.length:Int))),(22,.p (.i .i64 (i_21:Int)))]) (fun i_21 s=>[.cells 129 [.p (.l (List.map za o0_0_4)),.mp 1,.mp 2,.mp 3],.mp true (zx Dt.s zc m1_1),.mp false (zx Dt.s ecS m2_2),.mp true (zx Dt.s zb m3_3),.cells 26 [.nils,.nils,.nils,.nils],.cells 26 [.p (.l (List.map za r_6)),.buf 6,.nils,.nils],.buf 38 3 (List.map zc s)]) wF hm ?_;clear hm;intro i_21 o6_30 hii_21 hm
 try dsimp only at hm⊢
 refine qS ?_
 refine Wp.seqW fun _ hK27 _=>Wp.cond rfl ⟨⟩ (fun hc27=>?_) fun hc27=>Wp.exit (hW4 _ _ _ _ wF (hcut4 o6_30 (hk_29 _ (zt hm (geN hc27)))))
 have hlt27:=ltN hc27;have hw27:=zn hlt27 hl_36;obtain⟨s_8,nx_31,hxs_8,hys_8,hnx_31,hm⟩:=zo hm hlt27;replace hxs_8:=hxs_8 ecS;refine Wp.skip ?_;simp only[zq];refine hK27 _ _ (Wp.seqW fun _ hK28 _=>Wp.block ?_);have hA:=And.intro hw27 hxs_8;refine q6 ?_;obtain⟨q_37,hq_11,hm⟩:=zZ hm;have hq_11d:=zM (e:=zc) zai m1_1 s_8 (api_File.mk [] [] false);have hq_11s:=zL (e:=zc) zai m1_1 s_8;simp only[hq_11,zc,List.map_nil]at hq_11d hq_11s;obtain⟨c_41,hm⟩:=zh hm;have hA:=And.intro hw27 (And.intro hxs_8 (And.intro hq_11d hq_11s))
 refine dE (pl [(0,none),(1,none),(2,none),(3,none),(4,none),(5,none),(6,none),(7,none),(8,some [0,1]),(9,some []),(10,none),(11,some [])]) fun _ hK30=>hK30 _ _ ?_
 refine hK28 _ _ (r6 ?_);exact wN (o6_30++[(q_37.getD (api_File.mk [] [] false))]) hlt27 (hnx_31 _ hm)
end Go.Proofs.YtbofknpajcdnmaaGreatDoor
