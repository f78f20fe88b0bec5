/- That the code does what the models say (part 7). -/
import Derived.Test.YtbofknpajcdnmaaGreatDoorLkWk0
import Derived.Test.YtbofknpajcdnmaaGreatDoorLkWk1
import Derived.Test.YtbofknpajcdnmaaGreatDoorLkWk2
import Derived.Test.YtbofknpajcdnmaaGreatDoorLkWk4
import Derived.Test.YtbofknpajcdnmaaGreatDoorLkWk5
import Derived.Test.YtbofknpajcdnmaaGreatDoorLkWk6
set_option linter.unusedSimpArgs false
set_option linter.unusedVariables false
open Go.Proofs Go.Shelf
namespace Go.Proofs.YtbofknpajcdnmaaGreatDoor
open Go.Vc Go.Md
set_option maxRecDepth 100000
set_option maxHeartbeats 4000000
theorem zaO(s_1:List api_Change)(z:List api_Change)(hm:zK s_1=some z):Does Tryz.prog 84 [.p (.l (List.map ze s_1))] [] (fun r X=>r=.buf 0∧X=[.buf 44 10 (List.map ze z)]):=by
 unfold zK at hm
 refine dW 1 8 [.tmp 2] Tryz.func84 fun B=>nA fun hA=>?_
 refine qS ?_
 refine Wp.seqW fun _ hK2 _=>Wp.seqR fun K3 hK3=>?_
 simp only[go_sem,simprocAttr]
 try refine⟨sd,?_⟩
 refine Rg.isnil (rows:=?rows4) (e:=?e4) (esz:=?esz4) (eb:=?eb4) (ez:=?ez4) Is.mk Is.mk sg sg si si ?cont4;intro b_2 hb_3;replace hm:=zj9 hm b_2 (fun h=>List.map_eq_nil_iff.1 (hb_3 h))
 try dsimp only at hm
 simp only[go_sem,simprocAttr];refine kA hK3 ?_
 refine cN hm (fun hm=>?_) fun hm=>?_
 ·refine qS ?_
  refine Wp.adopt 2 44 10 rfl ?_;simp only[go_sem,simprocAttr];exact wR
 ·refine Wp.skip (hK2 _ _ ?_)
  obtain⟨c_4,hm⟩:=zh hm;exact wQ
theorem zha(p_1:Str)(z:Bool)(hm:zeG p_1=some z):Does Tryz.prog 85 [.p (.s p_1)] [] (fun r X=>r=.p (.b z)∧X=[]):=by
 unfold zeG at hm
 refine dW 0 5 [.tmp 2] Tryz.func85 fun B=>nA fun hA=>?_
 refine qS ?_;obtain⟨r_2,hr_2,hm⟩:=zd hm
 refine rS fun _ hK2=>?_
 refine cX (fun hg=>zjT p_1 ([115,116,97,103,101]:Str) _ hr_2) (hK2 _ _ ?_);exact wR
theorem zm9(m_4:api_Machine)(z:api_Machine)(hm:zkc m_4=some z):Does Tryz.prog 33 [.agg [.p (.l (List.map za m_4.Facts)),.p (.l (List.map zc m_4.Files)),.p (.l (List.map za m_4.Settings)),.p (.l (List.map zb m_4.Services))]] [] (fun r X=>r=.agg [.p (.l (List.map za z.Facts)),.p (.l (List.map zc z.Files)),.p (.l (List.map za z.Settings)),.p (.l (List.map zb z.Services))]∧X=[]):=by
 unfold zkc at hm
 refine dW 0 25 [.cell 2 26] Tryz.func33 fun B=>nA fun hA=>?_
 refine qS ?_;obtain⟨r_3,hr_3,hm⟩:=zd hm
 refine rS fun _ hK2=>?_
 refine cO [] (zbr m_4 _ hr_3) (hK2 _ _ ?_)
 refine Wp.seqW fun K4 hK4 hW4=>?_
 obtain⟨k_13,hk_13,hm⟩:=zj hm
 have hcut4:∀s,k_13 s=some z→K4 [(2,.ptr 1 0),(3,.ptr 6 0)] [.cells 26 [.top,.top,.top,.top],.cells 26 [.nils,.nils,.nils,.nils],.cells 26 [.top,.top,.top,.top],.mp true (zx Dt.s zc s),.mp false (zx Dt.s ecS r_3.2.1),.mp true (zx Dt.s zb r_3.2.2.1),.cells 129 [.p (.l (List.map za r_3.2.2.2)),.mp 3,.mp 4,.mp 5]]:=by
  intro m3_23 hs;have hm:=hk_13 _ hs;clear hs
  try dsimp only at hm⊢
  refine hK4 _ _ ?_;obtain⟨r_17,hr_17,hm⟩:=zd hm
  refine rS fun _ hK5=>?_
  refine cQ [6,3,4,5] (fun hg=>zaR r_3.2.2.2 m3_23 r_3.2.1 r_3.2.2.1 _ hr_17) (hK5 _ _ ?_);exact wR
 clear hK4 hk_13
 refine Wp.seqR fun K7 hK7=>?_
 simp only[go_sem,simprocAttr]
 try refine⟨sd,?_⟩
 refine Rg.range (i:=3) (ag:=?ag8) (es:=?es8) (kt:=?kt8) (et:=?et8) Is.mk Is.mk sg sg si si si ?cont8;intro bs_1 cl_9 hb_2 hn_18 hl_24;replace hb_2:=zma hb_2;simp only[go_sem,simprocAttr];refine kA hK7 ?_;refine Wp.block ?_;obtain⟨hnd_25,hm⟩:=zh hm;obtain⟨k_19,hk_19,hm⟩:=zhf hm;refine Wp.forMD (bs:=bs_1) (fun sn_10 dd_5 s=>[(2,.ptr 1 0),(3,.ptr 6 0),(11,.ptr 7 0)]) (fun sn_10 dd_5 s=>[.cells 26 [.p (.l (List.map za m_4.Facts)),.p (.l (List.map zc m_4.Files)),.p (.l (List.map za m_4.Settings)),.p (.l (List.map zb m_4.Services))],.cells 26 [.nils,.nils,.nils,.nils],.cells 26 [.top,.top,.top,.top],.mpb true (zx Dt.s zc s) (left bs_1 dd_5 bs_1) cl_9,.mp false (zx Dt.s ecS r_3.2.1),.mp true (zx Dt.s zb r_3.2.2.1),.cells 129 [.p (.l (List.map za r_3.2.2.2)),.mp 3,.mp 4,.mp 5],.it 3 cl_9 sn_10]) (fun s=>s) hb_2 ?_ rfl hm ?_
 ·have hz_26:=zjg bs_1 bs_1 rfl
  have hA:=hz_26;simp only[go_sem,simprocAttr,hA]
  try exact se1
 clear hm;intro sn_10 dd_5 m3_11 hsub_7 hcur_6 hm
 try dsimp only at hm hcur_6
 try dsimp only
 have hn_20:(left bs_1 dd_5 bs_1).Nodup:=(zkZ bs_1 bs_1).nodup hn_18
 have hl_27:∀b∈(left bs_1 dd_5 bs_1),b<cl_9:=fun b hb=>hl_24 b (zk0 hb).1
 have hb_28:m3_11.length=(left bs_1 dd_5 bs_1).length:=by rw[hcur_6];exact zoh hb_2
 refine Wp.seqR fun K9 hK9=>?_
 simp only[go_sem,simprocAttr]
 try refine⟨by exact sd,?_⟩
 refine Rg.next (q:=7) (i:=3) (cl:=cl_9) (bs:=(left bs_1 dd_5 bs_1)) (seen:=sn_10) (ag:=?ag9) (es:=?es9) Is.mk Is.mk sg sg si si si sg ?hb9 hn_20 hl_27 ?he9 ?hs9
 case hb9=>rw[zgG];exact hb_28
 case he9 =>
  intro hend;simp only[go_sem,simprocAttr]
  first|apply hK9|refine⟨by exact sd,hK9 _ _ ?_⟩
  refine Wp.seqW fun K10 hK10 hW10=>?_
  refine Wp.cond rfl ⟨⟩ (fun h=>?_) (fun h=>?_)
  ·cases h
  refine Wp.endM 3 7 (by simp only[go_sem,simprocAttr];exact Is.mk) (by simp only[go_sem,simprocAttr];exact Is.mk) (by simp only[go_sem,simprocAttr]) ?_;simp only[go_sem,simprocAttr];refine Wp.exit ?_;have hm:=hk_19 _ (zjp hm ((zcu (m:=bs_1) hb_2 rfl).trans ((congrArg List.length (zjh hsub_7 rfl)).symm.trans hend)))
  try dsimp only at hm
  refine hW4 _ _ _ _ ?_ (hcut4 m3_11 hm);exact zbD
 case hs9 =>
  intro j_30 p_31 st_15 hok_8;simp only[go_sem,simprocAttr]
  first|apply hK9|refine⟨by exact sd,hK9 _ _ ?_⟩
  refine Wp.seqW fun K10 hK10 hW10=>?_
  refine Wp.cond rfl ⟨⟩ (fun h=>?_) (fun h=>?_)
  rotate_left
  ·cases h
  refine Wp.skip ?_;simp only[zq];refine hK10 _ _ ?_;obtain⟨e_16,nx_12,hx_14,hnx_12,hm⟩:=zhe hm (hok_8.up hsub_7 hb_2 hcur_6).1;replace hx_14:=(hok_8.up hsub_7 hb_2 hcur_6).2.2.symm.trans hx_14;refine Wp.block ?_
  refine Wp.seqR fun K11 hK11=>?_
  simp only[go_sem,simprocAttr]
  try refine⟨sd,?_⟩
  refine Rg.entry (q:=7) (i:=3) (cl:=cl_9) (bs:=(left bs_1 dd_5 bs_1)) (seen:=sn_10) (ag:=?ag12) (es:=?es12) (d:=?d12) (row:=?row12) Is.mk Is.mk sg sg si si si hn_20 hok_8.hp ?he12 ?cont12
  case he12=>exact zjr hx_14
  simp only[go_sem,simprocAttr];refine kA hK11 ?_;obtain⟨r_21,hr_21,hm⟩:=zd hm
  refine Wp.seqR fun K13 hK13=>?_
  simp only[go_sem,simprocAttr]
  try refine⟨sd,?_⟩
  refine Rg.callX (av:=?av14) (g:=true) (fun hg=>zha e_16.1 _ hr_21) si si si sg si ?cont14;intro hv14;simp only[go_sem,simprocAttr];refine kA hK13 ?_;refine cM hm (fun hc15 hm=>?_) (fun hc15 hm=>?_)
  ·have hp_29:=zje (e:=zc) zai m3_11 e_16.1
   have hp_22:=del_left (kd:=Dt.s) (e:=zc) zai hnd_25 hn_18 hb_2 hcur_6 hok_8.hp hx_14
   refine Wp.region fun K16 hK16=>?_
   simp only[go_sem,simprocAttr,hp_29,hp_22.2];refine kA hK16 ?_;simp only[zq,zD,↓reduceIte];refine⟨_,dd_5++[st_15],zka m3_11 e_16.1,hsub_7.both st_15,hp_22.1,(zhC hok_8 hsub_7 hb_2 hcur_6 (hnx_12 _ hm)).1,(zhC hok_8 hsub_7 hb_2 hcur_6 (hnx_12 _ hm)).2,?_⟩;exact zbD
  ·refine Wp.skip ?_
   simp only[zq,zD,↓reduceIte];refine⟨_,dd_5,m3_11,hsub_7.more st_15,hcur_6,(zhC hok_8 hsub_7 hb_2 hcur_6 (hnx_12 _ hm)).1,(zhC hok_8 hsub_7 hb_2 hcur_6 (hnx_12 _ hm)).2,?_⟩;exact zbD
theorem zm8(c_1:api_Change)(z:Str)(hm:zhp c_1=some z):Does Tryz.prog 86 [.agg [.p (.i .i64 c_1.Kind),.p (.s c_1.File.Path),.p (.s c_1.File.Data),.p (.b c_1.File.Runs),.p (.s c_1.Setting.Key),.p (.s c_1.Setting.Value),.p (.s c_1.Service.Name),.p (.s c_1.Service.Path),.p (.b c_1.Service.Auto),.p (.b c_1.Service.On)]] [] (fun r X=>r=.p (.s z)∧X=[]):=by
 unfold zhp at hm
 refine dW 0 23 [.tmp 2] Tryz.func86 fun B=>nA fun hA=>?_
 refine qS ?_
 refine Wp.seqW fun _ hK2 _=>qS ?_
 refine Wp.block (Wp.seqW fun K4 hK4 hW4=>?_);obtain⟨k_2,hk_2,hm⟩:=zj hm
 have hcut4:∀s,k_2 s=some z→K4 [(1,.ptr 0 0),(4,.p (.i .i64 c_1.Kind)),(5,.p (.b s))] [.cells 44 [.p (.i .i64 c_1.Kind),.p (.s c_1.File.Path),.p (.s c_1.File.Data),.p (.b c_1.File.Runs),.p (.s c_1.Setting.Key),.p (.s c_1.Setting.Value),.p (.s c_1.Service.Name),.p (.s c_1.Service.Path),.p (.b c_1.Service.Auto),.p (.b c_1.Service.On)]]:=by
  intro t5_4 hs;have hm:=hk_2 _ hs;clear hs
  try dsimp only at hm⊢
  refine hK4 _ _ (cN hm (fun hm=>?_) fun hm=>?_)
  ·obtain⟨c_5,hm⟩:=zh hm
   exact wQ
  ·refine Wp.seqW fun K7 hK7 hW7=>?_
   obtain⟨k_3,hk_3,hm⟩:=zj hm
   have hcut7:∀s,k_3 s=some z→K7 [(1,.ptr 0 0),(12,.p (.b s))] [.cells 44 [.p (.i .i64 c_1.Kind),.p (.s c_1.File.Path),.p (.s c_1.File.Data),.p (.b c_1.File.Runs),.p (.s c_1.Setting.Key),.p (.s c_1.Setting.Value),.p (.s c_1.Service.Name),.p (.s c_1.Service.Path),.p (.b c_1.Service.Auto),.p (.b c_1.Service.On)]]:=by
    intro t12_6 hs;have hm:=hk_3 _ hs;clear hs
    try dsimp only at hm⊢
    refine hK7 _ _ (cN hm (fun hm=>?_) fun hm=>?_)
    ·obtain⟨c_7,hm⟩:=zh hm
     exact wQ
    ·refine Wp.skip (hK2 _ _ ?_)
     obtain⟨c_8,hm⟩:=zh hm;exact wQ
   clear hK7 hk_3;refine qS ?_
   refine cN hm (fun hm=>?_) fun hm=>?_
   ·refine Wp.skip (hW7 _ _ _ _ ?_ (hcut7 (decide (c_1.Kind=3)) hm))
    exact zbD
   ·refine qR ?_
    refine hW7 _ _ _ _ ?_ (hcut7 (decide (c_1.Kind=4)) hm);exact zbD
 clear hK4 hk_2;refine qS ?_
 refine cN hm (fun hm=>?_) fun hm=>?_
 ·refine Wp.skip (hW4 _ _ _ _ ?_ (hcut4 (decide (c_1.Kind=1)) hm))
  exact zbD
 ·refine qR ?_
  refine hW4 _ _ _ _ ?_ (hcut4 (decide (c_1.Kind=2)) hm);exact zbD
theorem zdG(m_1:api_Machine)(l_2:List api_Change)(z:Int)(hm:zbg m_1 l_2=some z):Does Tryz.prog 29 [.agg [.p (.l (List.map za m_1.Facts)),.p (.l (List.map zc m_1.Files)),.p (.l (List.map za m_1.Settings)),.p (.l (List.map zb m_1.Services))],.p (.l (List.map ze l_2))] [] (fun r X=>r=.p (.i .i64 z)∧X=[]):=by
 unfold zbg at hm
 refine dW 0 85 [.tmp 4] Tryz.func29 fun B=>nA fun hA=>?_
 refine qS ?_
 refine Wp.seqW fun _ hK2 _=>?_
 obtain⟨r_18,hr_18,hm⟩:=zd hm
 refine rS fun _ hK3=>?_
 refine cX (fun hg=>zna m_1 _ hr_18) (hK3 _ _ ?_);refine qS ?_
 refine cR hm fun hm=>?_
 refine Wp.skip (hK2 _ _ (Wp.seqW fun _ hK8 _=>?_));obtain⟨r_5,hr_5,hm⟩:=zd hm;obtain⟨q_16,hq_6,hm⟩:=zZ hm;have hq_6d:=zM (e:=zc) zai r_5.1 ([115,116,97,103,101]:Str) (api_File.mk [] [] false);have hq_6s:=zL (e:=zc) zai r_5.1 ([115,116,97,103,101]:Str);simp only[hq_6,zc,List.map_nil]at hq_6d hq_6s;have hA:=And.intro hq_6d hq_6s
 refine rS fun _ hK9=>?_
 refine cO [] (zbr m_1 _ hr_5) (hK9 _ _ ?_);refine qS ?_
 refine cR hm fun hm=>?_
 refine Wp.skip (hK8 _ _ (Wp.seqW fun K14 hK14 hW14=>?_));obtain⟨k_9,hk_9,hm⟩:=zj hm
 have hcut14:∀s,k_9 s=some z→K14 [(1,.p (.l (List.map ze l_2))),(2,.ptr 0 0)] [.cells 26 [.p (.l (List.map za m_1.Facts)),.p (.l (List.map zc m_1.Files)),.p (.l (List.map za m_1.Settings)),.p (.l (List.map zb m_1.Services))]]:=by
  intro s hs;have hm:=hk_9 _ hs;clear hs
  try dsimp only at hm⊢
  refine hK14 _ _ (Wp.seqW fun _ hK15 _=>?_);obtain⟨r_17,hr_17,hm⟩:=zd hm;obtain⟨r_8,hr_8,hm⟩:=zd hm
  refine rS fun _ hK16=>?_
  refine cF (zm9 m_1 _ hr_17) ?_;refine cF (zfX r_17 l_2 _ hr_8) (hK16 _ _ ?_);refine qS ?_
  refine cR hm fun hm=>?_
  refine Wp.skip (hK15 _ _ (Wp.seqW fun _ hK22 _=>qS ?_))
  refine cR hm fun hm=>?_
  refine Wp.skip (hK22 _ _ (qS ?_))
  refine Wp.seqW fun K27 hK27 hW27=>?_
  obtain⟨k_10,hk_10,hm⟩:=zj hm
  have hcut27:∀s,k_10 s=some z→K27 [] []:=by
   intro s hs;have hm:=hk_10 _ hs;clear hs
   try dsimp only at hm⊢
   exact hK27 _ _ (wQ)
  clear hK27 hk_10;refine qS ?_;refine Wp.block ?_;obtain⟨k_19,hk_19,hm⟩:=zp hm
  refine fL 71 l_2.length fun hl_25=>?_
  refine Wp.forL (fun i_11 s=>[(12,.mp 2),(71,.p (.l (List.map ze l_2))),(72,.p (.i .i64 (l_2.length:Int))),(73,.p (.i .i64 (i_11:Int)))]) (fun i_11 s=>[.cells 26 [.p (.l (List.map za m_1.Facts)),.p (.l (List.map zc m_1.Files)),.p (.l (List.map za m_1.Settings)),.p (.l (List.map zb m_1.Services))],.cells 26 [.p (.l (List.map za r_8.1.Facts)),.p (.l (List.map zc r_8.1.Files)),.p (.l (List.map za r_8.1.Settings)),.p (.l (List.map zb r_8.1.Services))],.mp false (zx Dt.s ecB s)]) wF hm ?_;clear hm;intro i_11 m2_12 hii_11 hm
  try dsimp only at hm⊢
  refine qS ?_
  refine Wp.seqW fun _ hK31 _=>Wp.cond rfl ⟨⟩ (fun hc31=>?_) fun hc31=>Wp.exit (hW27 _ _ _ _ wF (hcut27 () (hk_19 _ (zt hm (geN hc31)))))
  have hlt31:=ltN hc31;have hw31:=zn hlt31 hl_25;obtain⟨c_3,nx_20,hxc_3,hyc_3,hnx_20,hm⟩:=zo hm hlt31;replace hxc_3:=hxc_3 ze;refine Wp.skip ?_;simp only[zq];refine hK31 _ _ (Wp.seqW fun _ hK32 _=>Wp.block ?_);have hA:=And.intro hw31 hxc_3;refine q6 ?_
  refine Wp.seqW fun _ hK34 _=>?_
  obtain⟨r_13,hr_13,hm⟩:=zd hm;obtain⟨q_27,hq_7,hm⟩:=zZ hm;have hq_7d:=zM (e:=ecB) zai m2_12 r_13 false;have hq_7s:=zL (e:=ecB) zai m2_12 r_13;simp only[hq_7,ecB,List.map_nil]at hq_7d hq_7s;have hA:=And.intro hw31 (And.intro hxc_3 (And.intro hq_7d hq_7s))
  refine rS fun _ hK35=>?_
  refine cX (fun hg=>zm8 c_3 _ hr_13) (hK35 _ _ ?_)
  refine cR hm fun hm=>?_
  refine Wp.skip (hK34 _ _ ?_);obtain⟨r_14,hr_14,hm⟩:=zd hm;obtain⟨c_28,hm⟩:=zh hm;have hp_21:=zdI (e:=ecB) zai m2_12 r_14 true;simp only[ecB]at hp_21;have hA:=And.intro hw31 (And.intro hxc_3 hp_21)
  refine rE fun _ hK39=>?_
  refine cX (fun hg=>zm8 c_3 _ hr_14) (hK39 _ _ ?_);refine hK32 _ _ (r6 ?_);exact wN (zcy m2_12 r_14 true) hlt31 (hnx_20 _ hm)
 clear hK14 hk_9;refine qS ?_;refine Wp.block ?_;obtain⟨k_22,hk_22,hm⟩:=zp hm
 refine fL 1 l_2.length fun hl_26=>?_
 refine Wp.forL (fun i_15 s=>[(1,.p (.l (List.map ze l_2))),(2,.ptr 0 0),(30,.p (.l (List.map ze l_2))),(31,.p (.i .i64 (l_2.length:Int))),(32,.p (.i .i64 (i_15:Int)))]) (fun i_15 s=>[.cells 26 [.p (.l (List.map za m_1.Facts)),.p (.l (List.map zc m_1.Files)),.p (.l (List.map za m_1.Settings)),.p (.l (List.map zb m_1.Services))],.cells 26 [.top,.top,.top,.top],.mp true (zx Dt.s zc r_5.1),.mp false (zx Dt.s ecS r_5.2.1),.mp true (zx Dt.s zb r_5.2.2.1),.cells 129 [.p (.l (List.map za r_5.2.2.2)),.mp 2,.mp 3,.mp 4],.cells 38 [.p (.s ((q_16.getD (api_File.mk [] [] false)).Path)),.p (.s ((q_16.getD (api_File.mk [] [] false)).Data)),.p (.b ((q_16.getD (api_File.mk [] [] false)).Runs))]]) wF hm ?_;clear hm;intro i_15 s hii_15 hm
 try dsimp only at hm⊢
 refine qS ?_
 refine Wp.seqW fun _ hK44 _=>Wp.cond rfl ⟨⟩ (fun hc44=>?_) fun hc44=>Wp.exit (hW14 _ _ _ _ wF (hcut14 () (hk_22 _ (zt hm (geN hc44)))))
 have hlt44:=ltN hc44;have hw44:=zn hlt44 hl_26;obtain⟨c_4,nx_23,hxc_4,hyc_4,hnx_23,hm⟩:=zo hm hlt44;replace hxc_4:=hxc_4 ze;refine Wp.skip ?_;simp only[zq];refine hK44 _ _ (Wp.seqW fun _ hK45 _=>Wp.block ?_);have hA:=And.intro hw44 hxc_4;refine q6 ?_;obtain⟨r_24,hr_24,hm⟩:=zI hm
 refine rS fun _ hK47=>?_
 refine cX (g:=(((decide (c_4.Kind=1))||(decide (c_4.Kind=2)))&&(!(decide (c_4.File.Path=([115,116,97,103,101]:Str)))))) (fun hg=>zha c_4.File.Path _ (hr_24 hg)) (hK47 _ _ ?_)
 refine cR hm fun hm=>?_
 refine Wp.skip (hK45 _ _ (r6 ?_));exact wN () hlt44 (hnx_23 _ hm)
theorem zn9(m_2:api_Machine)(l_3:List api_Change)(all_10:Bool)(z:List api_Change)(hm:zgi m_2 l_3 all_10=some z):Does Tryz.prog 28 [.agg [.p (.l (List.map za m_2.Facts)),.p (.l (List.map zc m_2.Files)),.p (.l (List.map za m_2.Settings)),.p (.l (List.map zb m_2.Services))],.p (.l (List.map ze l_3)),.p (.b all_10)] [] (fun r X=>r=.p (.l (List.map ze z))∧X=[]):=by
 unfold zgi at hm
 refine dW 0 36 [.tmp 6] Tryz.func28 fun B=>nA fun hA=>?_
 refine qS ?_
 refine Wp.seqW fun _ hK2 _=>qS ?_
 refine cR hm fun hm=>?_
 refine Wp.skip (hK2 _ _ (qS ?_))
 refine Wp.seqW fun K7 hK7 hW7=>?_
 obtain⟨k_8,hk_8,hm⟩:=zj hm
 have hcut7:∀s,k_8 s=some z→K7 [(7,.buf 1)] [.cells 26 [.top,.top,.top,.top],.buf 44 10 (List.map ze s)]:=by
  intro o1_13 hs;have hm:=hk_8 _ hs;clear hs
  try dsimp only at hm⊢
  exact hK7 _ _ (wQ)
 clear hK7 hk_8;obtain⟨c_14,hm⟩:=zh hm;refine q6 ?_;refine Wp.block (Wp.adopt 7 44 10 rfl ?_);simp only[go_sem,simprocAttr];obtain⟨k_11,hk_11,hm⟩:=zp hm
 refine fL 16 ((List.take ((min (l_3.length:Int) 12).toNat) l_3).length) fun hl_12=>?_
 refine Wp.forL (fun i_4 s=>[(3,.ptr 0 0),(7,.buf 1),(16,.p (.l (List.map ze (List.take ((min (l_3.length:Int) 12).toNat) l_3)))),(17,.p (.i .i64 ((List.take ((min (l_3.length:Int) 12).toNat) l_3).length:Int))),(18,.p (.i .i64 (i_4:Int)))]) (fun i_4 s=>[.cells 26 [.p (.l (List.map za m_2.Facts)),.p (.l (List.map zc m_2.Files)),.p (.l (List.map za m_2.Settings)),.p (.l (List.map zb m_2.Services))],.buf 44 10 (List.map ze s)]) wF hm ?_;clear hm;intro i_4 o1_5 hii_4 hm
 try dsimp only at hm⊢
 refine qS ?_
 refine Wp.seqW fun _ hK11 _=>Wp.cond rfl ⟨⟩ (fun hc11=>?_) fun hc11=>Wp.exit (hW7 _ _ _ _ wF (hcut7 o1_5 (hk_11 _ (zt hm (geN hc11)))))
 have hlt11:=ltN hc11;have hw11:=zn hlt11 hl_12;obtain⟨c_1,nx_9,hxc_1,hyc_1,hnx_9,hm⟩:=zo hm hlt11;replace hxc_1:=hxc_1 ze;refine Wp.skip ?_;simp only[zq];refine hK11 _ _ (Wp.seqW fun _ hK12 _=>Wp.block ?_);have hA:=And.intro hw11 hxc_1;refine q6 ?_;obtain⟨r_6,hr_6,hm⟩:=zd hm;obtain⟨c_15,hm⟩:=zh hm;obtain⟨r_7,hr_7,hm⟩:=zd hm
 refine Wp.seqDS (plan:=(.rd 0 (.rd 1 (.rd 3 (.fk 2 [0,3] (.ef 4 [0,1] (.ef 5 [0] (.rd 6 (.rd 7 .nil)))) 4 [0,1] (.ef 2 [0,3] (.ef 5 [0] (.rd 6 (.rd 7 .nil))))))))) (by kernel_rfl) rfl (by kernel_rfl) fun K14 hK14 hW14=>?_
 suffices hcont14:K14 [(3,.ptr 0 0),(7,.buf 1),(9,.ptr 2 0),(16,.p (.l (List.map ze (List.take ((min (l_3.length:Int) 12).toNat) l_3)))),(17,.p (.i .i64 ((List.take ((min (l_3.length:Int) 12).toNat) l_3).length:Int))),(18,.p (.i .i64 (i_4:Int))),(19,.p (.b (decide ((i_4:Int)<((List.take ((min (l_3.length:Int) 12).toNat) l_3).length:Int))))),(20,.rp [.i .i64 c_1.Kind,.s c_1.File.Path,.s c_1.File.Data,.b c_1.File.Runs,.s c_1.Setting.Key,.s c_1.Setting.Value,.s c_1.Service.Name,.s c_1.Service.Path,.b c_1.Service.Auto,.b c_1.Service.On]),(21,.agg [.p (.i .i64 c_1.Kind),.p (.s c_1.File.Path),.p (.s c_1.File.Data),.p (.b c_1.File.Runs),.p (.s c_1.Setting.Key),.p (.s c_1.Setting.Value),.p (.s c_1.Service.Name),.p (.s c_1.Service.Path),.p (.b c_1.Service.Auto),.p (.b c_1.Service.On)]),(22,.agg [.p (.l (List.map za m_2.Facts)),.p (.l (List.map zc m_2.Files)),.p (.l (List.map za m_2.Settings)),.p (.l (List.map zb m_2.Services))]),(23,.buf 1),(24,.top),(25,.agg [.p (.i .i64 c_1.Kind),.p (.s c_1.File.Path),.p (.s c_1.File.Data),.p (.b c_1.File.Runs),.p (.s c_1.Setting.Key),.p (.s c_1.Setting.Value),.p (.s c_1.Service.Name),.p (.s c_1.Service.Path),.p (.b c_1.Service.Auto),.p (.b c_1.Service.On)]),(26,.full (List.map ze [c_1])),(27,.buf 3),(28,.p (.i .i64 r_7)),(29,.p (.b (decide (r_7=0))))] [.cells 26 [.p (.l (List.map za m_2.Facts)),.p (.l (List.map zc m_2.Files)),.p (.l (List.map za m_2.Settings)),.p (.l (List.map zb m_2.Services))],.buf 44 10 (List.map ze o1_5),.cells 44 [.p (.i .i64 c_1.Kind),.p (.s c_1.File.Path),.p (.s c_1.File.Data),.p (.b c_1.File.Runs),.p (.s c_1.Setting.Key),.p (.s c_1.Setting.Value),.p (.s c_1.Service.Name),.p (.s c_1.Service.Path),.p (.b c_1.Service.Auto),.p (.b c_1.Service.On)],.buf 44 10 (List.map ze (r_6++[c_1]))]by
  simp only[go_sem,simprocAttr,hw11,hxc_1]
  try refine⟨sL,?_⟩
  refine Dr.fk ?_ ?_
  ·
   refine id (Br.callLN (av:=?av15) (o:=?o15) (zaO o1_5 _ hr_6) (znj (fun _=>rfl) _) (by simp only[go_sem,simprocAttr,hw11,hxc_1];exact Is.mk) (by simp only[go_sem,simprocAttr,hw11,hxc_1];exact Is.mk) (by simp only[go_sem,simprocAttr,hw11,hxc_1];exact Is.mk) (by simp only[go_sem,simprocAttr,hw11,hxc_1];exact Is.mk) (by simp only[go_sem,simprocAttr,hw11,hxc_1]) (by simp only[go_sem,simprocAttr,hw11,hxc_1]) ?cont15);simp only[go_sem,simprocAttr,hw11,hxc_1]
   try refine⟨sL,?_⟩
   refine Dr.callF (av:=?av16) (g:=true) (o:=?o16) (fun hg=>zdG m_2 (r_6++[c_1]) _ hr_7) (by simp only[go_sem,simprocAttr,hw11,hxc_1];exact Is.mk) (by simp only[go_sem,simprocAttr,hw11,hxc_1];exact Is.mk) (by simp only[go_sem,simprocAttr,hw11,hxc_1];exact Is.mk) (by simp only[go_sem,simprocAttr,hw11,hxc_1,List.map_append,List.map_cons,List.map_nil];exact Is.mk) (by simp only[go_sem,simprocAttr,hw11,hxc_1]) (by simp only[go_sem,simprocAttr,hw11,hxc_1];exact Is.mk) ?cont16;simp only[go_sem,simprocAttr,hw11,hxc_1]
   first|refine hW14.weak _ _ _ _ ?_ hcont14|refine⟨sL,hW14.weak _ _ _ _ ?_ hcont14⟩
   simp only[go_sem,simprocAttr,hw11,hxc_1]
   try exact se1
  ·
   refine Br.run (o:=?o17) (by simp only[go_sem,simprocAttr,hw11,hxc_1];exact Is.mk) (by simp only[go_sem,simprocAttr,hw11,hxc_1];exact Is.mk) ?cont17;simp only[go_sem,simprocAttr,hw11,hxc_1]
   try refine⟨sL,?_⟩
   refine Dr.of_br (Br.callLN (av:=?av18) (o:=?o18) (zaO o1_5 _ hr_6) (znj (fun _=>rfl) _) (by simp only[go_sem,simprocAttr,hw11,hxc_1];exact Is.mk) (by simp only[go_sem,simprocAttr,hw11,hxc_1];exact Is.mk) (by simp only[go_sem,simprocAttr,hw11,hxc_1];exact Is.mk) (by simp only[go_sem,simprocAttr,hw11,hxc_1];exact Is.mk) (by simp only[go_sem,simprocAttr,hw11,hxc_1]) (by simp only[go_sem,simprocAttr,hw11,hxc_1]) ?cont18);simp only[go_sem,simprocAttr,hw11,hxc_1]
   try refine⟨sL,?_⟩
   refine Dr.callF (av:=?av19) (g:=true) (o:=?o19) (fun hg=>zdG m_2 (r_6++[c_1]) _ hr_7) (by simp only[go_sem,simprocAttr,hw11,hxc_1];exact Is.mk) (by simp only[go_sem,simprocAttr,hw11,hxc_1];exact Is.mk) (by simp only[go_sem,simprocAttr,hw11,hxc_1];exact Is.mk) (by simp only[go_sem,simprocAttr,hw11,hxc_1,List.map_append,List.map_cons,List.map_nil];exact Is.mk) (by simp only[go_sem,simprocAttr,hw11,hxc_1]) (by simp only[go_sem,simprocAttr,hw11,hxc_1];exact Is.mk) ?cont19;simp only[go_sem,simprocAttr,hw11,hxc_1]
   first|refine hW14.weak _ _ _ _ ?_ hcont14|refine⟨sL,hW14.weak _ _ _ _ ?_ hcont14⟩
   simp only[go_sem,simprocAttr,hw11,hxc_1]
   try exact se1
 refine hK14 _ _ (cN hm (fun hm=>?_) fun hm=>?_)
 ·obtain⟨c_16,hm⟩:=zh hm
  refine r6 ?_;refine hK12 _ _ (r6 ?_);exact wN (o1_5++[c_1]) hlt11 (hnx_9 _ hm)
 ·refine Wp.skip (hK12 _ _ (r6 ?_))
  exact wN o1_5 hlt11 (hnx_9 _ hm)
theorem zhP(f_1:api_File)(o0_0_2:Str)(z:Bool)(hm:zba f_1 o0_0_2=some z):Does Tryz.prog 217 [.agg [.p (.s f_1.Path),.p (.s f_1.Data),.p (.b f_1.Runs)],.ptr 0 0] [.cells 9 [.p (.s o0_0_2)]] (fun r X=>r=.p (.b z)∧X=[.cells 9 [.p (.s o0_0_2)]]):=by
 unfold zba at hm
 refine dW 1 8 [.tmp 3] Tryz.func217 fun B=>nA fun hA=>?_
 refine qS ?_;exact wQ
theorem zck(s_3:List api_File)(o0_0_1:Str)(z:Int)(hm:z7 s_3 o0_0_1=some z):Does Tryz.prog 162 [.p (.l (List.map zc s_3)),.fn 217 [.ptr 0 0]] [.cells 9 [.p (.s o0_0_1)]] (fun r X=>r=.p (.i .i64 z)∧X=[.cells 9 [.p (.s o0_0_1)]]):=by
 unfold z7 at hm
 refine dW 1 19 [.tmp 4] Tryz.func162 fun B=>nA fun hA=>?_
 refine qS ?_
 refine Wp.seqW fun K2 hK2 hW2=>?_
 obtain⟨k_4,hk_4,hm⟩:=zj hm
 have hcut2:∀s,k_4 s=some z→K2 [] [.cells 9 [.p (.s o0_0_1)]]:=by
  intro s hs;have hm:=hk_4 _ hs;clear hs
  try dsimp only at hm⊢
  exact hK2 _ _ (wQ)
 clear hK2 hk_4;refine qS ?_;refine Wp.block ?_;obtain⟨k_6,hk_6,hm⟩:=zp hm
 refine fL 0 s_3.length fun hl_9=>?_
 refine Wp.forL (fun i_5 s=>[(0,.p (.l (List.map zc s_3))),(1,.fn 217 [.ptr 0 0]),(7,.p (.i .i64 (s_3.length:Int))),(8,.p (.i .i64 (i_5:Int)))]) (fun i_5 s=>[.cells 9 [.p (.s o0_0_1)]]) wF hm ?_;clear hm;intro i_5 s hii_5 hm
 try dsimp only at hm⊢
 refine qS ?_
 refine Wp.seqW fun _ hK6 _=>Wp.cond rfl ⟨⟩ (fun hc6=>?_) fun hc6=>Wp.exit (hW2 _ _ _ _ wF (hcut2 () (hk_6 _ (zt hm (geN hc6)))))
 have hlt6:=ltN hc6;have hw6:=zn hlt6 hl_9;obtain⟨f_2,nx_7,hxf_2,hyf_2,hnx_7,hm⟩:=zo hm hlt6;replace hxf_2:=hxf_2 zc;refine Wp.skip ?_;simp only[zq];refine hK6 _ _ (Wp.seqW fun _ hK7 _=>Wp.block ?_);have hA:=And.intro hw6 hxf_2;refine q6 ?_;obtain⟨r_8,hr_8,hm⟩:=zd hm
 refine rS fun _ hK9=>?_
 refine cQ [0] (fun hg=>zhP f_2 o0_0_1 _ hr_8) (hK9 _ _ ?_)
 refine cR hm fun hm=>?_
 refine Wp.skip (hK7 _ _ (r6 ?_));exact wN () hlt6 (hnx_7 _ hm)
theorem zlL(m_1:api_Machine)(path_3:Str)(z:api_File×Bool)(hm:zde m_1 path_3=some z):Does Tryz.prog 166 [.agg [.p (.l (List.map za m_1.Facts)),.p (.l (List.map zc m_1.Files)),.p (.l (List.map za m_1.Settings)),.p (.l (List.map zb m_1.Services))],.p (.s path_3)] [] (fun r X=>r=.tup [.agg [.p (.s z.1.Path),.p (.s z.1.Data),.p (.b z.1.Runs)],.p (.b z.2)]∧X=[]):=by
 unfold zde at hm
 refine dW 0 19 [.cell 4 38,.tmp 5] Tryz.func166 fun B=>nA fun hA=>?_
 refine qS ?_;obtain⟨r_4,hr_4,hm⟩:=zd hm
 refine rS fun _ hK2=>?_
 refine cQ [1] (fun hg=>zck m_1.Files path_3 _ hr_4) (hK2 _ _ ?_)
 refine Wp.seqW fun _ hK4 _=>qS ?_
 refine cR hm fun hm=>?_
 refine Wp.skip (hK4 _ _ ?_);obtain⟨f_2,hbf_2,hxf_2,hyf_2,hm⟩:=zbt hm;replace hxf_2:∀d,(List.map zc m_1.Files).getD r_4.toNat d=zc f_2:=hxf_2 zc;have hA:=hxf_2;exact wQ
theorem zg3(s_2:Str)(sep_1:Str)(z:List Str)(hm:zaT s_2 sep_1=some z):Does Tryz.prog 109 [.p (.s s_2),.p (.s sep_1)] [] (fun r X=>r=.p (.l (List.map ecS z))∧X=[]):=by
 unfold zaT at hm
 refine dW 0 10 [.tmp 4] Tryz.func109 fun B=>nA fun hA=>?_
 refine qS ?_;obtain⟨r_3,hr_3,hm⟩:=zd hm
 refine rS fun _ hK2=>?_
 refine cF (ze6 s_2 sep_1 (sep_1.length:Int) (-1) _ hr_3) (hK2 _ _ ?_);exact wR
theorem zdE(s_1:Str)(prefix_2:Str)(z:Str×Bool)(hm:zaq s_1 prefix_2=some z):Does Tryz.prog 187 [.p (.s s_1),.p (.s prefix_2)] [] (fun r X=>r=.tup [.p (.s z.1),.p (.b z.2)]∧X=[]):=by
 unfold zaq at hm
 refine dW 0 15 [.tmp 4,.tmp 5] Tryz.func187 fun B=>nA fun hA=>?_
 refine qS ?_
 refine Wp.seqW fun _ hK2 _=>?_
 obtain⟨r_3,hr_3,hm⟩:=zd hm
 refine rS fun _ hK3=>?_
 refine cX (fun hg=>zbq s_1 prefix_2 _ hr_3) (hK3 _ _ ?_)
 refine cR hm fun hm=>?_
 refine Wp.skip (hK2 _ _ ?_);obtain⟨c_4,hm⟩:=zh hm;exact wQ
theorem zbC(s_1:Str)(prefix_2:Str)(z:Str×Bool)(hm:zay s_1 prefix_2=some z):Does Tryz.prog 115 [.p (.s s_1),.p (.s prefix_2)] [] (fun r X=>r=.tup [.p (.s z.1),.p (.b z.2)]∧X=[]):=by
 unfold zay at hm
 refine dW 0 11 [.tmp 4,.tmp 5] Tryz.func115 fun B=>nA fun hA=>?_
 refine qS ?_;obtain⟨r_3,hr_3,hm⟩:=zd hm
 refine rS fun _ hK2=>?_
 refine cX (fun hg=>zdE s_1 prefix_2 _ hr_3) (hK2 _ _ ?_);exact wR
theorem zdC(s_1:Str)(suffix_2:Str)(z:Bool)(hm:zao s_1 suffix_2=some z):Does Tryz.prog 269 [.p (.s s_1),.p (.s suffix_2)] [] (fun r X=>r=.p (.b z)∧X=[]):=by
 unfold zao at hm
 refine dW 0 21 [.tmp 4] Tryz.func269 fun B=>nA fun hA=>?_
 refine qS ?_;obtain⟨c_3,hm⟩:=zh hm;exact wQ
theorem zdD(s_1:Str)(suffix_2:Str)(z:Str×Bool)(hm:zap s_1 suffix_2=some z):Does Tryz.prog 233 [.p (.s s_1),.p (.s suffix_2)] [] (fun r X=>r=.tup [.p (.s z.1),.p (.b z.2)]∧X=[]):=by
 unfold zap at hm
 refine dW 0 18 [.tmp 4,.tmp 5] Tryz.func233 fun B=>nA fun hA=>?_
 refine qS ?_
 refine Wp.seqW fun _ hK2 _=>?_
 obtain⟨r_3,hr_3,hm⟩:=zd hm
 refine rS fun _ hK3=>?_
 refine cX (fun hg=>zdC s_1 suffix_2 _ hr_3) (hK3 _ _ ?_)
 refine cR hm fun hm=>?_
 refine Wp.skip (hK2 _ _ ?_);obtain⟨c_4,hm⟩:=zh hm;exact wQ
theorem zhO(s_1:Str)(suffix_2:Str)(z:Str×Bool)(hm:zbH s_1 suffix_2=some z):Does Tryz.prog 183 [.p (.s s_1),.p (.s suffix_2)] [] (fun r X=>r=.tup [.p (.s z.1),.p (.b z.2)]∧X=[]):=by
 unfold zbH at hm
 refine dW 0 11 [.tmp 4,.tmp 5] Tryz.func183 fun B=>nA fun hA=>?_
 refine qS ?_;obtain⟨r_3,hr_3,hm⟩:=zd hm
 refine rS fun _ hK2=>?_
 refine cX (fun hg=>zdD s_1 suffix_2 _ hr_3) (hK2 _ _ ?_);exact wR
end Go.Proofs.YtbofknpajcdnmaaGreatDoor
