/- That the code does what the models say (part 6). -/
import Derived.Test.YtmnohdgjkcjdeaaGreatDoorLoWk0
import Derived.Test.YtmnohdgjkcjdeaaGreatDoorLoWk1
import Derived.Test.YtmnohdgjkcjdeaaGreatDoorLoWk2
import Derived.Test.YtmnohdgjkcjdeaaGreatDoorLoWk3
import Derived.Test.YtmnohdgjkcjdeaaGreatDoorLoWk4
import Derived.Test.YtmnohdgjkcjdeaaGreatDoorLoWk5
set_option linter.unusedSimpArgs false
set_option linter.unusedVariables false
open Go.Proofs Go.Shelf
namespace Go.Proofs.YtmnohdgjkcjdeaaGreatDoor
open Go.Vc Go.Md
set_option maxRecDepth 100000
set_option maxHeartbeats 4000000
theorem ok_strings_Repeat (s_1:Str) (count_2:Int) (z:Str) (hm:zb0 s_1 count_2=some z):Does Tryz.prog 82 [.p (.s s_1),.p (.i .i64 count_2)] [] (fun r X=>r=.p (.s z)∧X=[]):=by
 unfold zb0 at hm
 refine dW 0 125 [.tmp 4] Tryz.func82 fun B=>?_
 refine qS ?_
 refine Wp.seqW fun K2 hK2 hW2=>?_
 refine qS ?_
 refine Wp.block ?_
 refine qS ?_
 refine cM hm (fun hc5 hm=>?_) (fun hc5 hm=>?_)
 ·refine qS ?_
  refine Wp.ret ?_
  refine zc ?_
  cases hm
  exact zm
 ·refine qS ?_
  refine cM hm (fun hc8 hm=>?_) (fun hc8 hm=>?_)
  ·refine qS ?_
   refine Wp.ret ?_
   refine zc ?_
   cases hm
   exact zm
  ·refine Wp.skip ?_
   refine hK2 _ _ ?_
   refine Wp.seqW fun K10 hK10 hW10=>?_
   obtain ⟨k_3,hk_3,hm⟩:=zl hm
   have hcut10:∀ s,k_3 s=some z→K10 [(0,.p (.s s_1)),(1,.p (.i .i64 count_2))] []:=by
    intro s hs
    have hm:=hk_3 _ hs
    clear hs
    try dsimp only at hm
    try dsimp only
    refine hK10 _ _ ?_
    obtain ⟨r_4,hr_4,hm⟩:=zb hm
    refine Wp.seqR fun K11 hK11=>?_
    simp only [go_sem,simprocAttr]
    try refine ⟨sd,?_⟩
    refine Rg.callX (av:=?av12) (g:=true) (fun hg=>ok_math_bits_Mul (IntKind.u64.wrap (s_1.length:Int)) (IntKind.u64.wrap count_2) _ hr_4) si si si sg si ?cont12
    intro hv12
    simp only [go_sem,simprocAttr]
    refine kA hK11 ?_
    refine Wp.seqW fun K13 hK13 hW13=>?_
    obtain ⟨k_5,hk_5,hm⟩:=zl hm
    have hcut13:∀ s,k_5 s=some z→K13 [(0,.p (.s s_1)),(6,.p (.i .u64 r_4.2))] []:=by
     intro s hs
     have hm:=hk_5 _ hs
     clear hs
     try dsimp only at hm
     try dsimp only
     refine hK13 _ _ ?_
     refine qS ?_
     refine Wp.seqW fun K15 hK15 hW15=>?_
     refine qS ?_
     refine cM hm (fun hc17 hm=>?_) (fun hc17 hm=>?_)
     ·refine qS ?_
      refine Wp.ret ?_
      refine zc ?_
      cases hm
      exact zm
     ·refine Wp.skip ?_
      refine hK15 _ _ ?_
      refine Wp.seqW fun K19 hK19 hW19=>?_
      obtain ⟨k_19,hk_19,hm⟩:=zl hm
      have hcut19:∀ s,k_19 s=some z→K19 [(0,.p (.s s_1)),(7,.p (.i .i64 (IntKind.i64.wrap r_4.2)))] []:=by
       intro s hs
       have hm:=hk_19 _ hs
       clear hs
       try dsimp only at hm
       try dsimp only
       refine hK19 _ _ ?_
       refine qS ?_
       refine Wp.seqW fun K21 hK21 hW21=>?_
       obtain ⟨k_22,hk_22,hm⟩:=zl hm
       have hcut21:∀ s,k_22 s=some z→K21 [(0,.p (.s s_1)),(7,.p (.i .i64 (IntKind.i64.wrap r_4.2))),(8,.p (.i .i64 s))] []:=by
        intro chunkMax_21 hs
        have hm:=hk_22 _ hs
        clear hs
        try dsimp only at hm
        try dsimp only
        refine hK21 _ _ ?_
        refine qS ?_
        refine Wp.adoptB 0 5 rfl ?_
        simp only [go_sem,simprocAttr]
        obtain ⟨r_23,hr_23,hm⟩:=zb hm
        refine Wp.seqR fun K23 hK23=>?_
        simp only [go_sem,simprocAttr]
        try refine ⟨sd,?_⟩
        refine Rg.callO (av:=?av24) [0,1] (zcz (IntKind.i64.wrap r_4.2) [] _ hr_23) si si si sg sg ?cont24
        rintro _ _ ⟨rfl,rfl⟩ hv24
        simp only [go_sem,simprocAttr]
        refine kA hK23 ?_
        obtain ⟨r_24,hr_24,hm⟩:=zb hm
        refine Wp.seqR fun K25 hK25=>?_
        simp only [go_sem,simprocAttr]
        try refine ⟨sd,?_⟩
        refine Rg.callO (av:=?av26) [0,1] (zE s_1 [] _ hr_24) si si si sg sg ?cont26
        rintro _ _ ⟨rfl,rfl⟩ hv26
        simp only [go_sem,simprocAttr]
        refine kA hK25 ?_
        refine Wp.seqW fun K27 hK27 hW27=>?_
        obtain ⟨k_47,hk_47,hm⟩:=zl hm
        have hcut27:∀ s,k_47 s=some z→K27 [(9,.ptr 0 0)] [.cells 75 [.np 0,.buf 1],.sb 5 s]:=by
         intro o1_46 hs
         have hm:=hk_47 _ hs
         clear hs
         try dsimp only at hm
         try dsimp only
         refine hK27 _ _ ?_
         obtain ⟨r_48,hr_48,hm⟩:=zb hm
         refine Wp.seqR fun K28 hK28=>?_
         simp only [go_sem,simprocAttr]
         try refine ⟨sd,?_⟩
         refine Rg.callO (av:=?av29) [0,1] (zal o1_46 _ hr_48) si si si sg sg ?cont29
         rintro _ _ ⟨rfl,rfl⟩ hv29
         simp only [go_sem,simprocAttr]
         refine kA hK28 ?_
         refine Wp.ret ?_
         refine zc ?_
         cases hm
         exact zm
        clear hK27 hk_47
        refine Wp.block ?_
        obtain ⟨k_62,hk_62,hm⟩:=zF hm
        refine Wp.loopN (fun s=>[(7,.p (.i .i64 (IntKind.i64.wrap r_4.2))),(8,.p (.i .i64 chunkMax_21)),(9,.ptr 0 0)]) (fun s=>[.cells 75 [.np 0,.buf 1],.sb 5 s]) ?_ hm ?_
        ·
         exact zm
        clear hm
        intro o1_55 nx_63 hm
        try dsimp only at hm
        try dsimp only
        refine Wp.seqW fun K30 hK30 hW30=>?_
        obtain ⟨r_64,hr_64,hm⟩:=zb hm
        refine Wp.seqR fun K31 hK31=>?_
        simp only [go_sem,simprocAttr]
        try refine ⟨sd,?_⟩
        refine Rg.callO (av:=?av32) [0,1] (za9 o1_55 _ hr_64) si si si sg sg ?cont32
        rintro _ _ ⟨rfl,rfl⟩ hv32
        simp only [go_sem,simprocAttr]
        refine kA hK31 ?_
        refine cM hm (fun hc33 hm=>?_) (fun hc33 hm=>?_)
        ·refine Wp.skip ?_
         refine hK30 _ _ ?_
         refine Wp.block ?_
         obtain ⟨r_65,hr_65,hm⟩:=zb hm
         obtain ⟨r_66,hr_66,hm⟩:=zb hm
         refine Wp.seqR fun K34 hK34=>?_
         simp only [go_sem,simprocAttr]
         try refine ⟨sd,?_⟩
         refine Rg.callO (av:=?av35) [0,1] (za9 o1_55 _ hr_65) si si si sg sg ?cont35
         rintro _ _ ⟨rfl,rfl⟩ hv35
         simp only [go_sem,simprocAttr]
         try refine ⟨sd,?_⟩
         refine Rg.callO (av:=?av36) [0,1] (za9 o1_55 _ hr_66) si si si sg sg ?cont36
         rintro _ _ ⟨rfl,rfl⟩ hv36
         simp only [go_sem,simprocAttr]
         refine kA hK34 ?_
         obtain ⟨r_67,hr_67,hm⟩:=zb hm
         obtain ⟨c_68,hm⟩:=zf hm
         obtain ⟨r_69,hr_69,hm⟩:=zb hm
         refine Wp.region fun K37 hK37=>?_
         simp only [go_sem,simprocAttr]
         try refine ⟨sL,?_⟩
         refine Rg.callO (av:=?av38) [0,1] (zal o1_55 _ hr_67) si si si sg sg ?cont38
         rintro _ _ ⟨rfl,rfl⟩ hv38
         simp only [go_sem,simprocAttr]
         try refine ⟨sL,?_⟩
         refine Rg.callO (av:=?av39) [0,1] (zE (List.take ((min (min (IntKind.i64.wrap ((IntKind.i64.wrap r_4.2) - r_65)) r_66) chunkMax_21).toNat) r_67) o1_55 _ hr_69) si si si sg sg ?cont39
         rintro _ _ ⟨rfl,rfl⟩ hv39
         simp only [go_sem,simprocAttr]
         refine kA hK37 ?_
         simp only [zk,zi,↓reduceIte]
         refine ⟨r_69.2,hm,?_⟩
         exact zm
        ·refine Wp.exit ?_
         simp only [zk,zi,↓reduceIte]
         have hm:=hk_62 _ hm
         try dsimp only at hm
         refine hW27 _ _ _ _ ?_ (hcut27 o1_55 hm)
         exact zm
       clear hK21 hk_22
       refine qS ?_
       refine cM hm (fun hc41 hm=>?_) (fun hc41 hm=>?_)
       ·obtain ⟨c_70,hm⟩:=zf hm
        refine Wp.seqR fun K42 hK42=>?_
        simp only [go_sem,simprocAttr]
        refine kA hK42 ?_
        refine qS ?_
        refine cM hm (fun hc44 hm=>?_) (fun hc44 hm=>?_)
        ·refine qR ?_
         refine hW21 _ _ _ _ ?_ (hcut21 (s_1.length:Int) hm)
         exact zm
        ·refine Wp.skip ?_
         refine hW21 _ _ _ _ ?_ (hcut21 (IntKind.i64.wrap ((IntKind.i64.wrap (Int.tdiv 8192 (s_1.length:Int))) * (s_1.length:Int))) hm)
         exact zm
       ·refine Wp.skip ?_
        refine hW21 _ _ _ _ ?_ (hcut21 (IntKind.i64.wrap r_4.2) hm)
        exact zm
      clear hK19 hk_19
      obtain ⟨c_71,hbc_71,hxc_71,hm⟩:=zab hm
      replace hxc_71:((s_1.getD 0 0).toNat:Int)=c_71:=hxc_71
      refine Wp.seqR fun K46 hK46=>?_
      simp only [go_sem,simprocAttr,hxc_71]
      refine kA hK46 ?_
      refine Wp.block ?_
      refine Wp.seqW fun K47 hK47 hW47=>?_
      obtain ⟨k_73,hk_73,hm⟩:=zl hm
      have hcut47:∀ s,k_73 s=some z→K47 [(0,.p (.s s_1)),(7,.p (.i .i64 (IntKind.i64.wrap r_4.2))),(43,.p (.b s))] []:=by
       intro t43_72 hs
       have hm:=hk_73 _ hs
       clear hs
       try dsimp only at hm
       try dsimp only
       refine hK47 _ _ ?_
       refine cM hm (fun hc48 hm=>?_) (fun hc48 hm=>?_)
       ·refine Wp.block ?_
        obtain ⟨r_74,hr_74,hm⟩:=zR hm
        refine Wp.seqR fun K49 hK49=>?_
        simp only [go_sem,simprocAttr,hxc_71]
        try refine ⟨sd,?_⟩
        refine Rg.callX (av:=?av50) (g:=decide ((IntKind.i64.wrap r_4.2)≤128)) (fun hg=>zaM ((List.append [32,32,32,32,32,32,32,32,32,32,32,32,32,32,32,32,32,32,32,32,32,32,32,32,32,32,32,32,32,32,32,32,32,32,32,32,32,32,32,32,32,32,32,32,32,32,32,32,32,32,32,32,32,32,32,32,32,32,32,32,32,32,32,32] [32,32,32,32,32,32,32,32,32,32,32,32,32,32,32,32,32,32,32,32,32,32,32,32,32,32,32,32,32,32,32,32,32,32,32,32,32,32,32,32,32,32,32,32,32,32,32,32,32,32,32,32,32,32,32,32,32,32,32,32,32,32,32,32]):Str) s_1 _ (hr_74 hg)) (by simp only [go_sem,simprocAttr,hxc_71]; exact Is.mk) (by simp only [go_sem,simprocAttr,hxc_71]; exact Is.mk) (by simp only [go_sem,simprocAttr,hxc_71]; exact Is.mk) (by simp only [go_sem,simprocAttr,hxc_71]) (by simp only [go_sem,simprocAttr,hxc_71]; exact Is.mk) ?cont50
        intro hv50
        simp only [go_sem,simprocAttr,hxc_71]
        refine kA hK49 ?_
        refine cM hm (fun hc51 hm=>?_) (fun hc51 hm=>?_)
        ·obtain ⟨c_75,hm⟩:=zf hm
         refine Wp.seqR fun K52 hK52=>?_
         simp only [go_sem,simprocAttr,hxc_71]
         refine kA hK52 ?_
         refine Wp.ret ?_
         refine zc ?_
         cases hm
         simp only [go_sem,simprocAttr,hxc_71]
         try exact se3
        ·obtain ⟨r_76,hr_76,hm⟩:=zR hm
         refine Wp.seqR fun K53 hK53=>?_
         simp only [go_sem,simprocAttr,hxc_71]
         try refine ⟨sd,?_⟩
         refine Rg.callX (av:=?av54) (g:=decide ((IntKind.i64.wrap r_4.2)≤128)) (fun hg=>zaM ((List.append [45,45,45,45,45,45,45,45,45,45,45,45,45,45,45,45,45,45,45,45,45,45,45,45,45,45,45,45,45,45,45,45,45,45,45,45,45,45,45,45,45,45,45,45,45,45,45,45,45,45,45,45,45,45,45,45,45,45,45,45,45,45,45,45] [45,45,45,45,45,45,45,45,45,45,45,45,45,45,45,45,45,45,45,45,45,45,45,45,45,45,45,45,45,45,45,45,45,45,45,45,45,45,45,45,45,45,45,45,45,45,45,45,45,45,45,45,45,45,45,45,45,45,45,45,45,45,45,45]):Str) s_1 _ (hr_76 hg)) (by simp only [go_sem,simprocAttr,hxc_71]; exact Is.mk) (by simp only [go_sem,simprocAttr,hxc_71]; exact Is.mk) (by simp only [go_sem,simprocAttr,hxc_71]; exact Is.mk) (by simp only [go_sem,simprocAttr,hxc_71]) (by simp only [go_sem,simprocAttr,hxc_71]; exact Is.mk) ?cont54
         intro hv54
         simp only [go_sem,simprocAttr,hxc_71]
         refine kA hK53 ?_
         refine cM hm (fun hc55 hm=>?_) (fun hc55 hm=>?_)
         ·obtain ⟨c_77,hm⟩:=zf hm
          refine Wp.seqR fun K56 hK56=>?_
          simp only [go_sem,simprocAttr,hxc_71]
          refine kA hK56 ?_
          refine Wp.ret ?_
          refine zc ?_
          cases hm
          simp only [go_sem,simprocAttr,hxc_71]
          try exact se3
         ·obtain ⟨r_78,hr_78,hm⟩:=zR hm
          refine Wp.seqR fun K57 hK57=>?_
          simp only [go_sem,simprocAttr,hxc_71]
          try refine ⟨sd,?_⟩
          refine Rg.callX (av:=?av58) (g:=decide ((IntKind.i64.wrap r_4.2)≤64)) (fun hg=>zaM ([48,48,48,48,48,48,48,48,48,48,48,48,48,48,48,48,48,48,48,48,48,48,48,48,48,48,48,48,48,48,48,48,48,48,48,48,48,48,48,48,48,48,48,48,48,48,48,48,48,48,48,48,48,48,48,48,48,48,48,48,48,48,48,48]:Str) s_1 _ (hr_78 hg)) (by simp only [go_sem,simprocAttr,hxc_71]; exact Is.mk) (by simp only [go_sem,simprocAttr,hxc_71]; exact Is.mk) (by simp only [go_sem,simprocAttr,hxc_71]; exact Is.mk) (by simp only [go_sem,simprocAttr,hxc_71]) (by simp only [go_sem,simprocAttr,hxc_71]; exact Is.mk) ?cont58
          intro hv58
          simp only [go_sem,simprocAttr,hxc_71]
          refine kA hK57 ?_
          refine cM hm (fun hc59 hm=>?_) (fun hc59 hm=>?_)
          ·obtain ⟨c_79,hm⟩:=zf hm
           refine Wp.seqR fun K60 hK60=>?_
           simp only [go_sem,simprocAttr,hxc_71]
           refine kA hK60 ?_
           refine Wp.ret ?_
           refine zc ?_
           cases hm
           simp only [go_sem,simprocAttr,hxc_71]
           try exact se3
          ·obtain ⟨r_80,hr_80,hm⟩:=zR hm
           refine Wp.seqR fun K61 hK61=>?_
           simp only [go_sem,simprocAttr,hxc_71]
           try refine ⟨sd,?_⟩
           refine Rg.callX (av:=?av62) (g:=decide ((IntKind.i64.wrap r_4.2)≤128)) (fun hg=>zaM ((List.append [61,61,61,61,61,61,61,61,61,61,61,61,61,61,61,61,61,61,61,61,61,61,61,61,61,61,61,61,61,61,61,61,61,61,61,61,61,61,61,61,61,61,61,61,61,61,61,61,61,61,61,61,61,61,61,61,61,61,61,61,61,61,61,61] [61,61,61,61,61,61,61,61,61,61,61,61,61,61,61,61,61,61,61,61,61,61,61,61,61,61,61,61,61,61,61,61,61,61,61,61,61,61,61,61,61,61,61,61,61,61,61,61,61,61,61,61,61,61,61,61,61,61,61,61,61,61,61,61]):Str) s_1 _ (hr_80 hg)) (by simp only [go_sem,simprocAttr,hxc_71]; exact Is.mk) (by simp only [go_sem,simprocAttr,hxc_71]; exact Is.mk) (by simp only [go_sem,simprocAttr,hxc_71]; exact Is.mk) (by simp only [go_sem,simprocAttr,hxc_71]) (by simp only [go_sem,simprocAttr,hxc_71]; exact Is.mk) ?cont62
           intro hv62
           simp only [go_sem,simprocAttr,hxc_71]
           refine kA hK61 ?_
           refine cM hm (fun hc63 hm=>?_) (fun hc63 hm=>?_)
           ·obtain ⟨c_81,hm⟩:=zf hm
            refine Wp.seqR fun K64 hK64=>?_
            simp only [go_sem,simprocAttr,hxc_71]
            refine kA hK64 ?_
            refine Wp.ret ?_
            refine zc ?_
            cases hm
            simp only [go_sem,simprocAttr,hxc_71]
            try exact se3
           ·obtain ⟨r_82,hr_82,hm⟩:=zR hm
            refine Wp.seqR fun K65 hK65=>?_
            simp only [go_sem,simprocAttr,hxc_71]
            try refine ⟨sd,?_⟩
            refine Rg.callX (av:=?av66) (g:=decide ((IntKind.i64.wrap r_4.2)≤64)) (fun hg=>zaM ([9,9,9,9,9,9,9,9,9,9,9,9,9,9,9,9,9,9,9,9,9,9,9,9,9,9,9,9,9,9,9,9,9,9,9,9,9,9,9,9,9,9,9,9,9,9,9,9,9,9,9,9,9,9,9,9,9,9,9,9,9,9,9,9]:Str) s_1 _ (hr_82 hg)) (by simp only [go_sem,simprocAttr,hxc_71]; exact Is.mk) (by simp only [go_sem,simprocAttr,hxc_71]; exact Is.mk) (by simp only [go_sem,simprocAttr,hxc_71]; exact Is.mk) (by simp only [go_sem,simprocAttr,hxc_71]) (by simp only [go_sem,simprocAttr,hxc_71]; exact Is.mk) ?cont66
            intro hv66
            simp only [go_sem,simprocAttr,hxc_71]
            refine kA hK65 ?_
            refine cM hm (fun hc67 hm=>?_) (fun hc67 hm=>?_)
            ·obtain ⟨c_83,hm⟩:=zf hm
             refine Wp.seqR fun K68 hK68=>?_
             simp only [go_sem,simprocAttr,hxc_71]
             refine kA hK68 ?_
             refine Wp.ret ?_
             refine zc ?_
             cases hm
             simp only [go_sem,simprocAttr,hxc_71]
             try exact se3
            ·refine Wp.skip ?_
             refine hW19 _ _ _ _ ?_ (hcut19 () hm)
             simp only [go_sem,simprocAttr,hxc_71]
             try exact se3
       ·refine Wp.skip ?_
        refine hW19 _ _ _ _ ?_ (hcut19 () hm)
        simp only [go_sem,simprocAttr,hxc_71]
        try exact se3
      clear hK47 hk_73
      refine Wp.seqR fun K69 hK69=>?_
      simp only [go_sem,simprocAttr,hxc_71]
      refine kA hK69 ?_
      refine cM hm (fun hc70 hm=>?_) (fun hc70 hm=>?_)
      ·refine Wp.skip ?_
       refine hW47 _ _ _ _ ?_ (hcut47 (decide (c_71=32)) hm)
       simp only [go_sem,simprocAttr,hxc_71]
       try exact se3
      ·refine Wp.seqR fun K71 hK71=>?_
       simp only [go_sem,simprocAttr,hxc_71]
       refine kA hK71 ?_
       refine cM hm (fun hc72 hm=>?_) (fun hc72 hm=>?_)
       ·refine Wp.skip ?_
        refine hW47 _ _ _ _ ?_ (hcut47 (decide (c_71=45)) hm)
        simp only [go_sem,simprocAttr,hxc_71]
        try exact se3
       ·refine Wp.seqR fun K73 hK73=>?_
        simp only [go_sem,simprocAttr,hxc_71]
        refine kA hK73 ?_
        refine cM hm (fun hc74 hm=>?_) (fun hc74 hm=>?_)
        ·refine Wp.skip ?_
         refine hW47 _ _ _ _ ?_ (hcut47 (decide (c_71=48)) hm)
         simp only [go_sem,simprocAttr,hxc_71]
         try exact se3
        ·refine Wp.seqR fun K75 hK75=>?_
         simp only [go_sem,simprocAttr,hxc_71]
         refine kA hK75 ?_
         refine cM hm (fun hc76 hm=>?_) (fun hc76 hm=>?_)
         ·refine Wp.skip ?_
          refine hW47 _ _ _ _ ?_ (hcut47 (decide (c_71=61)) hm)
          simp only [go_sem,simprocAttr,hxc_71]
          try exact se3
         ·refine Wp.region fun K77 hK77=>?_
          simp only [go_sem,simprocAttr,hxc_71]
          refine kA hK77 ?_
          refine hW47 _ _ _ _ ?_ (hcut47 (decide (c_71=9)) hm)
          simp only [go_sem,simprocAttr,hxc_71]
          try exact se3
    clear hK13 hk_5
    refine qS ?_
    refine cM hm (fun hc79 hm=>?_) (fun hc79 hm=>?_)
    ·cases hm
    ·refine Wp.skip ?_
     refine hW13 _ _ _ _ ?_ (hcut13 () hm)
     exact zm
   clear hK10 hk_3
   refine qS ?_
   refine cM hm (fun hc81 hm=>?_) (fun hc81 hm=>?_)
   ·cases hm
   ·refine Wp.skip ?_
    refine hW10 _ _ _ _ ?_ (hcut10 () hm)
    exact zm
theorem zbR (s_1:Str) (z:Str) (hm:R_SumOf s_1=some z):Does Tryz.prog 41 [.p (.s s_1)] [] (fun r X=>r=.p (.s z)∧X=[]):=by
 unfold R_SumOf at hm
 refine dW 0 27 [.tmp 2] Tryz.func41 fun B=>?_
 refine qS ?_
 refine qS ?_
 refine Wp.seqW fun K3 hK3 hW3=>?_
 obtain ⟨k_11,hk_11,hm⟩:=zl hm
 have hcut3:∀ s,k_11 s=some z→K3 [(3,.p (.i .u64 s))] []:=by
  intro h_10 hs
  have hm:=hk_11 _ hs
  clear hs
  try dsimp only at hm
  try dsimp only
  refine hK3 _ _ ?_
  obtain ⟨r_12,hr_12,hm⟩:=zb hm
  refine Wp.seqR fun K4 hK4=>?_
  simp only [go_sem,simprocAttr]
  try refine ⟨sd,?_⟩
  refine Rg.callX (av:=?av5) (g:=true) (fun hg=>ok_strconv_FormatUint h_10 16 _ hr_12) si si si sg si ?cont5
  intro hv5
  simp only [go_sem,simprocAttr]
  refine kA hK4 ?_
  obtain ⟨r_13,hr_13,hm⟩:=zb hm
  obtain ⟨c_14,hm⟩:=zf hm
  refine Wp.seqR fun K6 hK6=>?_
  simp only [go_sem,simprocAttr]
  try refine ⟨sL,?_⟩
  refine Rg.callX (av:=?av7) (g:=true) (fun hg=>ok_strings_Repeat ([48]:Str) (IntKind.i64.wrap (16 - (r_12.length:Int))) _ hr_13) si si si sg si ?cont7
  intro hv7
  simp only [go_sem,simprocAttr]
  refine kA hK6 ?_
  refine Wp.ret ?_
  refine zc ?_
  cases hm
  exact zm
 clear hK3 hk_11
 refine qS ?_
 refine Wp.block ?_
 obtain ⟨k_18,hk_18,hm⟩:=zQ hm
 refine Wp.fact 0 fun hl_21=>?_
 replace hl_21:s_1.length≤274877906944:=by
  simp only [go_sem,simprocAttr,List.length_map] at hl_21
  omega
 refine Wp.forL (fun i_20 s=>[(0,.p (.s s_1)),(3,.p (.i .u64 s)),(7,.p (.i .i64 (s_1.length:Int))),(8,.p (.i .i64 (i_20:Int)))]) (fun i_20 s=>[]) ?_ hm ?_
 ·
  exact zm
 clear hm
 intro i_20 h_15 hii_20 hm
 try dsimp only at hm
 try dsimp only
 refine qS ?_
 refine Wp.seqW fun K10 hK10 hW10=>?_
 refine Wp.cond rfl ⟨⟩ (fun hc10=>?_) (fun hc10=>?_)
 rotate_left
 ·refine Wp.exit ?_
  have hm:=hk_18 _ (zae hm (zbd (by first | exact hc10 | simpa using hc10)))
  try dsimp only at hm
  refine hW3 _ _ _ _ ?_ (hcut3 h_15 hm)
  exact zm
 have hlt10:=zbc (by first | exact hc10 | simpa using hc10)
 have hw10:=zO hlt10 hl_21
 obtain ⟨c_22,nx_19,hxc_22,hyc_22,hnx_19,hm⟩:=zP hm hlt10
 clear hxc_22
 refine Wp.skip ?_
 simp only [zk]
 refine hK10 _ _ ?_
 refine Wp.seqW fun K11 hK11 hW11=>?_
 refine Wp.block ?_
 refine Wp.seqR fun K12 hK12=>?_
 simp only [go_sem,simprocAttr,hw10,hyc_22]
 refine kA hK12 ?_
 refine Wp.region fun K13 hK13=>?_
 simp only [go_sem,simprocAttr,hw10,hyc_22]
 refine kA hK13 ?_
 refine hK11 _ _ ?_
 refine Wp.region fun K14 hK14=>?_
 simp only [go_sem,simprocAttr,hw10,hyc_22]
 refine kA hK14 ?_
 simp only [zk,zi,↓reduceIte]
 refine ⟨IntKind.u64.wrap ((zaw .xor .u64 h_15 (IntKind.u64.wrap (c_22.toNat:Int))) * 1099511628211),hlt10,hnx_19 _ hm,?_⟩
 simp only [go_sem,simprocAttr,hw10,hyc_22]
 try exact se3
theorem ok_R_LogText (l_1:List api_Record) (z:Str × Str) (hm:R_LogText l_1=some z):Does Tryz.prog 13 [.p (.l (List.map za l_1))] [] (fun r X=>r=.tup [.p (.s z.1),.p (.s z.2)]∧X=[]):=by
 unfold R_LogText at hm
 refine dW 0 30 [.tmp 2,.tmp 3] Tryz.func13 fun B=>?_
 refine qS ?_
 refine qS ?_
 refine Wp.adoptB 0 5 rfl ?_
 simp only [go_sem,simprocAttr]
 refine qS ?_
 refine Wp.seqW fun K4 hK4 hW4=>?_
 obtain ⟨k_37,hk_37,hm⟩:=zl hm
 have hcut4:∀ s,k_37 s=some z→K4 [(4,.ptr 0 0),(5,.p (.s s.1))] [.cells 75 [.np 0,.buf 1],.sb 5 s.2]:=by
  intro s hs
  have hm:=hk_37 _ hs
  clear hs
  obtain ⟨sum_35,o1_36⟩:=s
  try dsimp only at hm
  try dsimp only
  refine hK4 _ _ ?_
  obtain ⟨r_38,hr_38,hm⟩:=zb hm
  refine Wp.seqR fun K5 hK5=>?_
  simp only [go_sem,simprocAttr]
  try refine ⟨sd,?_⟩
  refine Rg.callO (av:=?av6) [0,1] (zal o1_36 _ hr_38) si si si sg sg ?cont6
  rintro _ _ ⟨rfl,rfl⟩ hv6
  simp only [go_sem,simprocAttr]
  refine kA hK5 ?_
  refine Wp.ret ?_
  refine zc ?_
  cases hm
  exact zm
 clear hK4 hk_37
 refine qS ?_
 refine Wp.block ?_
 obtain ⟨k_60,hk_60,hm⟩:=zQ hm
 refine Wp.fact 9 fun hl_63=>?_
 replace hl_63:l_1.length≤274877906944:=by
  simp only [go_sem,simprocAttr,List.length_map] at hl_63
  omega
 refine Wp.forL (fun i_62 s=>[(4,.ptr 0 0),(5,.p (.s s.1)),(9,.p (.l (List.map za l_1))),(10,.p (.i .i64 (l_1.length:Int))),(11,.p (.i .i64 (i_62:Int)))]) (fun i_62 s=>[.cells 75 [.np 0,.buf 1],.sb 5 s.2]) ?_ hm ?_
 ·
  exact zm
 clear hm
 intro i_62 s hii_62 hm
 obtain ⟨sum_49,o1_51⟩:=s
 try dsimp only at hm
 try dsimp only
 refine qS ?_
 refine Wp.seqW fun K9 hK9 hW9=>?_
 refine Wp.cond rfl ⟨⟩ (fun hc9=>?_) (fun hc9=>?_)
 rotate_left
 ·refine Wp.exit ?_
  have hm:=hk_60 _ (zae hm (zbd (by first | exact hc9 | simpa using hc9)))
  try dsimp only at hm
  refine hW4 _ _ _ _ ?_ (hcut4 (sum_49,o1_51) hm)
  exact zm
 have hlt9:=zbc (by first | exact hc9 | simpa using hc9)
 have hw9:=zO hlt9 hl_63
 obtain ⟨r_64,nx_61,hxr_64,hyr_64,hnx_61,hm⟩:=zP hm hlt9
 replace hxr_64:=hxr_64 za
 refine Wp.skip ?_
 simp only [zk]
 refine hK9 _ _ ?_
 refine Wp.seqW fun K10 hK10 hW10=>?_
 refine Wp.block ?_
 refine Wp.seqR fun K11 hK11=>?_
 simp only [go_sem,simprocAttr,hw9,hxr_64]
 refine kA hK11 ?_
 obtain ⟨r_65,hr_65,hm⟩:=zb hm
 refine Wp.seqR fun K12 hK12=>?_
 simp only [go_sem,simprocAttr,hw9,hxr_64]
 try refine ⟨sd,?_⟩
 refine Rg.callX (av:=?av13) (g:=true) (fun hg=>ok_R_RecordText r_64 _ hr_65) (by simp only [go_sem,simprocAttr,hw9,hxr_64]; exact Is.mk) (by simp only [go_sem,simprocAttr,hw9,hxr_64]; exact Is.mk) (by simp only [go_sem,simprocAttr,hw9,hxr_64]; exact Is.mk) (by simp only [go_sem,simprocAttr,hw9,hxr_64]) (by simp only [go_sem,simprocAttr,hw9,hxr_64]; exact Is.mk) ?cont13
 intro hv13
 simp only [go_sem,simprocAttr,hw9,hxr_64]
 refine kA hK12 ?_
 obtain ⟨c_66,hm⟩:=zf hm
 obtain ⟨r_67,hr_67,hm⟩:=zb hm
 refine Wp.seqR fun K14 hK14=>?_
 simp only [go_sem,simprocAttr,hw9,hxr_64]
 try refine ⟨sL,?_⟩
 refine Rg.callX (av:=?av15) (g:=true) (fun hg=>zbR (sum_49++r_65) _ hr_67) (by simp only [go_sem,simprocAttr,hw9,hxr_64]; exact Is.mk) (by simp only [go_sem,simprocAttr,hw9,hxr_64]; exact Is.mk) (by simp only [go_sem,simprocAttr,hw9,hxr_64]; exact Is.mk) (by simp only [go_sem,simprocAttr,hw9,hxr_64]) (by simp only [go_sem,simprocAttr,hw9,hxr_64]; exact Is.mk) ?cont15
 intro hv15
 simp only [go_sem,simprocAttr,hw9,hxr_64]
 refine kA hK14 ?_
 obtain ⟨c_68,hm⟩:=zf hm
 obtain ⟨c_69,hm⟩:=zf hm
 obtain ⟨c_70,hm⟩:=zf hm
 obtain ⟨r_71,hr_71,hm⟩:=zb hm
 refine Wp.region fun K16 hK16=>?_
 simp only [go_sem,simprocAttr,hw9,hxr_64]
 try refine ⟨sL,?_⟩
 refine Rg.callO (av:=?av17) [0,1] (zE (((r_65++([32]:Str))++r_67)++([10]:Str)) o1_51 _ hr_71) (by simp only [go_sem,simprocAttr,hw9,hxr_64]; exact Is.mk) (by simp only [go_sem,simprocAttr,hw9,hxr_64]; exact Is.mk) (by simp only [go_sem,simprocAttr,hw9,hxr_64]; first | exact Is.mk | (simp only [List.map_append,List.map_cons,List.map_nil,ecB,zaU,zac,ecS,za,zt]; exact Is.mk)) (by simp only [go_sem,simprocAttr,hw9,hxr_64]) (by simp only [go_sem,simprocAttr,hw9,hxr_64]) ?cont17
 rintro _ _ ⟨rfl,rfl⟩ hv17
 simp only [go_sem,simprocAttr,hw9,hxr_64]
 refine kA hK16 ?_
 refine hK10 _ _ ?_
 refine Wp.region fun K18 hK18=>?_
 simp only [go_sem,simprocAttr,hw9,hxr_64]
 refine kA hK18 ?_
 simp only [zk,zi,↓reduceIte]
 refine ⟨(r_67,r_71.2),hlt9,hnx_61 _ hm,?_⟩
 simp only [go_sem,simprocAttr,hw9,hxr_64]
 try exact se3
theorem zc7 (o0_2_1:Str) (o1_2:List api_Record) (o2_3:List Str) (o3_1_4:Int) (m4_5:List (Str × log_had)) (z:List api_Record) (hm:zaH o0_2_1 o1_2 o2_3 o3_1_4 m4_5=some z):Does Tryz.prog 15 [.ptr 0 0] [.cells 63 [.buf 1,.buf 2,.p (.s o0_2_1),.ptr 3 0],.buf 30 13 (List.map za o1_2),.buf 9 1 (List.map ecS o2_3),.cells 99 [.mp 4,.p (.i .i64 o3_1_4)],.mp true (zcY Dt.s zq m4_5)] (fun r X=>r=.p (.l (List.map za z))∧X=[.cells 63 [.buf 1,.buf 2,.p (.s o0_2_1),.ptr 3 0],.buf 30 13 (List.map za o1_2),.buf 9 1 (List.map ecS o2_3),.cells 99 [.mp 4,.p (.i .i64 o3_1_4)],.mp true (zcY Dt.s zq m4_5)]):=by
 unfold zaH at hm
 refine dW 5 9 [.tmp 2] Tryz.func15 fun B=>?_
 refine qS ?_
 obtain ⟨c_7,hm⟩:=zf hm
 refine Wp.seqR fun K2 hK2=>?_
 simp only [go_sem,simprocAttr]
 refine kA hK2 ?_
 refine Wp.ret ?_
 refine zc ?_
 cases hm
 exact zm
theorem zaN (s1_1:List api_Record) (s2_2:List api_Record) (z:Bool) (hm:zu s1_1 s2_2=some z):Does Tryz.prog 14 [.p (.l (List.map za s1_1)),.p (.l (List.map za s2_2))] [] (fun r X=>r=.p (.b z)∧X=[]):=by
 unfold zu at hm
 refine dW 0 26 [.tmp 4] Tryz.func14 fun B=>?_
 refine qS ?_
 refine Wp.seqW fun K2 hK2 hW2=>?_
 refine qS ?_
 refine cM hm (fun hc4 hm=>?_) (fun hc4 hm=>?_)
 ·refine qS ?_
  refine Wp.ret ?_
  refine zc ?_
  cases hm
  exact zm
 ·refine Wp.skip ?_
  refine hK2 _ _ ?_
  refine Wp.seqW fun K6 hK6 hW6=>?_
  obtain ⟨k_12,hk_12,hm⟩:=zl hm
  have hcut6:∀ s,k_12 s=some z→K6 [] []:=by
   intro s hs
   have hm:=hk_12 _ hs
   clear hs
   try dsimp only at hm
   try dsimp only
   refine hK6 _ _ ?_
   refine qS ?_
   refine Wp.ret ?_
   refine zc ?_
   cases hm
   exact zm
  clear hK6 hk_12
  refine qS ?_
  refine Wp.block ?_
  obtain ⟨k_16,hk_16,hm⟩:=zQ hm
  refine Wp.fact 0 fun hl_19=>?_
  replace hl_19:s1_1.length≤274877906944:=by
   simp only [go_sem,simprocAttr,List.length_map] at hl_19
   omega
  refine Wp.forL (fun i_18 s=>[(0,.p (.l (List.map za s1_1))),(1,.p (.l (List.map za s2_2))),(12,.p (.i .i64 (s1_1.length:Int))),(13,.p (.i .i64 (i_18:Int)))]) (fun i_18 s=>[]) ?_ hm ?_
  ·
   exact zm
  clear hm
  intro i_18 s hii_18 hm
  try dsimp only at hm
  try dsimp only
  refine qS ?_
  refine Wp.seqW fun K10 hK10 hW10=>?_
  refine Wp.cond rfl ⟨⟩ (fun hc10=>?_) (fun hc10=>?_)
  rotate_left
  ·refine Wp.exit ?_
   have hm:=hk_16 _ (zae hm (zbd (by first | exact hc10 | simpa using hc10)))
   try dsimp only at hm
   refine hW6 _ _ _ _ ?_ (hcut6 () hm)
   exact zm
  have hlt10:=zbc (by first | exact hc10 | simpa using hc10)
  have hw10:=zO hlt10 hl_19
  obtain ⟨r_20,nx_17,hxr_20,hyr_20,hnx_17,hm⟩:=zP hm hlt10
  replace hxr_20:=hxr_20 za
  refine Wp.skip ?_
  simp only [zk]
  refine hK10 _ _ ?_
  refine Wp.seqW fun K11 hK11 hW11=>?_
  refine Wp.block ?_
  refine Wp.seqR fun K12 hK12=>?_
  simp only [go_sem,simprocAttr,hw10,hxr_20]
  refine kA hK12 ?_
  obtain ⟨r_21,hbr_21,hxr_21,hyr_21,hm⟩:=zU hm
  replace hxr_21:∀ d,(List.map za s2_2).getD i_18 d=za r_21:=hxr_21 za
  refine Wp.seqD (plan:=pl [(0,none),(1,none),(2,none),(3,none),(4,none),(5,none),(6,none),(7,none),(8,none)]) (by kernel_rfl) rfl (by kernel_rfl) fun K13 hK13=>?_
  simp only [go_sem,simprocAttr,hw10,hxr_20,hxr_21]
  refine kA hK13 ?_
  refine cM hm (fun hc14 hm=>?_) (fun hc14 hm=>?_)
  ·refine Wp.seqR fun K15 hK15=>?_
   simp only [go_sem,simprocAttr,hw10,hxr_20,hxr_21]
   refine kA hK15 ?_
   refine Wp.ret ?_
   refine zc ?_
   cases hm
   simp only [go_sem,simprocAttr,hw10,hxr_20,hxr_21]
   try exact se3
  ·refine Wp.skip ?_
   refine hK11 _ _ ?_
   refine Wp.region fun K16 hK16=>?_
   simp only [go_sem,simprocAttr,hw10,hxr_20,hxr_21]
   refine kA hK16 ?_
   simp only [zk,zi,↓reduceIte]
   refine ⟨(),hlt10,hnx_17 _ hm,?_⟩
   simp only [go_sem,simprocAttr,hw10,hxr_20,hxr_21]
   try exact se3
theorem zdP (s_1:Str) (sep_2:Str) (z:Str × Str × Bool) (hm:zaI s_1 sep_2=some z):Does Tryz.prog 85 [.p (.s s_1),.p (.s sep_2)] [] (fun r X=>r=.tup [.p (.s z.1),.p (.s z.2.1),.p (.b z.2.2)]∧X=[]):=by
 unfold zaI at hm
 refine dW 0 23 [.tmp 4,.tmp 5,.tmp 6] Tryz.func85 fun B=>?_
 refine qS ?_
 refine Wp.seqW fun K2 hK2 hW2=>?_
 obtain ⟨r_3,hr_3,hm⟩:=zb hm
 refine Wp.seqR fun K3 hK3=>?_
 simp only [go_sem,simprocAttr]
 try refine ⟨sd,?_⟩
 refine Rg.callX (av:=?av4) (g:=true) (fun hg=>zbw s_1 sep_2 _ hr_3) si si si sg si ?cont4
 intro hv4
 simp only [go_sem,simprocAttr]
 refine kA hK3 ?_
 refine qS ?_
 refine cM hm (fun hc6 hm=>?_) (fun hc6 hm=>?_)
 ·obtain ⟨c_4,hm⟩:=zf hm
  obtain ⟨c_5,hm⟩:=zf hm
  refine Wp.seqD (plan:=pl [(0,none),(1,none),(2,none),(3,none),(4,none),(5,none),(6,none),(7,none),(8,none),(9,none),(10,none),(11,none)]) (by kernel_rfl) rfl (by kernel_rfl) fun K7 hK7=>?_
  simp only [go_sem,simprocAttr]
  refine kA hK7 ?_
  refine Wp.ret ?_
  refine zc ?_
  cases hm
  exact zm
 ·refine Wp.skip ?_
  refine hK2 _ _ ?_
  refine qS ?_
  refine Wp.ret ?_
  refine zc ?_
  cases hm
  exact zm
theorem zei (s_1:Str) (sep_2:Str) (z:Str × Str × Bool) (hm:zci s_1 sep_2=some z):Does Tryz.prog 45 [.p (.s s_1),.p (.s sep_2)] [] (fun r X=>r=.tup [.p (.s z.1),.p (.s z.2.1),.p (.b z.2.2)]∧X=[]):=by
 unfold zci at hm
 refine dW 0 13 [.tmp 4,.tmp 5,.tmp 6] Tryz.func45 fun B=>?_
 refine qS ?_
 obtain ⟨r_3,hr_3,hm⟩:=zb hm
 refine Wp.seqR fun K2 hK2=>?_
 simp only [go_sem,simprocAttr]
 try refine ⟨sd,?_⟩
 refine Rg.callX (av:=?av3) (g:=true) (fun hg=>zdP s_1 sep_2 _ hr_3) si si si sg si ?cont3
 intro hv3
 simp only [go_sem,simprocAttr]
 refine kA hK2 ?_
 refine Wp.ret ?_
 refine zc ?_
 cases hm
 exact zm
theorem zaE (s_1:Str) (c_2:Int) (z:Int) (hm:zz s_1 c_2=some z):Does Tryz.prog 86 [.p (.s s_1),.p (.i .u8 c_2)] [] (fun r X=>r=.p (.i .i64 z)∧X=[]):=by
 unfold zz at hm
 refine dW 0 19 [.tmp 4] Tryz.func86 fun B=>?_
 refine qS ?_
 refine Wp.seqW fun K2 hK2 hW2=>?_
 obtain ⟨k_8,hk_8,hm⟩:=zl hm
 have hcut2:∀ s,k_8 s=some z→K2 [] []:=by
  intro s hs
  have hm:=hk_8 _ hs
  clear hs
  try dsimp only at hm
  try dsimp only
  refine hK2 _ _ ?_
  refine qS ?_
  refine Wp.ret ?_
  refine zc ?_
  cases hm
  exact zm
 clear hK2 hk_8
 refine qS ?_
 refine Wp.block ?_
 obtain ⟨k_11,hk_11,hm⟩:=zF hm
 refine Wp.loopN (fun s=>[(0,.p (.s s_1)),(1,.p (.i .u8 c_2)),(5,.p (.i .i64 s))]) (fun s=>[]) ?_ hm ?_
 ·
  exact zm
 clear hm
 intro i_9 nx_12 hm
 try dsimp only at hm
 try dsimp only
 refine Wp.seqW fun K5 hK5 hW5=>?_
 refine qS ?_
 refine cM hm (fun hc7 hm=>?_) (fun hc7 hm=>?_)
 ·refine Wp.skip ?_
  refine hK5 _ _ ?_
  refine Wp.seqW fun K8 hK8 hW8=>?_
  refine Wp.block ?_
  obtain ⟨c_13,hbc_13,hxc_13,hm⟩:=zab hm
  replace hxc_13:((s_1.getD i_9.toNat 0).toNat:Int)=c_13:=hxc_13
  refine Wp.seqR fun K9 hK9=>?_
  simp only [go_sem,simprocAttr,hxc_13]
  refine kA hK9 ?_
  refine cM hm (fun hc10 hm=>?_) (fun hc10 hm=>?_)
  ·refine Wp.seqR fun K11 hK11=>?_
   simp only [go_sem,simprocAttr,hxc_13]
   refine kA hK11 ?_
   refine Wp.ret ?_
   refine zc ?_
   cases hm
   simp only [go_sem,simprocAttr,hxc_13]
   try exact se3
  ·refine Wp.skip ?_
   refine hK8 _ _ ?_
   refine Wp.region fun K12 hK12=>?_
   simp only [go_sem,simprocAttr,hxc_13]
   refine kA hK12 ?_
   simp only [zk,zi,↓reduceIte]
   refine ⟨IntKind.i64.wrap (i_9 - 1),hm,?_⟩
   simp only [go_sem,simprocAttr,hxc_13]
   try exact se3
 ·refine Wp.exit ?_
  simp only [zk,zi,↓reduceIte]
  have hm:=hk_11 _ hm
  try dsimp only at hm
  refine hW2 _ _ _ _ ?_ (hcut2 () hm)
  exact zm
theorem zer (s_1:Str) (c_2:Int) (z:Int) (hm:zC s_1 c_2=some z):Does Tryz.prog 46 [.p (.s s_1),.p (.i .u8 c_2)] [] (fun r X=>r=.p (.i .i64 z)∧X=[]):=by
 unfold zC at hm
 refine dW 0 8 [.tmp 4] Tryz.func46 fun B=>?_
 refine qS ?_
 obtain ⟨r_3,hr_3,hm⟩:=zb hm
 refine Wp.seqR fun K2 hK2=>?_
 simp only [go_sem,simprocAttr]
 try refine ⟨sd,?_⟩
 refine Rg.callX (av:=?av3) (g:=true) (fun hg=>zaE s_1 c_2 _ hr_3) si si si sg si ?cont3
 intro hv3
 simp only [go_sem,simprocAttr]
 refine kA hK2 ?_
 refine Wp.ret ?_
 refine zc ?_
 cases hm
 exact zm
theorem zeq (s_1:Str) (sep_2:Str) (n_3:Int) (z:List Str) (hm:zbA s_1 sep_2 n_3=some z):Does Tryz.prog 87 [.p (.s s_1),.p (.s sep_2),.p (.i .i64 n_3)] [] (fun r X=>r=.p (.l (List.map ecS z))∧X=[]):=by
 unfold zbA at hm
 refine dW 0 11 [.tmp 6] Tryz.func87 fun B=>?_
 refine qS ?_
 obtain ⟨r_4,hr_4,hm⟩:=zb hm
 refine Wp.seqR fun K2 hK2=>?_
 simp only [go_sem,simprocAttr]
 try refine ⟨sd,?_⟩
 refine Rg.callF (av:=?av3) (zdO s_1 sep_2 0 n_3 _ hr_4) si si sg ?cont3
 intro hv3
 simp only [go_sem,simprocAttr]
 refine kA hK2 ?_
 refine Wp.ret ?_
 refine zc ?_
 cases hm
 exact zm
theorem ok_log_number (s_1:Str) (z:Int × Bool) (hm:zcq s_1=some z):Does Tryz.prog 88 [.p (.s s_1)] [] (fun r X=>r=.tup [.p (.i .i64 z.1),.p (.b z.2)]∧X=[]):=by
 unfold zcq at hm
 refine dW 0 47 [.tmp 2,.tmp 3] Tryz.func88 fun B=>?_
 refine qS ?_
 refine Wp.seqW fun K2 hK2 hW2=>?_
 obtain ⟨c_2,hm⟩:=zf hm
 refine Wp.seqR fun K3 hK3=>?_
 simp only [go_sem,simprocAttr]
 refine kA hK3 ?_
 refine cM hm (fun hc4 hm=>?_) (fun hc4 hm=>?_)
 ·refine qS ?_
  refine Wp.ret ?_
  refine zc ?_
  cases hm
  exact zm
 ·refine Wp.skip ?_
  refine hK2 _ _ ?_
  refine Wp.seqW fun K6 hK6 hW6=>?_
  obtain ⟨k_10,hk_10,hm⟩:=zl hm
  have hcut6:∀ s,k_10 s=some z→K6 [(0,.p (.s s_1))] []:=by
   intro s hs
   have hm:=hk_10 _ hs
   clear hs
   try dsimp only at hm
   try dsimp only
   refine hK6 _ _ ?_
   obtain ⟨r_11,hr_11,hm⟩:=zb hm
   refine Wp.seqR fun K7 hK7=>?_
   simp only [go_sem,simprocAttr]
   try refine ⟨sd,?_⟩
   refine Rg.callF (av:=?av8) (zbj s_1 _ hr_11) si si sg ?cont8
   intro hv8
   simp only [go_sem,simprocAttr]
   refine kA hK7 ?_
   refine Wp.seqD (plan:=pl [(0,none),(1,none),(2,none),(3,none),(4,none)]) (by kernel_rfl) rfl (by kernel_rfl) fun K9 hK9=>?_
   simp only [go_sem,simprocAttr]
   refine kA hK9 ?_
   refine Wp.ret ?_
   refine zc ?_
   cases hm
   exact zm
  clear hK6 hk_10
  refine qS ?_
  refine Wp.block ?_
  obtain ⟨k_14,hk_14,hm⟩:=zQ hm
  refine Wp.fact 0 fun hl_17=>?_
  replace hl_17:s_1.length≤274877906944:=by
   simp only [go_sem,simprocAttr,List.length_map] at hl_17
   omega
  refine Wp.forL (fun i_16 s=>[(0,.p (.s s_1)),(4,.p (.i .i64 (i_16:Int)))]) (fun i_16 s=>[]) ?_ hm ?_
  ·
   exact zm
  clear hm
  intro i_16 s hii_16 hm
  try dsimp only at hm
  try dsimp only
  refine Wp.seqW fun K11 hK11 hW11=>?_
  refine qS ?_
  refine Wp.cond rfl ⟨⟩ (fun hc11=>?_) (fun hc11=>?_)
  rotate_left
  ·refine Wp.exit ?_
   have hm:=hk_14 _ (zae hm (zbd (by first | exact hc11 | simpa using hc11)))
   try dsimp only at hm
   refine hW6 _ _ _ _ ?_ (hcut6 () hm)
   exact zm
  have hlt11:=zbc (by first | exact hc11 | simpa using hc11)
  have hw11:=zO hlt11 hl_17
  obtain ⟨c_18,nx_15,hxc_18,hyc_18,hnx_15,hm⟩:=zP hm hlt11
  clear hxc_18
  refine Wp.skip ?_
  simp only [zk]
  refine hK11 _ _ ?_
  refine Wp.seqW fun K13 hK13 hW13=>?_
  refine Wp.block ?_
  refine Wp.seqR fun K14 hK14=>?_
  simp only [go_sem,simprocAttr,hw11,hyc_18]
  refine kA hK14 ?_
  refine cM hm (fun hc15 hm=>?_) (fun hc15 hm=>?_)
  ·refine Wp.seqR fun K16 hK16=>?_
   simp only [go_sem,simprocAttr,hw11,hyc_18]
   refine kA hK16 ?_
   refine Wp.ret ?_
   refine zc ?_
   cases hm
   simp only [go_sem,simprocAttr,hw11,hyc_18]
   try exact se3
  ·refine Wp.skip ?_
   refine hK13 _ _ ?_
   refine Wp.region fun K17 hK17=>?_
   simp only [go_sem,simprocAttr,hw11,hyc_18]
   refine kA hK17 ?_
   simp only [zk,zi,↓reduceIte]
   refine ⟨(),hlt11,hnx_15 _ hm,?_⟩
   simp only [go_sem,simprocAttr,hw11,hyc_18]
   try exact se3
theorem zeL (s_1:Str) (z:Int × Bool) (hm:zbz s_1=some z):Does Tryz.prog 163 [.p (.s s_1)] [] (fun r X=>r=.tup [.p (.i .i64 z.1),.p (.b z.2)]∧X=[]):=by
 unfold zbz at hm
 refine dW 0 26 [.tmp 2,.tmp 3] Tryz.func163 fun B=>?_
 refine qS ?_
 refine Wp.seqW fun K2 hK2 hW2=>?_
 obtain ⟨r_2,hr_2,hm⟩:=zb hm
 obtain ⟨c_3,hm⟩:=zf hm
 refine Wp.seqR fun K3 hK3=>?_
 simp only [go_sem,simprocAttr]
 try refine ⟨sL,?_⟩
 refine Rg.callX (av:=?av4) (g:=true) (fun hg=>ok_ver_each_i3 s_1 9 _ hr_2) si si si sg si ?cont4
 intro hv4
 simp only [go_sem,simprocAttr]
 refine kA hK3 ?_
 refine cM hm (fun hc5 hm=>?_) (fun hc5 hm=>?_)
 ·refine qS ?_
  refine Wp.ret ?_
  refine zc ?_
  cases hm
  exact zm
 ·refine Wp.skip ?_
  refine hK2 _ _ ?_
  obtain ⟨r_4,hr_4,hm⟩:=zb hm
  refine Wp.seqR fun K7 hK7=>?_
  simp only [go_sem,simprocAttr]
  try refine ⟨sd,?_⟩
  refine Rg.callF (av:=?av8) (zbj s_1 _ hr_4) si si sg ?cont8
  intro hv8
  simp only [go_sem,simprocAttr]
  refine kA hK7 ?_
  refine Wp.seqD (plan:=pl [(0,none),(1,none),(2,none),(3,none),(4,none)]) (by kernel_rfl) rfl (by kernel_rfl) fun K9 hK9=>?_
  simp only [go_sem,simprocAttr]
  refine kA hK9 ?_
  refine Wp.ret ?_
  refine zc ?_
  cases hm
  exact zm
end Go.Proofs.YtmnohdgjkcjdeaaGreatDoor
