/- That the code does what the models say (part 6). -/
import Derived.Test.YtmnohdgjkcjdeaaGreatDoorLpWk0
import Derived.Test.YtmnohdgjkcjdeaaGreatDoorLpWk1
import Derived.Test.YtmnohdgjkcjdeaaGreatDoorLpWk2
import Derived.Test.YtmnohdgjkcjdeaaGreatDoorLpWk3
import Derived.Test.YtmnohdgjkcjdeaaGreatDoorLpWk4
import Derived.Test.YtmnohdgjkcjdeaaGreatDoorLpWk5
set_option linter.unusedSimpArgs false
set_option linter.unusedVariables false
open Go.Proofs Go.Shelf
namespace Go.Proofs.YtmnohdgjkcjdeaaGreatDoor
open Go.Vc Go.Md
set_option maxRecDepth 100000
set_option maxHeartbeats 4000000
theorem zhm (s_2:Str) (count_5:Int) (z:Str) (hm:zb3 s_2 count_5=some z):Does Tryz.prog 82 [.p (.s s_2),.p (.i .i64 count_5)] [] (fun r X=>r=.p (.s z)∧X=[]):=by
 unfold zb3 at hm
 refine dW 0 125 [.tmp 4] Tryz.func82 fun B=>?_
 refine qS ?_
 refine Wp.seqW fun K2 hK2 hW2=>?_
 refine qS ?_
 refine Wp.block ?_
 refine qS ?_
 refine cM hm (fun hc5 hm=>?_) (fun hc5 hm=>?_)
 ·refine qS ?_
  refine Wp.ret ?_
  refine zc ?_
  cases hm
  exact zn
 ·refine qS ?_
  refine cM hm (fun hc8 hm=>?_) (fun hc8 hm=>?_)
  ·refine qS ?_
   refine Wp.ret ?_
   refine zc ?_
   cases hm
   exact zn
  ·refine Wp.skip ?_
   refine hK2 _ _ ?_
   refine Wp.seqW fun K10 hK10 hW10=>?_
   obtain ⟨k_6,hk_6,hm⟩:=zk hm
   have hcut10:∀ s,k_6 s=some z→K10 [(0,.p (.s s_2)),(1,.p (.i .i64 count_5))] []:=by
    intro s hs
    have hm:=hk_6 _ hs
    clear hs
    try dsimp only at hm
    try dsimp only
    refine hK10 _ _ ?_
    obtain ⟨r_3,hr_3,hm⟩:=zb hm
    refine Wp.seqR fun K11 hK11=>?_
    simp only [go_sem,simprocAttr]
    try refine ⟨sd,?_⟩
    refine Rg.callX (av:=?av12) (g:=true) (fun hg=>zh1 (IntKind.u64.wrap (s_2.length:Int)) (IntKind.u64.wrap count_5) _ hr_3) si si si sg si ?cont12
    intro hv12
    simp only [go_sem,simprocAttr]
    refine kA hK11 ?_
    refine Wp.seqW fun K13 hK13 hW13=>?_
    obtain ⟨k_7,hk_7,hm⟩:=zk hm
    have hcut13:∀ s,k_7 s=some z→K13 [(0,.p (.s s_2)),(6,.p (.i .u64 r_3.2))] []:=by
     intro s hs
     have hm:=hk_7 _ hs
     clear hs
     try dsimp only at hm
     try dsimp only
     refine hK13 _ _ ?_
     refine qS ?_
     refine Wp.seqW fun K15 hK15 hW15=>?_
     refine qS ?_
     refine cM hm (fun hc17 hm=>?_) (fun hc17 hm=>?_)
     ·refine qS ?_
      refine Wp.ret ?_
      refine zc ?_
      cases hm
      exact zn
     ·refine Wp.skip ?_
      refine hK15 _ _ ?_
      refine Wp.seqW fun K19 hK19 hW19=>?_
      obtain ⟨k_8,hk_8,hm⟩:=zk hm
      have hcut19:∀ s,k_8 s=some z→K19 [(0,.p (.s s_2)),(7,.p (.i .i64 (IntKind.i64.wrap r_3.2)))] []:=by
       intro s hs
       have hm:=hk_8 _ hs
       clear hs
       try dsimp only at hm
       try dsimp only
       refine hK19 _ _ ?_
       refine qS ?_
       refine Wp.seqW fun K21 hK21 hW21=>?_
       obtain ⟨k_9,hk_9,hm⟩:=zk hm
       have hcut21:∀ s,k_9 s=some z→K21 [(0,.p (.s s_2)),(7,.p (.i .i64 (IntKind.i64.wrap r_3.2))),(8,.p (.i .i64 s))] []:=by
        intro chunkMax_16 hs
        have hm:=hk_9 _ hs
        clear hs
        try dsimp only at hm
        try dsimp only
        refine hK21 _ _ ?_
        refine qS ?_
        refine Wp.adoptB 0 5 rfl ?_
        simp only [go_sem,simprocAttr]
        obtain ⟨r_17,hr_17,hm⟩:=zb hm
        refine Wp.seqR fun K23 hK23=>?_
        simp only [go_sem,simprocAttr]
        try refine ⟨sd,?_⟩
        refine Rg.callO (av:=?av24) [0,1] (zcB (IntKind.i64.wrap r_3.2) [] _ hr_17) si si si sg sg ?cont24
        rintro _ _ ⟨rfl,rfl⟩ hv24
        simp only [go_sem,simprocAttr]
        refine kA hK23 ?_
        obtain ⟨r_18,hr_18,hm⟩:=zb hm
        refine Wp.seqR fun K25 hK25=>?_
        simp only [go_sem,simprocAttr]
        try refine ⟨sd,?_⟩
        refine Rg.callO (av:=?av26) [0,1] (zE s_2 [] _ hr_18) si si si sg sg ?cont26
        rintro _ _ ⟨rfl,rfl⟩ hv26
        simp only [go_sem,simprocAttr]
        refine kA hK25 ?_
        refine Wp.seqW fun K27 hK27 hW27=>?_
        obtain ⟨k_10,hk_10,hm⟩:=zk hm
        have hcut27:∀ s,k_10 s=some z→K27 [(9,.ptr 0 0)] [.cells 75 [.np 0,.buf 1],.sb 5 s]:=by
         intro o1_27 hs
         have hm:=hk_10 _ hs
         clear hs
         try dsimp only at hm
         try dsimp only
         refine hK27 _ _ ?_
         obtain ⟨r_19,hr_19,hm⟩:=zb hm
         refine Wp.seqR fun K28 hK28=>?_
         simp only [go_sem,simprocAttr]
         try refine ⟨sd,?_⟩
         refine Rg.callO (av:=?av29) [0,1] (zam o1_27 _ hr_19) si si si sg sg ?cont29
         rintro _ _ ⟨rfl,rfl⟩ hv29
         simp only [go_sem,simprocAttr]
         refine kA hK28 ?_
         refine Wp.ret ?_
         refine zc ?_
         cases hm
         exact zn
        clear hK27 hk_10
        refine Wp.block ?_
        obtain ⟨k_20,hk_20,hm⟩:=zB hm
        refine Wp.loopN (fun s=>[(7,.p (.i .i64 (IntKind.i64.wrap r_3.2))),(8,.p (.i .i64 chunkMax_16)),(9,.ptr 0 0)]) (fun s=>[.cells 75 [.np 0,.buf 1],.sb 5 s]) ?_ hm ?_
        ·
         exact zn
        clear hm
        intro o1_4 nx_28 hm
        try dsimp only at hm
        try dsimp only
        refine Wp.seqW fun K30 hK30 hW30=>?_
        obtain ⟨r_21,hr_21,hm⟩:=zb hm
        refine Wp.seqR fun K31 hK31=>?_
        simp only [go_sem,simprocAttr]
        try refine ⟨sd,?_⟩
        refine Rg.callO (av:=?av32) [0,1] (za8 o1_4 _ hr_21) si si si sg sg ?cont32
        rintro _ _ ⟨rfl,rfl⟩ hv32
        simp only [go_sem,simprocAttr]
        refine kA hK31 ?_
        refine cM hm (fun hc33 hm=>?_) (fun hc33 hm=>?_)
        ·refine Wp.skip ?_
         refine hK30 _ _ ?_
         refine Wp.block ?_
         obtain ⟨r_12,hr_12,hm⟩:=zb hm
         obtain ⟨r_13,hr_13,hm⟩:=zb hm
         refine Wp.seqR fun K34 hK34=>?_
         simp only [go_sem,simprocAttr]
         try refine ⟨sd,?_⟩
         refine Rg.callO (av:=?av35) [0,1] (za8 o1_4 _ hr_12) si si si sg sg ?cont35
         rintro _ _ ⟨rfl,rfl⟩ hv35
         simp only [go_sem,simprocAttr]
         try refine ⟨sd,?_⟩
         refine Rg.callO (av:=?av36) [0,1] (za8 o1_4 _ hr_13) si si si sg sg ?cont36
         rintro _ _ ⟨rfl,rfl⟩ hv36
         simp only [go_sem,simprocAttr]
         refine kA hK34 ?_
         obtain ⟨r_14,hr_14,hm⟩:=zb hm
         obtain ⟨c_29,hm⟩:=zf hm
         obtain ⟨r_15,hr_15,hm⟩:=zb hm
         refine Wp.region fun K37 hK37=>?_
         simp only [go_sem,simprocAttr]
         try refine ⟨sL,?_⟩
         refine Rg.callO (av:=?av38) [0,1] (zam o1_4 _ hr_14) si si si sg sg ?cont38
         rintro _ _ ⟨rfl,rfl⟩ hv38
         simp only [go_sem,simprocAttr]
         try refine ⟨sL,?_⟩
         refine Rg.callO (av:=?av39) [0,1] (zE (List.take ((min (min (IntKind.i64.wrap ((IntKind.i64.wrap r_3.2) - r_12)) r_13) chunkMax_16).toNat) r_14) o1_4 _ hr_15) si si si sg sg ?cont39
         rintro _ _ ⟨rfl,rfl⟩ hv39
         simp only [go_sem,simprocAttr]
         refine kA hK37 ?_
         simp only [zl,zi,↓reduceIte]
         refine ⟨r_15.2,hm,?_⟩
         exact zn
        ·refine Wp.exit ?_
         simp only [zl,zi,↓reduceIte]
         have hm:=hk_20 _ hm
         try dsimp only at hm
         refine hW27 _ _ _ _ ?_ (hcut27 o1_4 hm)
         exact zn
       clear hK21 hk_9
       refine qS ?_
       refine cM hm (fun hc41 hm=>?_) (fun hc41 hm=>?_)
       ·obtain ⟨c_30,hm⟩:=zf hm
        refine Wp.seqR fun K42 hK42=>?_
        simp only [go_sem,simprocAttr]
        refine kA hK42 ?_
        refine qS ?_
        refine cM hm (fun hc44 hm=>?_) (fun hc44 hm=>?_)
        ·refine qR ?_
         refine hW21 _ _ _ _ ?_ (hcut21 (s_2.length:Int) hm)
         exact zn
        ·refine Wp.skip ?_
         refine hW21 _ _ _ _ ?_ (hcut21 (IntKind.i64.wrap ((IntKind.i64.wrap (Int.tdiv 8192 (s_2.length:Int))) * (s_2.length:Int))) hm)
         exact zn
       ·refine Wp.skip ?_
        refine hW21 _ _ _ _ ?_ (hcut21 (IntKind.i64.wrap r_3.2) hm)
        exact zn
      clear hK19 hk_8
      obtain ⟨c_1,hbc_1,hxc_1,hm⟩:=zai hm
      replace hxc_1:((s_2.getD 0 0).toNat:Int)=c_1:=hxc_1
      refine Wp.seqR fun K46 hK46=>?_
      simp only [go_sem,simprocAttr,hxc_1]
      refine kA hK46 ?_
      refine Wp.block ?_
      refine Wp.seqW fun K47 hK47 hW47=>?_
      obtain ⟨k_11,hk_11,hm⟩:=zk hm
      have hcut47:∀ s,k_11 s=some z→K47 [(0,.p (.s s_2)),(7,.p (.i .i64 (IntKind.i64.wrap r_3.2))),(43,.p (.b s))] []:=by
       intro t43_31 hs
       have hm:=hk_11 _ hs
       clear hs
       try dsimp only at hm
       try dsimp only
       refine hK47 _ _ ?_
       refine cM hm (fun hc48 hm=>?_) (fun hc48 hm=>?_)
       ·refine Wp.block ?_
        obtain ⟨r_22,hr_22,hm⟩:=z7 hm
        refine Wp.seqR fun K49 hK49=>?_
        simp only [go_sem,simprocAttr,hxc_1]
        try refine ⟨sd,?_⟩
        refine Rg.callX (av:=?av50) (g:=decide ((IntKind.i64.wrap r_3.2)≤128)) (fun hg=>zaO ((List.append [32,32,32,32,32,32,32,32,32,32,32,32,32,32,32,32,32,32,32,32,32,32,32,32,32,32,32,32,32,32,32,32,32,32,32,32,32,32,32,32,32,32,32,32,32,32,32,32,32,32,32,32,32,32,32,32,32,32,32,32,32,32,32,32] [32,32,32,32,32,32,32,32,32,32,32,32,32,32,32,32,32,32,32,32,32,32,32,32,32,32,32,32,32,32,32,32,32,32,32,32,32,32,32,32,32,32,32,32,32,32,32,32,32,32,32,32,32,32,32,32,32,32,32,32,32,32,32,32]):Str) s_2 _ (hr_22 hg)) (by simp only [go_sem,simprocAttr,hxc_1]; exact Is.mk) (by simp only [go_sem,simprocAttr,hxc_1]; exact Is.mk) (by simp only [go_sem,simprocAttr,hxc_1]; exact Is.mk) (by simp only [go_sem,simprocAttr,hxc_1]) (by simp only [go_sem,simprocAttr,hxc_1]; exact Is.mk) ?cont50
        intro hv50
        simp only [go_sem,simprocAttr,hxc_1]
        refine kA hK49 ?_
        refine cM hm (fun hc51 hm=>?_) (fun hc51 hm=>?_)
        ·obtain ⟨c_32,hm⟩:=zf hm
         refine Wp.seqR fun K52 hK52=>?_
         simp only [go_sem,simprocAttr,hxc_1]
         refine kA hK52 ?_
         refine Wp.ret ?_
         refine zc ?_
         cases hm
         simp only [go_sem,simprocAttr,hxc_1]
         try exact se3
        ·obtain ⟨r_23,hr_23,hm⟩:=z7 hm
         refine Wp.seqR fun K53 hK53=>?_
         simp only [go_sem,simprocAttr,hxc_1]
         try refine ⟨sd,?_⟩
         refine Rg.callX (av:=?av54) (g:=decide ((IntKind.i64.wrap r_3.2)≤128)) (fun hg=>zaO ((List.append [45,45,45,45,45,45,45,45,45,45,45,45,45,45,45,45,45,45,45,45,45,45,45,45,45,45,45,45,45,45,45,45,45,45,45,45,45,45,45,45,45,45,45,45,45,45,45,45,45,45,45,45,45,45,45,45,45,45,45,45,45,45,45,45] [45,45,45,45,45,45,45,45,45,45,45,45,45,45,45,45,45,45,45,45,45,45,45,45,45,45,45,45,45,45,45,45,45,45,45,45,45,45,45,45,45,45,45,45,45,45,45,45,45,45,45,45,45,45,45,45,45,45,45,45,45,45,45,45]):Str) s_2 _ (hr_23 hg)) (by simp only [go_sem,simprocAttr,hxc_1]; exact Is.mk) (by simp only [go_sem,simprocAttr,hxc_1]; exact Is.mk) (by simp only [go_sem,simprocAttr,hxc_1]; exact Is.mk) (by simp only [go_sem,simprocAttr,hxc_1]) (by simp only [go_sem,simprocAttr,hxc_1]; exact Is.mk) ?cont54
         intro hv54
         simp only [go_sem,simprocAttr,hxc_1]
         refine kA hK53 ?_
         refine cM hm (fun hc55 hm=>?_) (fun hc55 hm=>?_)
         ·obtain ⟨c_33,hm⟩:=zf hm
          refine Wp.seqR fun K56 hK56=>?_
          simp only [go_sem,simprocAttr,hxc_1]
          refine kA hK56 ?_
          refine Wp.ret ?_
          refine zc ?_
          cases hm
          simp only [go_sem,simprocAttr,hxc_1]
          try exact se3
         ·obtain ⟨r_24,hr_24,hm⟩:=z7 hm
          refine Wp.seqR fun K57 hK57=>?_
          simp only [go_sem,simprocAttr,hxc_1]
          try refine ⟨sd,?_⟩
          refine Rg.callX (av:=?av58) (g:=decide ((IntKind.i64.wrap r_3.2)≤64)) (fun hg=>zaO ([48,48,48,48,48,48,48,48,48,48,48,48,48,48,48,48,48,48,48,48,48,48,48,48,48,48,48,48,48,48,48,48,48,48,48,48,48,48,48,48,48,48,48,48,48,48,48,48,48,48,48,48,48,48,48,48,48,48,48,48,48,48,48,48]:Str) s_2 _ (hr_24 hg)) (by simp only [go_sem,simprocAttr,hxc_1]; exact Is.mk) (by simp only [go_sem,simprocAttr,hxc_1]; exact Is.mk) (by simp only [go_sem,simprocAttr,hxc_1]; exact Is.mk) (by simp only [go_sem,simprocAttr,hxc_1]) (by simp only [go_sem,simprocAttr,hxc_1]; exact Is.mk) ?cont58
          intro hv58
          simp only [go_sem,simprocAttr,hxc_1]
          refine kA hK57 ?_
          refine cM hm (fun hc59 hm=>?_) (fun hc59 hm=>?_)
          ·obtain ⟨c_34,hm⟩:=zf hm
           refine Wp.seqR fun K60 hK60=>?_
           simp only [go_sem,simprocAttr,hxc_1]
           refine kA hK60 ?_
           refine Wp.ret ?_
           refine zc ?_
           cases hm
           simp only [go_sem,simprocAttr,hxc_1]
           try exact se3
          ·obtain ⟨r_25,hr_25,hm⟩:=z7 hm
           refine Wp.seqR fun K61 hK61=>?_
           simp only [go_sem,simprocAttr,hxc_1]
           try refine ⟨sd,?_⟩
           refine Rg.callX (av:=?av62) (g:=decide ((IntKind.i64.wrap r_3.2)≤128)) (fun hg=>zaO ((List.append [61,61,61,61,61,61,61,61,61,61,61,61,61,61,61,61,61,61,61,61,61,61,61,61,61,61,61,61,61,61,61,61,61,61,61,61,61,61,61,61,61,61,61,61,61,61,61,61,61,61,61,61,61,61,61,61,61,61,61,61,61,61,61,61] [61,61,61,61,61,61,61,61,61,61,61,61,61,61,61,61,61,61,61,61,61,61,61,61,61,61,61,61,61,61,61,61,61,61,61,61,61,61,61,61,61,61,61,61,61,61,61,61,61,61,61,61,61,61,61,61,61,61,61,61,61,61,61,61]):Str) s_2 _ (hr_25 hg)) (by simp only [go_sem,simprocAttr,hxc_1]; exact Is.mk) (by simp only [go_sem,simprocAttr,hxc_1]; exact Is.mk) (by simp only [go_sem,simprocAttr,hxc_1]; exact Is.mk) (by simp only [go_sem,simprocAttr,hxc_1]) (by simp only [go_sem,simprocAttr,hxc_1]; exact Is.mk) ?cont62
           intro hv62
           simp only [go_sem,simprocAttr,hxc_1]
           refine kA hK61 ?_
           refine cM hm (fun hc63 hm=>?_) (fun hc63 hm=>?_)
           ·obtain ⟨c_35,hm⟩:=zf hm
            refine Wp.seqR fun K64 hK64=>?_
            simp only [go_sem,simprocAttr,hxc_1]
            refine kA hK64 ?_
            refine Wp.ret ?_
            refine zc ?_
            cases hm
            simp only [go_sem,simprocAttr,hxc_1]
            try exact se3
           ·obtain ⟨r_26,hr_26,hm⟩:=z7 hm
            refine Wp.seqR fun K65 hK65=>?_
            simp only [go_sem,simprocAttr,hxc_1]
            try refine ⟨sd,?_⟩
            refine Rg.callX (av:=?av66) (g:=decide ((IntKind.i64.wrap r_3.2)≤64)) (fun hg=>zaO ([9,9,9,9,9,9,9,9,9,9,9,9,9,9,9,9,9,9,9,9,9,9,9,9,9,9,9,9,9,9,9,9,9,9,9,9,9,9,9,9,9,9,9,9,9,9,9,9,9,9,9,9,9,9,9,9,9,9,9,9,9,9,9,9]:Str) s_2 _ (hr_26 hg)) (by simp only [go_sem,simprocAttr,hxc_1]; exact Is.mk) (by simp only [go_sem,simprocAttr,hxc_1]; exact Is.mk) (by simp only [go_sem,simprocAttr,hxc_1]; exact Is.mk) (by simp only [go_sem,simprocAttr,hxc_1]) (by simp only [go_sem,simprocAttr,hxc_1]; exact Is.mk) ?cont66
            intro hv66
            simp only [go_sem,simprocAttr,hxc_1]
            refine kA hK65 ?_
            refine cM hm (fun hc67 hm=>?_) (fun hc67 hm=>?_)
            ·obtain ⟨c_36,hm⟩:=zf hm
             refine Wp.seqR fun K68 hK68=>?_
             simp only [go_sem,simprocAttr,hxc_1]
             refine kA hK68 ?_
             refine Wp.ret ?_
             refine zc ?_
             cases hm
             simp only [go_sem,simprocAttr,hxc_1]
             try exact se3
            ·refine Wp.skip ?_
             refine hW19 _ _ _ _ ?_ (hcut19 () hm)
             simp only [go_sem,simprocAttr,hxc_1]
             try exact se3
       ·refine Wp.skip ?_
        refine hW19 _ _ _ _ ?_ (hcut19 () hm)
        simp only [go_sem,simprocAttr,hxc_1]
        try exact se3
      clear hK47 hk_11
      refine Wp.seqR fun K69 hK69=>?_
      simp only [go_sem,simprocAttr,hxc_1]
      refine kA hK69 ?_
      refine cM hm (fun hc70 hm=>?_) (fun hc70 hm=>?_)
      ·refine Wp.skip ?_
       refine hW47 _ _ _ _ ?_ (hcut47 (decide (c_1=32)) hm)
       simp only [go_sem,simprocAttr,hxc_1]
       try exact se3
      ·refine Wp.seqR fun K71 hK71=>?_
       simp only [go_sem,simprocAttr,hxc_1]
       refine kA hK71 ?_
       refine cM hm (fun hc72 hm=>?_) (fun hc72 hm=>?_)
       ·refine Wp.skip ?_
        refine hW47 _ _ _ _ ?_ (hcut47 (decide (c_1=45)) hm)
        simp only [go_sem,simprocAttr,hxc_1]
        try exact se3
       ·refine Wp.seqR fun K73 hK73=>?_
        simp only [go_sem,simprocAttr,hxc_1]
        refine kA hK73 ?_
        refine cM hm (fun hc74 hm=>?_) (fun hc74 hm=>?_)
        ·refine Wp.skip ?_
         refine hW47 _ _ _ _ ?_ (hcut47 (decide (c_1=48)) hm)
         simp only [go_sem,simprocAttr,hxc_1]
         try exact se3
        ·refine Wp.seqR fun K75 hK75=>?_
         simp only [go_sem,simprocAttr,hxc_1]
         refine kA hK75 ?_
         refine cM hm (fun hc76 hm=>?_) (fun hc76 hm=>?_)
         ·refine Wp.skip ?_
          refine hW47 _ _ _ _ ?_ (hcut47 (decide (c_1=61)) hm)
          simp only [go_sem,simprocAttr,hxc_1]
          try exact se3
         ·refine Wp.region fun K77 hK77=>?_
          simp only [go_sem,simprocAttr,hxc_1]
          refine kA hK77 ?_
          refine hW47 _ _ _ _ ?_ (hcut47 (decide (c_1=9)) hm)
          simp only [go_sem,simprocAttr,hxc_1]
          try exact se3
    clear hK13 hk_7
    refine qS ?_
    refine cM hm (fun hc79 hm=>?_) (fun hc79 hm=>?_)
    ·cases hm
    ·refine Wp.skip ?_
     refine hW13 _ _ _ _ ?_ (hcut13 () hm)
     exact zn
   clear hK10 hk_6
   refine qS ?_
   refine cM hm (fun hc81 hm=>?_) (fun hc81 hm=>?_)
   ·cases hm
   ·refine Wp.skip ?_
    refine hW10 _ _ _ _ ?_ (hcut10 () hm)
    exact zn
theorem zbV (s_2:Str) (z:Str) (hm:zhz s_2=some z):Does Tryz.prog 41 [.p (.s s_2)] [] (fun r X=>r=.p (.s z)∧X=[]):=by
 unfold zhz at hm
 refine dW 0 27 [.tmp 2] Tryz.func41 fun B=>?_
 refine qS ?_
 refine qS ?_
 refine Wp.seqW fun K3 hK3 hW3=>?_
 obtain ⟨k_3,hk_3,hm⟩:=zk hm
 have hcut3:∀ s,k_3 s=some z→K3 [(3,.p (.i .u64 s))] []:=by
  intro h_11 hs
  have hm:=hk_3 _ hs
  clear hs
  try dsimp only at hm
  try dsimp only
  refine hK3 _ _ ?_
  obtain ⟨r_5,hr_5,hm⟩:=zb hm
  refine Wp.seqR fun K4 hK4=>?_
  simp only [go_sem,simprocAttr]
  try refine ⟨sd,?_⟩
  refine Rg.callX (av:=?av5) (g:=true) (fun hg=>zfn h_11 16 _ hr_5) si si si sg si ?cont5
  intro hv5
  simp only [go_sem,simprocAttr]
  refine kA hK4 ?_
  obtain ⟨r_7,hr_7,hm⟩:=zb hm
  obtain ⟨c_12,hm⟩:=zf hm
  refine Wp.seqR fun K6 hK6=>?_
  simp only [go_sem,simprocAttr]
  try refine ⟨sL,?_⟩
  refine Rg.callX (av:=?av7) (g:=true) (fun hg=>zhm ([48]:Str) (IntKind.i64.wrap (16 - (r_5.length:Int))) _ hr_7) si si si sg si ?cont7
  intro hv7
  simp only [go_sem,simprocAttr]
  refine kA hK6 ?_
  refine Wp.ret ?_
  refine zc ?_
  cases hm
  exact zn
 clear hK3 hk_3
 refine qS ?_
 refine Wp.block ?_
 obtain ⟨k_8,hk_8,hm⟩:=zT hm
 refine Wp.fact 0 fun hl_6=>?_
 replace hl_6:s_2.length≤274877906944:=by
  simp only [go_sem,simprocAttr,List.length_map] at hl_6
  omega
 refine Wp.forL (fun i_4 s=>[(0,.p (.s s_2)),(3,.p (.i .u64 s)),(7,.p (.i .i64 (s_2.length:Int))),(8,.p (.i .i64 (i_4:Int)))]) (fun i_4 s=>[]) ?_ hm ?_
 ·
  exact zn
 clear hm
 intro i_4 h_9 hii_4 hm
 try dsimp only at hm
 try dsimp only
 refine qS ?_
 refine Wp.seqW fun K10 hK10 hW10=>?_
 refine Wp.cond rfl ⟨⟩ (fun hc10=>?_) (fun hc10=>?_)
 rotate_left
 ·refine Wp.exit ?_
  have hm:=hk_8 _ (zaf hm (zbc (by first | exact hc10 | simpa using hc10)))
  try dsimp only at hm
  refine hW3 _ _ _ _ ?_ (hcut3 h_9 hm)
  exact zn
 have hlt10:=zbb (by first | exact hc10 | simpa using hc10)
 have hw10:=zR hlt10 hl_6
 obtain ⟨c_1,nx_10,hxc_1,hyc_1,hnx_10,hm⟩:=zS hm hlt10
 clear hxc_1
 refine Wp.skip ?_
 simp only [zl]
 refine hK10 _ _ ?_
 refine Wp.seqW fun K11 hK11 hW11=>?_
 refine Wp.block ?_
 refine Wp.seqR fun K12 hK12=>?_
 simp only [go_sem,simprocAttr,hw10,hyc_1]
 refine kA hK12 ?_
 refine Wp.region fun K13 hK13=>?_
 simp only [go_sem,simprocAttr,hw10,hyc_1]
 refine kA hK13 ?_
 refine hK11 _ _ ?_
 refine Wp.region fun K14 hK14=>?_
 simp only [go_sem,simprocAttr,hw10,hyc_1]
 refine kA hK14 ?_
 simp only [zl,zi,↓reduceIte]
 refine ⟨IntKind.u64.wrap ((zaz .xor .u64 h_9 (IntKind.u64.wrap (c_1.toNat:Int))) * 1099511628211),hlt10,hnx_10 _ hm,?_⟩
 simp only [go_sem,simprocAttr,hw10,hyc_1]
 try exact se3
theorem zhK (l_2:List api_Record) (z:Str × Str) (hm:zeG l_2=some z):Does Tryz.prog 13 [.p (.l (List.map za l_2))] [] (fun r X=>r=.tup [.p (.s z.1),.p (.s z.2)]∧X=[]):=by
 unfold zeG at hm
 refine dW 0 30 [.tmp 2,.tmp 3] Tryz.func13 fun B=>?_
 refine qS ?_
 refine qS ?_
 refine Wp.adoptB 0 5 rfl ?_
 simp only [go_sem,simprocAttr]
 refine qS ?_
 refine Wp.seqW fun K4 hK4 hW4=>?_
 obtain ⟨k_3,hk_3,hm⟩:=zk hm
 have hcut4:∀ s,k_3 s=some z→K4 [(4,.ptr 0 0),(5,.p (.s s.1))] [.cells 75 [.np 0,.buf 1],.sb 5 s.2]:=by
  intro s hs
  have hm:=hk_3 _ hs
  clear hs
  obtain ⟨sum_15,o1_14⟩:=s
  try dsimp only at hm
  try dsimp only
  refine hK4 _ _ ?_
  obtain ⟨r_9,hr_9,hm⟩:=zb hm
  refine Wp.seqR fun K5 hK5=>?_
  simp only [go_sem,simprocAttr]
  try refine ⟨sd,?_⟩
  refine Rg.callO (av:=?av6) [0,1] (zam o1_14 _ hr_9) si si si sg sg ?cont6
  rintro _ _ ⟨rfl,rfl⟩ hv6
  simp only [go_sem,simprocAttr]
  refine kA hK5 ?_
  refine Wp.ret ?_
  refine zc ?_
  cases hm
  exact zn
 clear hK4 hk_3
 refine qS ?_
 refine Wp.block ?_
 obtain ⟨k_10,hk_10,hm⟩:=zT hm
 refine Wp.fact 9 fun hl_7=>?_
 replace hl_7:l_2.length≤274877906944:=by
  simp only [go_sem,simprocAttr,List.length_map] at hl_7
  omega
 refine Wp.forL (fun i_4 s=>[(4,.ptr 0 0),(5,.p (.s s.1)),(9,.p (.l (List.map za l_2))),(10,.p (.i .i64 (l_2.length:Int))),(11,.p (.i .i64 (i_4:Int)))]) (fun i_4 s=>[.cells 75 [.np 0,.buf 1],.sb 5 s.2]) ?_ hm ?_
 ·
  exact zn
 clear hm
 intro i_4 s hii_4 hm
 obtain ⟨sum_11,o1_12⟩:=s
 try dsimp only at hm
 try dsimp only
 refine qS ?_
 refine Wp.seqW fun K9 hK9 hW9=>?_
 refine Wp.cond rfl ⟨⟩ (fun hc9=>?_) (fun hc9=>?_)
 rotate_left
 ·refine Wp.exit ?_
  have hm:=hk_10 _ (zaf hm (zbc (by first | exact hc9 | simpa using hc9)))
  try dsimp only at hm
  refine hW4 _ _ _ _ ?_ (hcut4 (sum_11,o1_12) hm)
  exact zn
 have hlt9:=zbb (by first | exact hc9 | simpa using hc9)
 have hw9:=zR hlt9 hl_7
 obtain ⟨r_1,nx_13,hxr_1,hyr_1,hnx_13,hm⟩:=zS hm hlt9
 replace hxr_1:=hxr_1 za
 refine Wp.skip ?_
 simp only [zl]
 refine hK9 _ _ ?_
 refine Wp.seqW fun K10 hK10 hW10=>?_
 refine Wp.block ?_
 refine Wp.seqR fun K11 hK11=>?_
 simp only [go_sem,simprocAttr,hw9,hxr_1]
 refine kA hK11 ?_
 obtain ⟨r_5,hr_5,hm⟩:=zb hm
 refine Wp.seqR fun K12 hK12=>?_
 simp only [go_sem,simprocAttr,hw9,hxr_1]
 try refine ⟨sd,?_⟩
 refine Rg.callX (av:=?av13) (g:=true) (fun hg=>ziS r_1 _ hr_5) (by simp only [go_sem,simprocAttr,hw9,hxr_1]; exact Is.mk) (by simp only [go_sem,simprocAttr,hw9,hxr_1]; exact Is.mk) (by simp only [go_sem,simprocAttr,hw9,hxr_1]; exact Is.mk) (by simp only [go_sem,simprocAttr,hw9,hxr_1]) (by simp only [go_sem,simprocAttr,hw9,hxr_1]; exact Is.mk) ?cont13
 intro hv13
 simp only [go_sem,simprocAttr,hw9,hxr_1]
 refine kA hK12 ?_
 obtain ⟨c_16,hm⟩:=zf hm
 obtain ⟨r_6,hr_6,hm⟩:=zb hm
 refine Wp.seqR fun K14 hK14=>?_
 simp only [go_sem,simprocAttr,hw9,hxr_1]
 try refine ⟨sL,?_⟩
 refine Rg.callX (av:=?av15) (g:=true) (fun hg=>zbV (sum_11++r_5) _ hr_6) (by simp only [go_sem,simprocAttr,hw9,hxr_1]; exact Is.mk) (by simp only [go_sem,simprocAttr,hw9,hxr_1]; exact Is.mk) (by simp only [go_sem,simprocAttr,hw9,hxr_1]; exact Is.mk) (by simp only [go_sem,simprocAttr,hw9,hxr_1]) (by simp only [go_sem,simprocAttr,hw9,hxr_1]; exact Is.mk) ?cont15
 intro hv15
 simp only [go_sem,simprocAttr,hw9,hxr_1]
 refine kA hK14 ?_
 obtain ⟨c_17,hm⟩:=zf hm
 obtain ⟨c_18,hm⟩:=zf hm
 obtain ⟨c_19,hm⟩:=zf hm
 obtain ⟨r_8,hr_8,hm⟩:=zb hm
 refine Wp.region fun K16 hK16=>?_
 simp only [go_sem,simprocAttr,hw9,hxr_1]
 try refine ⟨sL,?_⟩
 refine Rg.callO (av:=?av17) [0,1] (zE (((r_5++([32]:Str))++r_6)++([10]:Str)) o1_12 _ hr_8) (by simp only [go_sem,simprocAttr,hw9,hxr_1]; exact Is.mk) (by simp only [go_sem,simprocAttr,hw9,hxr_1]; exact Is.mk) (by simp only [go_sem,simprocAttr,hw9,hxr_1]; first | exact Is.mk | (simp only [List.map_append,List.map_cons,List.map_nil,ecB,zaK,zab,ecS,za,zo]; exact Is.mk)) (by simp only [go_sem,simprocAttr,hw9,hxr_1]) (by simp only [go_sem,simprocAttr,hw9,hxr_1]) ?cont17
 rintro _ _ ⟨rfl,rfl⟩ hv17
 simp only [go_sem,simprocAttr,hw9,hxr_1]
 refine kA hK16 ?_
 refine hK10 _ _ ?_
 refine Wp.region fun K18 hK18=>?_
 simp only [go_sem,simprocAttr,hw9,hxr_1]
 refine kA hK18 ?_
 simp only [zl,zi,↓reduceIte]
 refine ⟨(r_6,r_8.2),hlt9,hnx_13 _ hm,?_⟩
 simp only [go_sem,simprocAttr,hw9,hxr_1]
 try exact se3
theorem zdQ (s_1:Str) (sep_2:Str) (z:Str × Str × Bool) (hm:zaI s_1 sep_2=some z):Does Tryz.prog 85 [.p (.s s_1),.p (.s sep_2)] [] (fun r X=>r=.tup [.p (.s z.1),.p (.s z.2.1),.p (.b z.2.2)]∧X=[]):=by
 unfold zaI at hm
 refine dW 0 23 [.tmp 4,.tmp 5,.tmp 6] Tryz.func85 fun B=>?_
 refine qS ?_
 refine Wp.seqW fun K2 hK2 hW2=>?_
 obtain ⟨r_3,hr_3,hm⟩:=zb hm
 refine Wp.seqR fun K3 hK3=>?_
 simp only [go_sem,simprocAttr]
 try refine ⟨sd,?_⟩
 refine Rg.callX (av:=?av4) (g:=true) (fun hg=>zbu s_1 sep_2 _ hr_3) si si si sg si ?cont4
 intro hv4
 simp only [go_sem,simprocAttr]
 refine kA hK3 ?_
 refine qS ?_
 refine cM hm (fun hc6 hm=>?_) (fun hc6 hm=>?_)
 ·obtain ⟨c_4,hm⟩:=zf hm
  obtain ⟨c_5,hm⟩:=zf hm
  refine Wp.seqD (plan:=pl [(0,none),(1,none),(2,none),(3,none),(4,none),(5,none),(6,none),(7,none),(8,none),(9,none),(10,none),(11,none)]) (by kernel_rfl) rfl (by kernel_rfl) fun K7 hK7=>?_
  simp only [go_sem,simprocAttr]
  refine kA hK7 ?_
  refine Wp.ret ?_
  refine zc ?_
  cases hm
  exact zn
 ·refine Wp.skip ?_
  refine hK2 _ _ ?_
  refine qS ?_
  refine Wp.ret ?_
  refine zc ?_
  cases hm
  exact zn
theorem zek (s_1:Str) (sep_2:Str) (z:Str × Str × Bool) (hm:zcj s_1 sep_2=some z):Does Tryz.prog 45 [.p (.s s_1),.p (.s sep_2)] [] (fun r X=>r=.tup [.p (.s z.1),.p (.s z.2.1),.p (.b z.2.2)]∧X=[]):=by
 unfold zcj at hm
 refine dW 0 13 [.tmp 4,.tmp 5,.tmp 6] Tryz.func45 fun B=>?_
 refine qS ?_
 obtain ⟨r_3,hr_3,hm⟩:=zb hm
 refine Wp.seqR fun K2 hK2=>?_
 simp only [go_sem,simprocAttr]
 try refine ⟨sd,?_⟩
 refine Rg.callX (av:=?av3) (g:=true) (fun hg=>zdQ s_1 sep_2 _ hr_3) si si si sg si ?cont3
 intro hv3
 simp only [go_sem,simprocAttr]
 refine kA hK2 ?_
 refine Wp.ret ?_
 refine zc ?_
 cases hm
 exact zn
theorem zaF (s_2:Str) (c_4:Int) (z:Int) (hm:zz s_2 c_4=some z):Does Tryz.prog 86 [.p (.s s_2),.p (.i .u8 c_4)] [] (fun r X=>r=.p (.i .i64 z)∧X=[]):=by
 unfold zz at hm
 refine dW 0 19 [.tmp 4] Tryz.func86 fun B=>?_
 refine qS ?_
 refine Wp.seqW fun K2 hK2 hW2=>?_
 obtain ⟨k_3,hk_3,hm⟩:=zk hm
 have hcut2:∀ s,k_3 s=some z→K2 [] []:=by
  intro s hs
  have hm:=hk_3 _ hs
  clear hs
  try dsimp only at hm
  try dsimp only
  refine hK2 _ _ ?_
  refine qS ?_
  refine Wp.ret ?_
  refine zc ?_
  cases hm
  exact zn
 clear hK2 hk_3
 refine qS ?_
 refine Wp.block ?_
 obtain ⟨k_5,hk_5,hm⟩:=zB hm
 refine Wp.loopN (fun s=>[(0,.p (.s s_2)),(1,.p (.i .u8 c_4)),(5,.p (.i .i64 s))]) (fun s=>[]) ?_ hm ?_
 ·
  exact zn
 clear hm
 intro i_6 nx_7 hm
 try dsimp only at hm
 try dsimp only
 refine Wp.seqW fun K5 hK5 hW5=>?_
 refine qS ?_
 refine cM hm (fun hc7 hm=>?_) (fun hc7 hm=>?_)
 ·refine Wp.skip ?_
  refine hK5 _ _ ?_
  refine Wp.seqW fun K8 hK8 hW8=>?_
  refine Wp.block ?_
  obtain ⟨c_1,hbc_1,hxc_1,hm⟩:=zai hm
  replace hxc_1:((s_2.getD i_6.toNat 0).toNat:Int)=c_1:=hxc_1
  refine Wp.seqR fun K9 hK9=>?_
  simp only [go_sem,simprocAttr,hxc_1]
  refine kA hK9 ?_
  refine cM hm (fun hc10 hm=>?_) (fun hc10 hm=>?_)
  ·refine Wp.seqR fun K11 hK11=>?_
   simp only [go_sem,simprocAttr,hxc_1]
   refine kA hK11 ?_
   refine Wp.ret ?_
   refine zc ?_
   cases hm
   simp only [go_sem,simprocAttr,hxc_1]
   try exact se3
  ·refine Wp.skip ?_
   refine hK8 _ _ ?_
   refine Wp.region fun K12 hK12=>?_
   simp only [go_sem,simprocAttr,hxc_1]
   refine kA hK12 ?_
   simp only [zl,zi,↓reduceIte]
   refine ⟨IntKind.i64.wrap (i_6 - 1),hm,?_⟩
   simp only [go_sem,simprocAttr,hxc_1]
   try exact se3
 ·refine Wp.exit ?_
  simp only [zl,zi,↓reduceIte]
  have hm:=hk_5 _ hm
  try dsimp only at hm
  refine hW2 _ _ _ _ ?_ (hcut2 () hm)
  exact zn
theorem zet (s_1:Str) (c_2:Int) (z:Int) (hm:zC s_1 c_2=some z):Does Tryz.prog 46 [.p (.s s_1),.p (.i .u8 c_2)] [] (fun r X=>r=.p (.i .i64 z)∧X=[]):=by
 unfold zC at hm
 refine dW 0 8 [.tmp 4] Tryz.func46 fun B=>?_
 refine qS ?_
 obtain ⟨r_3,hr_3,hm⟩:=zb hm
 refine Wp.seqR fun K2 hK2=>?_
 simp only [go_sem,simprocAttr]
 try refine ⟨sd,?_⟩
 refine Rg.callX (av:=?av3) (g:=true) (fun hg=>zaF s_1 c_2 _ hr_3) si si si sg si ?cont3
 intro hv3
 simp only [go_sem,simprocAttr]
 refine kA hK2 ?_
 refine Wp.ret ?_
 refine zc ?_
 cases hm
 exact zn
theorem zes (s_1:Str) (sep_2:Str) (n_3:Int) (z:List Str) (hm:zby s_1 sep_2 n_3=some z):Does Tryz.prog 87 [.p (.s s_1),.p (.s sep_2),.p (.i .i64 n_3)] [] (fun r X=>r=.p (.l (List.map ecS z))∧X=[]):=by
 unfold zby at hm
 refine dW 0 11 [.tmp 6] Tryz.func87 fun B=>?_
 refine qS ?_
 obtain ⟨r_4,hr_4,hm⟩:=zb hm
 refine Wp.seqR fun K2 hK2=>?_
 simp only [go_sem,simprocAttr]
 try refine ⟨sd,?_⟩
 refine Rg.callF (av:=?av3) (zdP s_1 sep_2 0 n_3 _ hr_4) si si sg ?cont3
 intro hv3
 simp only [go_sem,simprocAttr]
 refine kA hK2 ?_
 refine Wp.ret ?_
 refine zc ?_
 cases hm
 exact zn
theorem zgR (s_2:Str) (z:Int × Bool) (hm:zcq s_2=some z):Does Tryz.prog 88 [.p (.s s_2)] [] (fun r X=>r=.tup [.p (.i .i64 z.1),.p (.b z.2)]∧X=[]):=by
 unfold zcq at hm
 refine dW 0 47 [.tmp 2,.tmp 3] Tryz.func88 fun B=>?_
 refine qS ?_
 refine Wp.seqW fun K2 hK2 hW2=>?_
 obtain ⟨c_9,hm⟩:=zf hm
 refine Wp.seqR fun K3 hK3=>?_
 simp only [go_sem,simprocAttr]
 refine kA hK3 ?_
 refine cM hm (fun hc4 hm=>?_) (fun hc4 hm=>?_)
 ·refine qS ?_
  refine Wp.ret ?_
  refine zc ?_
  cases hm
  exact zn
 ·refine Wp.skip ?_
  refine hK2 _ _ ?_
  refine Wp.seqW fun K6 hK6 hW6=>?_
  obtain ⟨k_3,hk_3,hm⟩:=zk hm
  have hcut6:∀ s,k_3 s=some z→K6 [(0,.p (.s s_2))] []:=by
   intro s hs
   have hm:=hk_3 _ hs
   clear hs
   try dsimp only at hm
   try dsimp only
   refine hK6 _ _ ?_
   obtain ⟨r_6,hr_6,hm⟩:=zb hm
   refine Wp.seqR fun K7 hK7=>?_
   simp only [go_sem,simprocAttr]
   try refine ⟨sd,?_⟩
   refine Rg.callF (av:=?av8) (zbi s_2 _ hr_6) si si sg ?cont8
   intro hv8
   simp only [go_sem,simprocAttr]
   refine kA hK7 ?_
   refine Wp.seqD (plan:=pl [(0,none),(1,none),(2,none),(3,none),(4,none)]) (by kernel_rfl) rfl (by kernel_rfl) fun K9 hK9=>?_
   simp only [go_sem,simprocAttr]
   refine kA hK9 ?_
   refine Wp.ret ?_
   refine zc ?_
   cases hm
   exact zn
  clear hK6 hk_3
  refine qS ?_
  refine Wp.block ?_
  obtain ⟨k_7,hk_7,hm⟩:=zT hm
  refine Wp.fact 0 fun hl_5=>?_
  replace hl_5:s_2.length≤274877906944:=by
   simp only [go_sem,simprocAttr,List.length_map] at hl_5
   omega
  refine Wp.forL (fun i_4 s=>[(0,.p (.s s_2)),(4,.p (.i .i64 (i_4:Int)))]) (fun i_4 s=>[]) ?_ hm ?_
  ·
   exact zn
  clear hm
  intro i_4 s hii_4 hm
  try dsimp only at hm
  try dsimp only
  refine Wp.seqW fun K11 hK11 hW11=>?_
  refine qS ?_
  refine Wp.cond rfl ⟨⟩ (fun hc11=>?_) (fun hc11=>?_)
  rotate_left
  ·refine Wp.exit ?_
   have hm:=hk_7 _ (zaf hm (zbc (by first | exact hc11 | simpa using hc11)))
   try dsimp only at hm
   refine hW6 _ _ _ _ ?_ (hcut6 () hm)
   exact zn
  have hlt11:=zbb (by first | exact hc11 | simpa using hc11)
  have hw11:=zR hlt11 hl_5
  obtain ⟨c_1,nx_8,hxc_1,hyc_1,hnx_8,hm⟩:=zS hm hlt11
  clear hxc_1
  refine Wp.skip ?_
  simp only [zl]
  refine hK11 _ _ ?_
  refine Wp.seqW fun K13 hK13 hW13=>?_
  refine Wp.block ?_
  refine Wp.seqR fun K14 hK14=>?_
  simp only [go_sem,simprocAttr,hw11,hyc_1]
  refine kA hK14 ?_
  refine cM hm (fun hc15 hm=>?_) (fun hc15 hm=>?_)
  ·refine Wp.seqR fun K16 hK16=>?_
   simp only [go_sem,simprocAttr,hw11,hyc_1]
   refine kA hK16 ?_
   refine Wp.ret ?_
   refine zc ?_
   cases hm
   simp only [go_sem,simprocAttr,hw11,hyc_1]
   try exact se3
  ·refine Wp.skip ?_
   refine hK13 _ _ ?_
   refine Wp.region fun K17 hK17=>?_
   simp only [go_sem,simprocAttr,hw11,hyc_1]
   refine kA hK17 ?_
   simp only [zl,zi,↓reduceIte]
   refine ⟨(),hlt11,hnx_8 _ hm,?_⟩
   simp only [go_sem,simprocAttr,hw11,hyc_1]
   try exact se3
theorem zeQ (s_1:Str) (z:Int × Bool) (hm:zbx s_1=some z):Does Tryz.prog 163 [.p (.s s_1)] [] (fun r X=>r=.tup [.p (.i .i64 z.1),.p (.b z.2)]∧X=[]):=by
 unfold zbx at hm
 refine dW 0 26 [.tmp 2,.tmp 3] Tryz.func163 fun B=>?_
 refine qS ?_
 refine Wp.seqW fun K2 hK2 hW2=>?_
 obtain ⟨r_2,hr_2,hm⟩:=zb hm
 obtain ⟨c_4,hm⟩:=zf hm
 refine Wp.seqR fun K3 hK3=>?_
 simp only [go_sem,simprocAttr]
 try refine ⟨sL,?_⟩
 refine Rg.callX (av:=?av4) (g:=true) (fun hg=>zf4 s_1 9 _ hr_2) si si si sg si ?cont4
 intro hv4
 simp only [go_sem,simprocAttr]
 refine kA hK3 ?_
 refine cM hm (fun hc5 hm=>?_) (fun hc5 hm=>?_)
 ·refine qS ?_
  refine Wp.ret ?_
  refine zc ?_
  cases hm
  exact zn
 ·refine Wp.skip ?_
  refine hK2 _ _ ?_
  obtain ⟨r_3,hr_3,hm⟩:=zb hm
  refine Wp.seqR fun K7 hK7=>?_
  simp only [go_sem,simprocAttr]
  try refine ⟨sd,?_⟩
  refine Rg.callF (av:=?av8) (zbi s_1 _ hr_3) si si sg ?cont8
  intro hv8
  simp only [go_sem,simprocAttr]
  refine kA hK7 ?_
  refine Wp.seqD (plan:=pl [(0,none),(1,none),(2,none),(3,none),(4,none)]) (by kernel_rfl) rfl (by kernel_rfl) fun K9 hK9=>?_
  simp only [go_sem,simprocAttr]
  refine kA hK9 ?_
  refine Wp.ret ?_
  refine zc ?_
  cases hm
  exact zn
end Go.Proofs.YtmnohdgjkcjdeaaGreatDoor
