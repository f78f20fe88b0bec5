/- That the code does what the models say (part 10). -/
import Derived.Test.YtmnohdgjkcjdeaaGreatDoorLpWk0
import Derived.Test.YtmnohdgjkcjdeaaGreatDoorLpWk1
import Derived.Test.YtmnohdgjkcjdeaaGreatDoorLpWk2
import Derived.Test.YtmnohdgjkcjdeaaGreatDoorLpWk3
import Derived.Test.YtmnohdgjkcjdeaaGreatDoorLpWk6
import Derived.Test.YtmnohdgjkcjdeaaGreatDoorLpWk8
import Derived.Test.YtmnohdgjkcjdeaaGreatDoorLpWk9
set_option linter.unusedSimpArgs false
set_option linter.unusedVariables false
open Go.Proofs Go.Shelf
namespace Go.Proofs.YtmnohdgjkcjdeaaGreatDoor
open Go.Vc Go.Md
set_option maxRecDepth 100000
set_option maxHeartbeats 4000000
theorem zbY (n_1:Int) (o0_11:List api_Record) (z:List api_Record) (hm:zY n_1 o0_11=some z):Does Tryz.prog 91 [.buf 0,.p (.i .i64 n_1),.fn 49 []] [.fx 30 13 (List.map za o0_11)] (fun r X=>r=.tup []∧X=[.fx 30 13 (List.map za z)]):=by
 unfold zY at hm
 refine dW 1 63 [] Tryz.func91 fun B=>?_
 refine qS ?_
 refine qS ?_
 refine Wp.seqW fun K3 hK3 hW3=>?_
 obtain ⟨k_3,hk_3,hm⟩:=zk hm
 have hcut3:∀ s,k_3 s=some z→K3 [(0,.buf 0),(1,.p (.i .i64 n_1)),(2,.fn 49 []),(6,.p (.i .i64 20)),(7,.p (.i .i64 s.1))] [.fx 30 13 (List.map za s.2)]:=by
  intro s hs
  have hm:=hk_3 _ hs
  clear hs
  obtain ⟨a_21,o0_22⟩:=s
  try dsimp only at hm
  try dsimp only
  refine hK3 _ _ ?_
  obtain ⟨r_12,hr_12,hm⟩:=zb hm
  refine Wp.seqR fun K4 hK4=>?_
  simp only [go_sem,simprocAttr]
  try refine ⟨sd,?_⟩
  refine Rg.callO (av:=?av5) [0] (zap a_21 n_1 o0_22 _ hr_12) si si si sg sg ?cont5
  rintro _ _ ⟨rfl,rfl⟩ hv5
  simp only [go_sem,simprocAttr]
  refine kA hK4 ?_
  refine Wp.block ?_
  obtain ⟨k_13,hk_13,hm⟩:=zB hm
  refine Wp.loopN (fun s=>[(0,.buf 0),(1,.p (.i .i64 n_1)),(2,.fn 49 []),(6,.p (.i .i64 s.1))]) (fun s=>[.fx 30 13 (List.map za s.2)]) ?_ hm ?_
  ·
   exact zn
  clear hm
  intro s nx_23 hm
  obtain ⟨blockSize_2,o0_24⟩:=s
  try dsimp only at hm
  try dsimp only
  refine Wp.seqW fun K6 hK6 hW6=>?_
  refine qS ?_
  refine cM hm (fun hc8 hm=>?_) (fun hc8 hm=>?_)
  ·refine Wp.skip ?_
   refine hK6 _ _ ?_
   refine Wp.block ?_
   refine qS ?_
   refine Wp.seqW fun K10 hK10 hW10=>?_
   obtain ⟨k_4,hk_4,hm⟩:=zk hm
   have hcut10:∀ s,k_4 s=some z→K10 [(0,.buf 0),(1,.p (.i .i64 n_1)),(2,.fn 49 []),(6,.p (.i .i64 blockSize_2)),(7,.p (.i .i64 s.1))] [.fx 30 13 (List.map za s.2)]:=by
    intro s hs
    have hm:=hk_4 _ hs
    clear hs
    obtain ⟨a_14,o0_15⟩:=s
    try dsimp only at hm
    try dsimp only
    refine hK10 _ _ ?_
    refine Wp.seqW fun K11 hK11 hW11=>?_
    refine qS ?_
    refine qS ?_
    refine cM hm (fun hc14 hm=>?_) (fun hc14 hm=>?_)
    ·obtain ⟨r_5,hr_5,hm⟩:=zb hm
     refine Wp.region fun K15 hK15=>?_
     simp only [go_sem,simprocAttr]
     try refine ⟨sd,?_⟩
     refine Rg.callO (av:=?av16) [0] (zaE zc4 a_14 (IntKind.i64.wrap (a_14+blockSize_2)) n_1 o0_15 _ hr_5) si si si sg sg ?cont16
     rintro _ _ ⟨rfl,rfl⟩ hv16
     simp only [go_sem,simprocAttr]
     refine kA hK15 ?_
     refine hK11 _ _ ?_
     refine qR ?_
     simp only [zl,zi,↓reduceIte]
     refine ⟨(IntKind.i64.wrap (blockSize_2 * 2),r_5),hm,?_⟩
     exact zn
    ·refine Wp.skip ?_
     refine hK11 _ _ ?_
     refine qR ?_
     simp only [zl,zi,↓reduceIte]
     refine ⟨(IntKind.i64.wrap (blockSize_2 * 2),o0_15),hm,?_⟩
     exact zn
   clear hK10 hk_4
   refine Wp.block ?_
   obtain ⟨k_16,hk_16,hm⟩:=zB hm
   refine Wp.loopN (fun s=>[(0,.buf 0),(1,.p (.i .i64 n_1)),(2,.fn 49 []),(6,.p (.i .i64 blockSize_2)),(7,.p (.i .i64 s.1)),(8,.p (.i .i64 s.2.1))]) (fun s=>[.fx 30 13 (List.map za s.2.2)]) ?_ hm ?_
   ·
    exact zn
   clear hm
   intro s nx_25 hm
   obtain ⟨a_6,b_7,o0_17⟩:=s
   try dsimp only at hm
   try dsimp only
   refine Wp.seqW fun K19 hK19 hW19=>?_
   refine qS ?_
   refine cM hm (fun hc21 hm=>?_) (fun hc21 hm=>?_)
   ·refine Wp.skip ?_
    refine hK19 _ _ ?_
    refine Wp.block ?_
    obtain ⟨r_8,hr_8,hm⟩:=zb hm
    refine Wp.seqR fun K22 hK22=>?_
    simp only [go_sem,simprocAttr]
    try refine ⟨sd,?_⟩
    refine Rg.callO (av:=?av23) [0] (zaE zc4 a_6 (IntKind.i64.wrap (a_6+blockSize_2)) b_7 o0_17 _ hr_8) si si si sg sg ?cont23
    rintro _ _ ⟨rfl,rfl⟩ hv23
    simp only [go_sem,simprocAttr]
    refine kA hK22 ?_
    refine qS ?_
    refine qR ?_
    simp only [zl,zi,↓reduceIte]
    refine ⟨(b_7,IntKind.i64.wrap (b_7+(IntKind.i64.wrap (2 * blockSize_2))),r_8),hm,?_⟩
    exact zn
   ·refine Wp.exit ?_
    simp only [zl,zi,↓reduceIte]
    have hm:=hk_16 _ hm
    try dsimp only at hm
    refine hW10 _ _ _ _ ?_ (hcut10 (a_6,o0_17) hm)
    exact zn
  ·refine Wp.exit ?_
   simp only [zl,zi,↓reduceIte]
   have hm:=hk_13 _ hm
   try dsimp only at hm
   refine zaJ ?_
   cases hm
   exact zn
 clear hK3 hk_3
 refine Wp.block ?_
 obtain ⟨k_18,hk_18,hm⟩:=zB hm
 refine Wp.loopN (fun s=>[(0,.buf 0),(1,.p (.i .i64 n_1)),(2,.fn 49 []),(6,.p (.i .i64 20)),(7,.p (.i .i64 s.1)),(8,.p (.i .i64 s.2.1))]) (fun s=>[.fx 30 13 (List.map za s.2.2)]) ?_ hm ?_
 ·
  exact zn
 clear hm
 intro s nx_26 hm
 obtain ⟨a_19,b_9,o0_20⟩:=s
 try dsimp only at hm
 try dsimp only
 refine Wp.seqW fun K26 hK26 hW26=>?_
 refine qS ?_
 refine cM hm (fun hc28 hm=>?_) (fun hc28 hm=>?_)
 ·refine Wp.skip ?_
  refine hK26 _ _ ?_
  refine Wp.block ?_
  obtain ⟨r_10,hr_10,hm⟩:=zb hm
  refine Wp.seqR fun K29 hK29=>?_
  simp only [go_sem,simprocAttr]
  try refine ⟨sd,?_⟩
  refine Rg.callO (av:=?av30) [0] (zap a_19 b_9 o0_20 _ hr_10) si si si sg sg ?cont30
  rintro _ _ ⟨rfl,rfl⟩ hv30
  simp only [go_sem,simprocAttr]
  refine kA hK29 ?_
  refine qS ?_
  refine qR ?_
  simp only [zl,zi,↓reduceIte]
  refine ⟨(b_9,IntKind.i64.wrap (b_9+20),r_10),hm,?_⟩
  exact zn
 ·refine Wp.exit ?_
  simp only [zl,zi,↓reduceIte]
  have hm:=hk_18 _ hm
  try dsimp only at hm
  refine hW3 _ _ _ _ ?_ (hcut3 (a_19,o0_20) hm)
  exact zn
theorem zaX (o0_1:List api_Record) (z:List api_Record) (hm:zt o0_1=some z):Does Tryz.prog 48 [.buf 0,.fn 49 []] [.fx 30 13 (List.map za o0_1)] (fun r X=>r=.tup []∧X=[.fx 30 13 (List.map za z)]):=by
 unfold zt at hm
 refine dW 1 9 [] Tryz.func48 fun B=>?_
 obtain ⟨r_2,hr_2,hm⟩:=zb hm
 refine Wp.region fun K1 hK1=>?_
 simp only [go_sem,simprocAttr]
 try refine ⟨sd,?_⟩
 refine Rg.callO (av:=?av2) [0] (zbY (o0_1.length:Int) o0_1 _ hr_2) si si si sg sg ?cont2
 rintro _ _ ⟨rfl,rfl⟩ hv2
 simp only [go_sem,simprocAttr]
 refine kA hK1 ?_
 refine zaJ ?_
 cases hm
 exact zn
theorem zfq (l_8:List api_Record) (raw_13:Bool) (z:List api_Record) (hm:zd0 l_8 raw_13=some z):Does Tryz.prog 19 [.p (.l (List.map za l_8)),.p (.b raw_13)] [] (fun r X=>r=.p (.l (List.map za z))∧X=[]):=by
 unfold zd0 at hm
 refine dW 0 42 [.tmp 4] Tryz.func19 fun B=>?_
 refine qS ?_
 refine Wp.seqW fun K2 hK2 hW2=>?_
 refine qS ?_
 refine cM hm (fun hc4 hm=>?_) (fun hc4 hm=>?_)
 ·refine qS ?_
  refine Wp.ret ?_
  refine zc ?_
  cases hm
  exact zn
 ·refine Wp.skip ?_
  refine hK2 _ _ ?_
  obtain ⟨c_18,hm⟩:=zf hm
  obtain ⟨r_10,hr_10,hm⟩:=zb hm
  refine Wp.seqR fun K6 hK6=>?_
  simp only [go_sem,simprocAttr]
  try refine ⟨sL,?_⟩
  refine Rg.callO (av:=?av7) [] (z8 (List.take ((min (l_8.length:Int) 60).toNat) l_8) _ hr_10) si si si sg sg ?cont7
  rintro _ _ ⟨rfl,rfl⟩ hv7
  simp only [go_sem,simprocAttr]
  refine kA hK6 ?_
  refine Wp.toFix 0 (by simp only [go_sem,simprocAttr]; exact Is.mk) (by simp only [go_sem,simprocAttr]) ?_
  simp only [go_sem,simprocAttr]
  obtain ⟨r_2,hr_2,hm⟩:=zb hm
  refine Wp.seqR fun K8 hK8=>?_
  simp only [go_sem,simprocAttr]
  try refine ⟨sd,?_⟩
  refine Rg.callO (av:=?av9) [0] (zaX r_10 _ hr_2) si si si sg sg ?cont9
  rintro _ _ ⟨rfl,rfl⟩ hv9
  simp only [go_sem,simprocAttr]
  refine kA hK8 ?_
  refine Wp.toBuf 0 (by simp only [go_sem,simprocAttr]; exact Is.mk) (by simp only [go_sem,simprocAttr]) ?_
  simp only [go_sem,simprocAttr]
  refine qS ?_
  refine Wp.seqW fun K11 hK11 hW11=>?_
  obtain ⟨k_9,hk_9,hm⟩:=zk hm
  have hcut11:∀ s,k_9 s=some z→K11 [(5,.buf 1)] [.gone,.buf 30 13 (List.map za s)]:=by
   intro o1_19 hs
   have hm:=hk_9 _ hs
   clear hs
   try dsimp only at hm
   try dsimp only
   refine hK11 _ _ ?_
   refine qS ?_
   refine Wp.ret ?_
   refine zc ?_
   cases hm
   exact zn
  clear hK11 hk_9
  refine qS ?_
  refine Wp.block ?_
  refine Wp.adopt 5 30 13 rfl ?_
  simp only [go_sem,simprocAttr]
  obtain ⟨k_14,hk_14,hm⟩:=forC_cont hm
  refine Wp.factO 0 fun hl_11=>?_
  replace hl_11:r_2.length≤274877906944:=by
   simp only [go_sem,simprocAttr,List.length_map] at hl_11
   omega
  refine Wp.forC (fun i_3 s=>[(5,.buf 1),(18,.buf 0),(19,.p (.i .i64 (r_2.length:Int))),(20,.p (.i .i64 (i_3:Int)))]) (fun i_3 s=>[.buf 30 13 (List.map za r_2),.buf 30 13 (List.map za s)]) ?_ hm ?_
  ·
   exact zn
  clear hm
  intro i_3 o1_5 hii_3 hm
  try dsimp only at hm
  try dsimp only
  refine qS ?_
  refine Wp.seqW fun K15 hK15 hW15=>?_
  refine Wp.cond rfl ⟨⟩ (fun hc15=>?_) (fun hc15=>?_)
  rotate_left
  ·refine Wp.exit ?_
   have hm:=hk_14 _ (forC_end hm (zbc (by first | exact hc15 | simpa using hc15)))
   try dsimp only at hm
   refine hW11 _ _ _ _ ?_ (hcut11 o1_5 hm)
   exact zn
  have hlt15:=zbb (by first | exact hc15 | simpa using hc15)
  have hw15:=zR hlt15 hl_11
  obtain ⟨nx_12,hnx_12,hm⟩:=forC_step hm hlt15
  refine Wp.skip ?_
  simp only [zl]
  refine hK15 _ _ ?_
  refine Wp.seqW fun K16 hK16 hW16=>?_
  refine Wp.block ?_
  have hr_15:=fun h=>zJ (l:=r_2) (e:=za) (d:=(api_Record.mk 0 0 [] (api_Version.mk 0 0 0 []) (api_Version.mk 0 0 0 []) 0 [])) (i:=i_3) h []
  refine Wp.seqR fun K17 hK17=>?_
  simp only [go_sem,simprocAttr,hw15,hr_15 (by omega)]
  refine kA hK17 ?_
  obtain ⟨r_4,hr_4,hm⟩:=zb hm
  obtain ⟨r_7,hr_7,hm⟩:=z7 hm
  obtain ⟨c_16,hm⟩:=zf hm
  obtain ⟨r_6,hr_6,hm⟩:=z7 hm
  refine Wp.seqDW (plan:=(.rd 0 (.rd 1 (.rd 2 (.rd 3 (.rd 4 (.rd 6 (.fk 5 [6] (.ef 7 [4] (.ef 8 [] (.rd 9 (.rd 10 (.rd 11 .nil))))) 7 [4] (.ef 5 [6] (.ef 8 [] (.rd 9 (.rd 10 (.rd 11 .nil))))))))))))) (by kernel_rfl) rfl (by kernel_rfl) fun K18 hK18 hW18=>?_
  suffices hcont18:K18 [(5,.buf 1),(7,.ptr 2 0),(18,.buf 0),(19,.p (.i .i64 (r_2.length:Int))),(20,.p (.i .i64 (i_3:Int))),(21,.p (.b (decide ((i_3:Int) < (r_2.length:Int))))),(23,.agg [.p (.i .i64 ((r_2.getD i_3 (api_Record.mk 0 0 [] (api_Version.mk 0 0 0 []) (api_Version.mk 0 0 0 []) 0 [])).Time)),.p (.i .i64 ((r_2.getD i_3 (api_Record.mk 0 0 [] (api_Version.mk 0 0 0 []) (api_Version.mk 0 0 0 []) 0 [])).Kind)),.p (.s ((r_2.getD i_3 (api_Record.mk 0 0 [] (api_Version.mk 0 0 0 []) (api_Version.mk 0 0 0 []) 0 [])).Pack)),.p (.i .i64 (((r_2.getD i_3 (api_Record.mk 0 0 [] (api_Version.mk 0 0 0 []) (api_Version.mk 0 0 0 []) 0 [])).From).Major)),.p (.i .i64 (((r_2.getD i_3 (api_Record.mk 0 0 [] (api_Version.mk 0 0 0 []) (api_Version.mk 0 0 0 []) 0 [])).From).Minor)),.p (.i .i64 (((r_2.getD i_3 (api_Record.mk 0 0 [] (api_Version.mk 0 0 0 []) (api_Version.mk 0 0 0 []) 0 [])).From).Patch)),.p (.s (((r_2.getD i_3 (api_Record.mk 0 0 [] (api_Version.mk 0 0 0 []) (api_Version.mk 0 0 0 []) 0 [])).From).Early)),.p (.i .i64 (((r_2.getD i_3 (api_Record.mk 0 0 [] (api_Version.mk 0 0 0 []) (api_Version.mk 0 0 0 []) 0 [])).To).Major)),.p (.i .i64 (((r_2.getD i_3 (api_Record.mk 0 0 [] (api_Version.mk 0 0 0 []) (api_Version.mk 0 0 0 []) 0 [])).To).Minor)),.p (.i .i64 (((r_2.getD i_3 (api_Record.mk 0 0 [] (api_Version.mk 0 0 0 []) (api_Version.mk 0 0 0 []) 0 [])).To).Patch)),.p (.s (((r_2.getD i_3 (api_Record.mk 0 0 [] (api_Version.mk 0 0 0 []) (api_Version.mk 0 0 0 []) 0 [])).To).Early)),.p (.i .i64 ((r_2.getD i_3 (api_Record.mk 0 0 [] (api_Version.mk 0 0 0 []) (api_Version.mk 0 0 0 []) 0 [])).Result)),.p (.s ((r_2.getD i_3 (api_Record.mk 0 0 [] (api_Version.mk 0 0 0 []) (api_Version.mk 0 0 0 []) 0 [])).Note))]),(35,.p (.b ((decide (r_4=0)) && (decide (r_6=0)))))] [.buf 30 13 (List.map za r_2),.buf 30 13 (List.map za o1_5),.cells 30 [.p (.i .i64 ((r_2.getD i_3 (api_Record.mk 0 0 [] (api_Version.mk 0 0 0 []) (api_Version.mk 0 0 0 []) 0 [])).Time)),.p (.i .i64 ((r_2.getD i_3 (api_Record.mk 0 0 [] (api_Version.mk 0 0 0 []) (api_Version.mk 0 0 0 []) 0 [])).Kind)),.p (.s ((r_2.getD i_3 (api_Record.mk 0 0 [] (api_Version.mk 0 0 0 []) (api_Version.mk 0 0 0 []) 0 [])).Pack)),.p (.i .i64 (((r_2.getD i_3 (api_Record.mk 0 0 [] (api_Version.mk 0 0 0 []) (api_Version.mk 0 0 0 []) 0 [])).From).Major)),.p (.i .i64 (((r_2.getD i_3 (api_Record.mk 0 0 [] (api_Version.mk 0 0 0 []) (api_Version.mk 0 0 0 []) 0 [])).From).Minor)),.p (.i .i64 (((r_2.getD i_3 (api_Record.mk 0 0 [] (api_Version.mk 0 0 0 []) (api_Version.mk 0 0 0 []) 0 [])).From).Patch)),.p (.s (((r_2.getD i_3 (api_Record.mk 0 0 [] (api_Version.mk 0 0 0 []) (api_Version.mk 0 0 0 []) 0 [])).From).Early)),.p (.i .i64 (((r_2.getD i_3 (api_Record.mk 0 0 [] (api_Version.mk 0 0 0 []) (api_Version.mk 0 0 0 []) 0 [])).To).Major)),.p (.i .i64 (((r_2.getD i_3 (api_Record.mk 0 0 [] (api_Version.mk 0 0 0 []) (api_Version.mk 0 0 0 []) 0 [])).To).Minor)),.p (.i .i64 (((r_2.getD i_3 (api_Record.mk 0 0 [] (api_Version.mk 0 0 0 []) (api_Version.mk 0 0 0 []) 0 [])).To).Patch)),.p (.s (((r_2.getD i_3 (api_Record.mk 0 0 [] (api_Version.mk 0 0 0 []) (api_Version.mk 0 0 0 []) 0 [])).To).Early)),.p (.i .i64 ((r_2.getD i_3 (api_Record.mk 0 0 [] (api_Version.mk 0 0 0 []) (api_Version.mk 0 0 0 []) 0 [])).Result)),.p (.s ((r_2.getD i_3 (api_Record.mk 0 0 [] (api_Version.mk 0 0 0 []) (api_Version.mk 0 0 0 []) 0 [])).Note))]] by
   rcases Bool.eq_false_or_eq_true (decide (r_4=0)) with hg_1 | hg_1
   ·
    have c_17:=c_16 hg_1
    try dsimp only at c_17
    simp only [go_sem,simprocAttr,false_implies,and_true,true_and,bad,hw15,hg_1]
    try refine ⟨sL,?_⟩
    refine Dr.callF (av:=?av19) (g:=true) (o:=?o19) (fun hg=>zcd (r_2.getD i_3 (api_Record.mk 0 0 [] (api_Version.mk 0 0 0 []) (api_Version.mk 0 0 0 []) 0 [])) _ hr_4) (by simp only [go_sem,simprocAttr,false_implies,and_true,true_and,bad,hw15,hg_1]; exact Is.mk) (by simp only [go_sem,simprocAttr,false_implies,and_true,true_and,bad,hw15,hg_1]; exact Is.mk) (by simp only [go_sem,simprocAttr,false_implies,and_true,true_and,bad,hw15,hg_1]; exact Is.mk) (by simp only [go_sem,simprocAttr,false_implies,and_true,true_and,bad,hw15,hg_1]; exact Is.mk) (by simp only [go_sem,simprocAttr,false_implies,and_true,true_and,bad,hw15,hg_1]) (by simp only [go_sem,simprocAttr,false_implies,and_true,true_and,bad,hw15,hg_1]; exact Is.mk) ?cont19
    simp only [go_sem,simprocAttr,false_implies,and_true,true_and,bad,hw15,hg_1]
    try refine ⟨sL,?_⟩
    refine Dr.fk ?_ ?_
    ·
     refine id (Br.callLN (av:=?av20) (o:=?o20) (z8 o1_5 _ (hr_7 hg_1)) (zht (fun _=>rfl) _) (by simp only [go_sem,simprocAttr,false_implies,and_true,true_and,bad,hw15,hg_1]; exact Is.mk) (by simp only [go_sem,simprocAttr,false_implies,and_true,true_and,bad,hw15,hg_1]; exact Is.mk) (by simp only [go_sem,simprocAttr,false_implies,and_true,true_and,bad,hw15,hg_1]; exact Is.mk) (by simp only [go_sem,simprocAttr,false_implies,and_true,true_and,bad,hw15,hg_1]; exact Is.mk) (by simp only [go_sem,simprocAttr,false_implies,and_true,true_and,bad,hw15,hg_1]) (by simp only [go_sem,simprocAttr,false_implies,and_true,true_and,bad,hw15,hg_1]) ?cont20)
     simp only [go_sem,simprocAttr,false_implies,and_true,true_and,bad,hw15,hg_1]
     try refine ⟨sL,?_⟩
     refine Dr.callF (av:=?av21) (g:=decide (r_4=0)) (o:=?o21) (fun hg=>zev (r_7++[(r_2.getD i_3 (api_Record.mk 0 0 [] (api_Version.mk 0 0 0 []) (api_Version.mk 0 0 0 []) 0 []))]) _ (hr_6 hg)) (by simp only [go_sem,simprocAttr,false_implies,and_true,true_and,bad,hw15,hg_1]; exact Is.mk) (by simp only [go_sem,simprocAttr,false_implies,and_true,true_and,bad,hw15,hg_1]; exact Is.mk) (by simp only [go_sem,simprocAttr,false_implies,and_true,true_and,bad,hw15,hg_1]; exact Is.mk) (by simp only [go_sem,simprocAttr,false_implies,and_true,true_and,bad,hw15,hg_1,List.map_append,List.map_cons,List.map_nil]; exact Is.mk) (by simp only [go_sem,simprocAttr,false_implies,and_true,true_and,bad,hw15,hg_1]) (by simp only [go_sem,simprocAttr,false_implies,and_true,true_and,bad,hw15,hg_1]; exact Is.mk) ?cont21
     simp only [go_sem,simprocAttr,false_implies,and_true,true_and,bad,hw15,hg_1]
     first | refine hW18 _ _ _ _ ?_ hcont18 | refine ⟨sL,hW18 _ _ _ _ ?_ hcont18⟩
     simp only [go_sem,simprocAttr,false_implies,and_true,true_and,bad,hw15,hg_1]
     try exact se3
    ·
     refine Br.runT (o:=?o22) (gw:=?gw22) (by simp only [go_sem,simprocAttr,false_implies,and_true,true_and,bad,hw15,hg_1]; exact Is.mk) (by simp only [go_sem,simprocAttr,false_implies,and_true,true_and,bad,hw15,hg_1]; exact Is.mk) (by simp only [go_sem,simprocAttr,false_implies,and_true,true_and,bad,hw15,hg_1]; exact Is.mk) ?cont22
     simp only [go_sem,simprocAttr,false_implies,and_true,true_and,bad,hw15,hg_1]
     try refine ⟨sL,?_⟩
     refine Dr.of_br (Br.callLN (av:=?av23) (o:=?o23) (z8 o1_5 _ (hr_7 hg_1)) (zht (fun _=>rfl) _) (by simp only [go_sem,simprocAttr,false_implies,and_true,true_and,bad,hw15,hg_1]; exact Is.mk) (by simp only [go_sem,simprocAttr,false_implies,and_true,true_and,bad,hw15,hg_1]; exact Is.mk) (by simp only [go_sem,simprocAttr,false_implies,and_true,true_and,bad,hw15,hg_1]; exact Is.mk) (by simp only [go_sem,simprocAttr,false_implies,and_true,true_and,bad,hw15,hg_1]; exact Is.mk) (by simp only [go_sem,simprocAttr,false_implies,and_true,true_and,bad,hw15,hg_1]) (by simp only [go_sem,simprocAttr,false_implies,and_true,true_and,bad,hw15,hg_1]) ?cont23)
     simp only [go_sem,simprocAttr,false_implies,and_true,true_and,bad,hw15,hg_1]
     try refine ⟨sL,?_⟩
     refine Dr.callF (av:=?av24) (g:=decide (r_4=0)) (o:=?o24) (fun hg=>zev (r_7++[(r_2.getD i_3 (api_Record.mk 0 0 [] (api_Version.mk 0 0 0 []) (api_Version.mk 0 0 0 []) 0 []))]) _ (hr_6 hg)) (by simp only [go_sem,simprocAttr,false_implies,and_true,true_and,bad,hw15,hg_1]; exact Is.mk) (by simp only [go_sem,simprocAttr,false_implies,and_true,true_and,bad,hw15,hg_1]; exact Is.mk) (by simp only [go_sem,simprocAttr,false_implies,and_true,true_and,bad,hw15,hg_1]; exact Is.mk) (by simp only [go_sem,simprocAttr,false_implies,and_true,true_and,bad,hw15,hg_1,List.map_append,List.map_cons,List.map_nil]; exact Is.mk) (by simp only [go_sem,simprocAttr,false_implies,and_true,true_and,bad,hw15,hg_1]) (by simp only [go_sem,simprocAttr,false_implies,and_true,true_and,bad,hw15,hg_1]; exact Is.mk) ?cont24
     simp only [go_sem,simprocAttr,false_implies,and_true,true_and,bad,hw15,hg_1]
     first | refine hW18 _ _ _ _ ?_ hcont18 | refine ⟨sL,hW18 _ _ _ _ ?_ hcont18⟩
     simp only [go_sem,simprocAttr,false_implies,and_true,true_and,bad,hw15,hg_1]
     try exact se3
   ·
    simp only [go_sem,simprocAttr,false_implies,and_true,true_and,bad,hw15,hg_1]
    try refine ⟨sL,?_⟩
    refine Dr.callF (av:=?av25) (g:=true) (o:=?o25) (fun hg=>zcd (r_2.getD i_3 (api_Record.mk 0 0 [] (api_Version.mk 0 0 0 []) (api_Version.mk 0 0 0 []) 0 [])) _ hr_4) (by simp only [go_sem,simprocAttr,false_implies,and_true,true_and,bad,hw15,hg_1]; exact Is.mk) (by simp only [go_sem,simprocAttr,false_implies,and_true,true_and,bad,hw15,hg_1]; exact Is.mk) (by simp only [go_sem,simprocAttr,false_implies,and_true,true_and,bad,hw15,hg_1]; exact Is.mk) (by simp only [go_sem,simprocAttr,false_implies,and_true,true_and,bad,hw15,hg_1]; exact Is.mk) (by simp only [go_sem,simprocAttr,false_implies,and_true,true_and,bad,hw15,hg_1]) (by simp only [go_sem,simprocAttr,false_implies,and_true,true_and,bad,hw15,hg_1]; exact Is.mk) ?cont25
    simp only [go_sem,simprocAttr,false_implies,and_true,true_and,bad,hw15,hg_1]
    try refine ⟨sL,?_⟩
    refine Dr.fk ?_ ?_
    ·
     refine id (Br.skipG (o:=?o26) (v:=.top) (gw:=?gw26) (by simp only [go_sem,simprocAttr,false_implies,and_true,true_and,bad,hw15,hg_1]; exact Is.mk) (by simp only [go_sem,simprocAttr,false_implies,and_true,true_and,bad,hw15,hg_1]; exact Is.mk) (by simp only [go_sem,simprocAttr,false_implies,and_true,true_and,bad,hw15,hg_1]; exact Is.mk) (by simp only [go_sem,simprocAttr,false_implies,and_true,true_and,bad,hw15,hg_1]) ?cont26)
     simp only [go_sem,simprocAttr,false_implies,and_true,true_and,bad,hw15,hg_1]
     try refine ⟨sL,?_⟩
     refine Dr.skipG (o:=?o27) (v:=.p (.i .i64 r_6)) (gw:=?gw27) (by simp only [go_sem,simprocAttr,false_implies,and_true,true_and,bad,hw15,hg_1]; exact Is.mk) (by simp only [go_sem,simprocAttr,false_implies,and_true,true_and,bad,hw15,hg_1]; exact Is.mk) (by simp only [go_sem,simprocAttr,false_implies,and_true,true_and,bad,hw15,hg_1]; exact Is.mk) (by simp only [go_sem,simprocAttr,false_implies,and_true,true_and,bad,hw15,hg_1]) ?cont27
     simp only [go_sem,simprocAttr,false_implies,and_true,true_and,bad,hw15,hg_1]
     first | refine hW18 _ _ _ _ ?_ hcont18 | refine ⟨sL,hW18 _ _ _ _ ?_ hcont18⟩
     simp only [go_sem,simprocAttr,false_implies,and_true,true_and,bad,hw15,hg_1]
     try exact se3
    ·
     refine Br.skipG (o:=?o28) (v:=.top) (gw:=?gw28) (by simp only [go_sem,simprocAttr,false_implies,and_true,true_and,bad,hw15,hg_1]; exact Is.mk) (by simp only [go_sem,simprocAttr,false_implies,and_true,true_and,bad,hw15,hg_1]; exact Is.mk) (by simp only [go_sem,simprocAttr,false_implies,and_true,true_and,bad,hw15,hg_1]; exact Is.mk) (by simp only [go_sem,simprocAttr,false_implies,and_true,true_and,bad,hw15,hg_1]) ?cont28
     simp only [go_sem,simprocAttr,false_implies,and_true,true_and,bad,hw15,hg_1]
     try refine ⟨sL,?_⟩
     refine Dr.of_br (Br.skipG (o:=?o29) (v:=.top) (gw:=?gw29) (by simp only [go_sem,simprocAttr,false_implies,and_true,true_and,bad,hw15,hg_1]; exact Is.mk) (by simp only [go_sem,simprocAttr,false_implies,and_true,true_and,bad,hw15,hg_1]; exact Is.mk) (by simp only [go_sem,simprocAttr,false_implies,and_true,true_and,bad,hw15,hg_1]; exact Is.mk) (by simp only [go_sem,simprocAttr,false_implies,and_true,true_and,bad,hw15,hg_1]) ?cont29)
     simp only [go_sem,simprocAttr,false_implies,and_true,true_and,bad,hw15,hg_1]
     try refine ⟨sL,?_⟩
     refine Dr.skipG (o:=?o30) (v:=.p (.i .i64 r_6)) (gw:=?gw30) (by simp only [go_sem,simprocAttr,false_implies,and_true,true_and,bad,hw15,hg_1]; exact Is.mk) (by simp only [go_sem,simprocAttr,false_implies,and_true,true_and,bad,hw15,hg_1]; exact Is.mk) (by simp only [go_sem,simprocAttr,false_implies,and_true,true_and,bad,hw15,hg_1]; exact Is.mk) (by simp only [go_sem,simprocAttr,false_implies,and_true,true_and,bad,hw15,hg_1]) ?cont30
     simp only [go_sem,simprocAttr,false_implies,and_true,true_and,bad,hw15,hg_1]
     first | refine hW18 _ _ _ _ ?_ hcont18 | refine ⟨sL,hW18 _ _ _ _ ?_ hcont18⟩
     simp only [go_sem,simprocAttr,false_implies,and_true,true_and,bad,hw15,hg_1]
     try exact se3
  refine hK18 _ _ ?_
  refine cM hm (fun hc31 hm=>?_) (fun hc31 hm=>?_)
  ·obtain ⟨c_20,hm⟩:=zf hm
   refine Wp.region fun K32 hK32=>?_
   simp only [go_sem,simprocAttr,hw15]
   refine kA hK32 ?_
   refine hK16 _ _ ?_
   refine Wp.region fun K33 hK33=>?_
   simp only [go_sem,simprocAttr,hw15]
   refine kA hK33 ?_
   simp only [zl,zi,↓reduceIte]
   refine ⟨o1_5++[(r_2.getD i_3 (api_Record.mk 0 0 [] (api_Version.mk 0 0 0 []) (api_Version.mk 0 0 0 []) 0 []))],hlt15,hnx_12 _ hm,?_⟩
   simp only [go_sem,simprocAttr,hw15]
   try exact se3
  ·refine Wp.skip ?_
   refine hK16 _ _ ?_
   refine Wp.region fun K34 hK34=>?_
   simp only [go_sem,simprocAttr,hw15]
   refine kA hK34 ?_
   simp only [zl,zi,↓reduceIte]
   refine ⟨o1_5,hlt15,hnx_12 _ hm,?_⟩
   simp only [go_sem,simprocAttr,hw15]
   try exact se3
theorem zkU (text_3:Str) (z:List Str × Int) (hm:zdG text_3=some z):Does Tryz.prog 50 [.p (.s text_3)] [] (fun r X=>r=.tup [.p (.l (List.map ecS z.1)),.p (.i .i64 z.2)]∧X=[]):=by
 unfold zdG at hm
 refine dW 0 23 [.tmp 2,.tmp 3] Tryz.func50 fun B=>?_
 refine qS ?_
 obtain ⟨r_2,hr_2,hm⟩:=zb hm
 refine Wp.seqR fun K2 hK2=>?_
 simp only [go_sem,simprocAttr]
 try refine ⟨sd,?_⟩
 refine Rg.callF (av:=?av3) (zak text_3 ([10]:Str) _ hr_2) si si sg ?cont3
 intro hv3
 simp only [go_sem,simprocAttr]
 refine kA hK2 ?_
 refine Wp.seqW fun K4 hK4 hW4=>?_
 refine qS ?_
 obtain ⟨s_1,hbs_1,hxs_1,hys_1,hm⟩:=zZ hm
 replace hxs_1:∀ d,(List.map ecS r_2).getD ((IntKind.i64.wrap ((r_2.length:Int) - 1)).toNat) d=ecS s_1:=hxs_1 ecS
 refine Wp.seqR fun K6 hK6=>?_
 simp only [go_sem,simprocAttr,hxs_1]
 refine kA hK6 ?_
 refine cM hm (fun hc7 hm=>?_) (fun hc7 hm=>?_)
 ·obtain ⟨c_4,hm⟩:=zf hm
  refine Wp.seqR fun K8 hK8=>?_
  simp only [go_sem,simprocAttr,hxs_1]
  refine kA hK8 ?_
  refine Wp.ret ?_
  refine zc ?_
  cases hm
  simp only [go_sem,simprocAttr,hxs_1]
  try exact se3
 ·refine Wp.skip ?_
  refine hK4 _ _ ?_
  refine Wp.seqR fun K9 hK9=>?_
  simp only [go_sem,simprocAttr,hxs_1]
  refine kA hK9 ?_
  refine Wp.ret ?_
  refine zc ?_
  cases hm
  simp only [go_sem,simprocAttr,hxs_1]
  try exact se3
theorem zb0 (sep_2:Str) (z:Int × Int) (hm:zan sep_2=some z):Does Tryz.prog 124 [.p (.s sep_2)] [] (fun r X=>r=.tup [.p (.i .u32 z.1),.p (.i .u32 z.2)]∧X=[]):=by
 unfold zan at hm
 refine dW 0 40 [.tmp 2,.tmp 3] Tryz.func124 fun B=>?_
 refine qS ?_
 refine qS ?_
 refine Wp.seqW fun K3 hK3 hW3=>?_
 obtain ⟨k_4,hk_4,hm⟩:=zk hm
 have hcut3:∀ s,k_4 s=some z→K3 [(0,.p (.s sep_2)),(4,.p (.i .u32 s))] []:=by
  intro hash_7 hs
  have hm:=hk_4 _ hs
  clear hs
  try dsimp only at hm
  try dsimp only
  refine hK3 _ _ ?_
  refine qS ?_
  refine Wp.seqW fun K5 hK5 hW5=>?_
  obtain ⟨k_5,hk_5,hm⟩:=zk hm
  have hcut5:∀ s,k_5 s=some z→K5 [(4,.p (.i .u32 hash_7)),(6,.p (.i .u32 s))] []:=by
   intro pow_13 hs
   have hm:=hk_5 _ hs
   clear hs
   try dsimp only at hm
   try dsimp only
   refine hK5 _ _ ?_
   refine qS ?_
   refine Wp.ret ?_
   refine zc ?_
   cases hm
   exact zn
  clear hK5 hk_5
  refine qS ?_
  refine Wp.block ?_
  obtain ⟨k_8,hk_8,hm⟩:=zB hm
  refine Wp.loopN (fun s=>[(4,.p (.i .u32 hash_7)),(6,.p (.i .u32 s.1)),(7,.p (.i .u32 s.2.1)),(8,.p (.i .i64 s.2.2))]) (fun s=>[]) ?_ hm ?_
  ·
   exact zn
  clear hm
  intro s nx_14 hm
  obtain ⟨pow_6,sq_3,i_9⟩:=s
  try dsimp only at hm
  try dsimp only
  refine Wp.seqW fun K8 hK8 hW8=>?_
  refine qS ?_
  refine cM hm (fun hc10 hm=>?_) (fun hc10 hm=>?_)
  ·refine Wp.skip ?_
   refine hK8 _ _ ?_
   refine Wp.seqW fun K11 hK11 hW11=>?_
   refine Wp.block ?_
   refine Wp.seqW fun K12 hK12 hW12=>?_
   refine qS ?_
   refine cM hm (fun hc14 hm=>?_) (fun hc14 hm=>?_)
   ·refine qR ?_
    refine hK12 _ _ ?_
    refine qR ?_
    refine hK11 _ _ ?_
    refine qR ?_
    simp only [zl,zi,↓reduceIte]
    refine ⟨(IntKind.u32.wrap (pow_6 * sq_3),IntKind.u32.wrap (sq_3 * sq_3),Int.fdiv i_9 (2 ^ (shI .i64 1))),hm,?_⟩
    exact zn
   ·refine Wp.skip ?_
    refine hK12 _ _ ?_
    refine qR ?_
    refine hK11 _ _ ?_
    refine qR ?_
    simp only [zl,zi,↓reduceIte]
    refine ⟨(pow_6,IntKind.u32.wrap (sq_3 * sq_3),Int.fdiv i_9 (2 ^ (shI .i64 1))),hm,?_⟩
    exact zn
  ·refine Wp.exit ?_
   simp only [zl,zi,↓reduceIte]
   have hm:=hk_8 _ hm
   try dsimp only at hm
   refine hW5 _ _ _ _ ?_ (hcut5 pow_6 hm)
   exact zn
 clear hK3 hk_4
 refine qS ?_
 refine Wp.block ?_
 obtain ⟨k_10,hk_10,hm⟩:=zB hm
 refine Wp.loopN (fun s=>[(0,.p (.s sep_2)),(4,.p (.i .u32 s.1)),(5,.p (.i .i64 s.2))]) (fun s=>[]) ?_ hm ?_
 ·
  exact zn
 clear hm
 intro s nx_15 hm
 obtain ⟨hash_11,i_12⟩:=s
 try dsimp only at hm
 try dsimp only
 refine Wp.seqW fun K21 hK21 hW21=>?_
 refine qS ?_
 refine cM hm (fun hc23 hm=>?_) (fun hc23 hm=>?_)
 ·refine Wp.skip ?_
  refine hK21 _ _ ?_
  refine Wp.seqW fun K24 hK24 hW24=>?_
  refine Wp.block ?_
  obtain ⟨c_1,hbc_1,hxc_1,hm⟩:=zai hm
  replace hxc_1:((sep_2.getD i_12.toNat 0).toNat:Int)=c_1:=hxc_1
  refine Wp.region fun K25 hK25=>?_
  simp only [go_sem,simprocAttr,hxc_1]
  refine kA hK25 ?_
  refine hK24 _ _ ?_
  refine Wp.region fun K26 hK26=>?_
  simp only [go_sem,simprocAttr,hxc_1]
  refine kA hK26 ?_
  simp only [zl,zi,↓reduceIte]
  refine ⟨(IntKind.u32.wrap ((IntKind.u32.wrap (hash_11 * 16777619))+(IntKind.u32.wrap c_1)),IntKind.i64.wrap (i_12 - 1)),hm,?_⟩
  simp only [go_sem,simprocAttr,hxc_1]
  try exact se3
 ·refine Wp.exit ?_
  simp only [zl,zi,↓reduceIte]
  have hm:=hk_10 _ hm
  try dsimp only at hm
  refine hW3 _ _ _ _ ?_ (hcut3 hash_11 hm)
  exact zn
theorem zbj (s_4:Str) (sep_2:Str) (z:Int) (hm:zW s_4 sep_2=some z):Does Tryz.prog 92 [.p (.s s_4),.p (.s sep_2)] [] (fun r X=>r=.p (.i .i64 z)∧X=[]):=by
 unfold zW at hm
 refine dW 0 87 [.tmp 4] Tryz.func92 fun B=>?_
 refine qS ?_
 obtain ⟨r_5,hr_5,hm⟩:=zb hm
 refine Wp.seqR fun K2 hK2=>?_
 simp only [go_sem,simprocAttr]
 try refine ⟨sd,?_⟩
 refine Rg.callX (av:=?av3) (g:=true) (fun hg=>zb0 sep_2 _ hr_5) si si si sg si ?cont3
 intro hv3
 simp only [go_sem,simprocAttr]
 refine kA hK2 ?_
 refine qS ?_
 refine qS ?_
 refine qS ?_
 refine Wp.seqW fun K7 hK7 hW7=>?_
 obtain ⟨k_7,hk_7,hm⟩:=zk hm
 have hcut7:∀ s,k_7 s=some z→K7 [(0,.p (.s s_4)),(1,.p (.s sep_2)),(5,.p (.i .u32 r_5.1)),(6,.p (.i .u32 r_5.2)),(7,.p (.i .i64 (sep_2.length:Int))),(8,.p (.i .i64 (IntKind.i64.wrap ((s_4.length:Int) - (sep_2.length:Int))))),(9,.p (.i .u32 s))] []:=by
  intro h_15 hs
  have hm:=hk_7 _ hs
  clear hs
  try dsimp only at hm
  try dsimp only
  refine hK7 _ _ ?_
  refine Wp.seqW fun K8 hK8 hW8=>?_
  obtain ⟨c_16,hm⟩:=zf hm
  refine Wp.seqR fun K9 hK9=>?_
  simp only [go_sem,simprocAttr]
  refine kA hK9 ?_
  refine cM hm (fun hc10 hm=>?_) (fun hc10 hm=>?_)
  ·refine qS ?_
   refine Wp.ret ?_
   refine zc ?_
   cases hm
   exact zn
  ·refine Wp.skip ?_
   refine hK8 _ _ ?_
   refine Wp.seqW fun K12 hK12 hW12=>?_
   obtain ⟨k_8,hk_8,hm⟩:=zk hm
   have hcut12:∀ s,k_8 s=some z→K12 [] []:=by
    intro s hs
    have hm:=hk_8 _ hs
    clear hs
    try dsimp only at hm
    try dsimp only
    refine hK12 _ _ ?_
    refine qS ?_
    refine Wp.ret ?_
    refine zc ?_
    cases hm
    exact zn
   clear hK12 hk_8
   refine qS ?_
   refine Wp.block ?_
   obtain ⟨k_10,hk_10,hm⟩:=zB hm
   refine Wp.loopN (fun s=>[(0,.p (.s s_4)),(1,.p (.s sep_2)),(5,.p (.i .u32 r_5.1)),(6,.p (.i .u32 r_5.2)),(7,.p (.i .i64 (sep_2.length:Int))),(9,.p (.i .u32 s.1)),(11,.p (.i .i64 s.2))]) (fun s=>[]) ?_ hm ?_
   ·
    exact zn
   clear hm
   intro s nx_17 hm
   obtain ⟨h_14,i_9⟩:=s
   try dsimp only at hm
   try dsimp only
   refine Wp.seqW fun K15 hK15 hW15=>?_
   refine qS ?_
   refine cM hm (fun hc17 hm=>?_) (fun hc17 hm=>?_)
   ·refine Wp.skip ?_
    refine hK15 _ _ ?_
    refine Wp.seqW fun K18 hK18 hW18=>?_
    refine Wp.block ?_
    refine qS ?_
    obtain ⟨c_1,hbc_1,hxc_1,hm⟩:=zai hm
    replace hxc_1:((s_4.getD i_9.toNat 0).toNat:Int)=c_1:=hxc_1
    refine Wp.seqR fun K20 hK20=>?_
    simp only [go_sem,simprocAttr,hxc_1]
    refine kA hK20 ?_
    obtain ⟨c_3,hbc_3,hxc_3,hm⟩:=zai hm
    replace hxc_3:((s_4.getD ((IntKind.i64.wrap (i_9+(sep_2.length:Int))).toNat) 0).toNat:Int)=c_3:=hxc_3
    refine Wp.seqR fun K21 hK21=>?_
    simp only [go_sem,simprocAttr,hxc_1,hxc_3]
    refine kA hK21 ?_
    obtain ⟨c_18,hm⟩:=zf hm
    refine Wp.seqR fun K22 hK22=>?_
    simp only [go_sem,simprocAttr,hxc_1,hxc_3]
    refine kA hK22 ?_
    refine cM hm (fun hc23 hm=>?_) (fun hc23 hm=>?_)
    ·refine Wp.seqR fun K24 hK24=>?_
     simp only [go_sem,simprocAttr,hxc_1,hxc_3]
     refine kA hK24 ?_
     refine Wp.ret ?_
     refine zc ?_
     cases hm
     simp only [go_sem,simprocAttr,hxc_1,hxc_3]
     try exact se3
    ·refine Wp.skip ?_
     refine hK18 _ _ ?_
     refine Wp.region fun K25 hK25=>?_
     simp only [go_sem,simprocAttr,hxc_1,hxc_3]
     refine kA hK25 ?_
     simp only [zl,zi,↓reduceIte]
     refine ⟨(IntKind.u32.wrap ((IntKind.u32.wrap ((IntKind.u32.wrap (h_14 * 16777619))+(IntKind.u32.wrap c_1))) - (IntKind.u32.wrap (r_5.2 * (IntKind.u32.wrap c_3)))),IntKind.i64.wrap (i_9 - 1)),hm,?_⟩
     simp only [go_sem,simprocAttr,hxc_1,hxc_3]
     try exact se3
   ·refine Wp.exit ?_
    simp only [zl,zi,↓reduceIte]
    have hm:=hk_10 _ hm
    try dsimp only at hm
    refine hW12 _ _ _ _ ?_ (hcut12 () hm)
    exact zn
 clear hK7 hk_7
 refine qS ?_
 refine Wp.block ?_
 obtain ⟨k_11,hk_11,hm⟩:=zB hm
 refine Wp.loopN (fun s=>[(0,.p (.s s_4)),(1,.p (.s sep_2)),(5,.p (.i .u32 r_5.1)),(6,.p (.i .u32 r_5.2)),(7,.p (.i .i64 (sep_2.length:Int))),(8,.p (.i .i64 (IntKind.i64.wrap ((s_4.length:Int) - (sep_2.length:Int))))),(9,.p (.i .u32 s.1)),(10,.p (.i .i64 s.2))]) (fun s=>[]) ?_ hm ?_
 ·
  exact zn
 clear hm
 intro s nx_19 hm
 obtain ⟨h_12,i_13⟩:=s
 try dsimp only at hm
 try dsimp only
 refine Wp.seqW fun K27 hK27 hW27=>?_
 refine qS ?_
 refine cM hm (fun hc29 hm=>?_) (fun hc29 hm=>?_)
 ·refine Wp.skip ?_
  refine hK27 _ _ ?_
  refine Wp.seqW fun K30 hK30 hW30=>?_
  refine Wp.block ?_
  obtain ⟨c_6,hbc_6,hxc_6,hm⟩:=zai hm
  replace hxc_6:((s_4.getD i_13.toNat 0).toNat:Int)=c_6:=hxc_6
  refine Wp.region fun K31 hK31=>?_
  simp only [go_sem,simprocAttr,hxc_6]
  refine kA hK31 ?_
  refine hK30 _ _ ?_
  refine Wp.region fun K32 hK32=>?_
  simp only [go_sem,simprocAttr,hxc_6]
  refine kA hK32 ?_
  simp only [zl,zi,↓reduceIte]
  refine ⟨(IntKind.u32.wrap ((IntKind.u32.wrap (h_12 * 16777619))+(IntKind.u32.wrap c_6)),IntKind.i64.wrap (i_13 - 1)),hm,?_⟩
  simp only [go_sem,simprocAttr,hxc_6]
  try exact se3
 ·refine Wp.exit ?_
  simp only [zl,zi,↓reduceIte]
  have hm:=hk_11 _ hm
  try dsimp only at hm
  refine hW7 _ _ _ _ ?_ (hcut7 h_12 hm)
  exact zn
theorem zfT (s_2:Str) (substr_3:Str) (z:Int) (hm:zbf s_2 substr_3=some z):Does Tryz.prog 51 [.p (.s s_2),.p (.s substr_3)] [] (fun r X=>r=.p (.i .i64 z)∧X=[]):=by
 unfold zbf at hm
 refine dW 0 36 [.tmp 4] Tryz.func51 fun B=>?_
 refine qS ?_
 refine qS ?_
 refine Wp.seqW fun K3 hK3 hW3=>?_
 refine Wp.block ?_
 refine qS ?_
 refine cM hm (fun hc5 hm=>?_) (fun hc5 hm=>?_)
 ·refine qS ?_
  refine Wp.ret ?_
  refine zc ?_
  cases hm
  exact zn
 ·refine qS ?_
  refine cM hm (fun hc8 hm=>?_) (fun hc8 hm=>?_)
  ·obtain ⟨c_1,hbc_1,hxc_1,hm⟩:=zai hm
   replace hxc_1:((substr_3.getD 0 0).toNat:Int)=c_1:=hxc_1
   obtain ⟨r_4,hr_4,hm⟩:=zb hm
   refine Wp.seqR fun K9 hK9=>?_
   simp only [go_sem,simprocAttr,hxc_1]
   try refine ⟨sd,?_⟩
   refine Rg.callX (av:=?av10) (g:=true) (fun hg=>zaF s_2 c_1 _ hr_4) (by simp only [go_sem,simprocAttr,hxc_1]; exact Is.mk) (by simp only [go_sem,simprocAttr,hxc_1]; exact Is.mk) (by simp only [go_sem,simprocAttr,hxc_1]; exact Is.mk) (by simp only [go_sem,simprocAttr,hxc_1]) (by simp only [go_sem,simprocAttr,hxc_1]; exact Is.mk) ?cont10
   intro hv10
   simp only [go_sem,simprocAttr,hxc_1]
   refine kA hK9 ?_
   refine Wp.ret ?_
   refine zc ?_
   cases hm
   simp only [go_sem,simprocAttr,hxc_1]
   try exact se3
  ·refine qS ?_
   refine cM hm (fun hc12 hm=>?_) (fun hc12 hm=>?_)
   ·refine Wp.seqW fun K13 hK13 hW13=>?_
    refine qS ?_
    refine cM hm (fun hc15 hm=>?_) (fun hc15 hm=>?_)
    ·refine qS ?_
     refine Wp.ret ?_
     refine zc ?_
     cases hm
     exact zn
    ·refine Wp.skip ?_
     refine hK13 _ _ ?_
     refine qS ?_
     refine Wp.ret ?_
     refine zc ?_
     cases hm
     exact zn
   ·refine qS ?_
    refine cM hm (fun hc19 hm=>?_) (fun hc19 hm=>?_)
    ·refine qS ?_
     refine Wp.ret ?_
     refine zc ?_
     cases hm
     exact zn
    ·refine Wp.skip ?_
     refine hK3 _ _ ?_
     obtain ⟨r_5,hr_5,hm⟩:=zb hm
     refine Wp.seqR fun K21 hK21=>?_
     simp only [go_sem,simprocAttr]
     try refine ⟨sd,?_⟩
     refine Rg.callX (av:=?av22) (g:=true) (fun hg=>zbj s_2 substr_3 _ hr_5) si si si sg si ?cont22
     intro hv22
     simp only [go_sem,simprocAttr]
     refine kA hK21 ?_
     refine Wp.ret ?_
     refine zc ?_
     cases hm
     exact zn
theorem zcX (e_1:Int) (z:api_Record × Int) (hm:zbB e_1=some z):Does Tryz.prog 93 [.p (.i .i64 e_1)] [] (fun r X=>r=.tup [.agg [.p (.i .i64 z.1.Time),.p (.i .i64 z.1.Kind),.p (.s z.1.Pack),.p (.i .i64 z.1.From.Major),.p (.i .i64 z.1.From.Minor),.p (.i .i64 z.1.From.Patch),.p (.s z.1.From.Early),.p (.i .i64 z.1.To.Major),.p (.i .i64 z.1.To.Minor),.p (.i .i64 z.1.To.Patch),.p (.s z.1.To.Early),.p (.i .i64 z.1.Result),.p (.s z.1.Note)],.p (.i .i64 z.2)]∧X=[]):=by
 unfold zbB at hm
 refine dW 0 6 [.cell 2 30,.tmp 3] Tryz.func93 fun B=>?_
 refine qS ?_
 refine qS ?_
 refine Wp.ret ?_
 refine zc ?_
 cases hm
 exact zn
theorem zex (s_2:Str) (z:Int) (hm:zaq s_2=some z):Does Tryz.prog 94 [.p (.s s_2)] [] (fun r X=>r=.p (.i .i64 z)∧X=[]):=by
 unfold zaq at hm
 refine dW 0 28 [.tmp 2] Tryz.func94 fun B=>?_
 refine qS ?_
 obtain ⟨r_1,hr_1,hm⟩:=zb hm
 refine Wp.seqR fun K2 hK2=>?_
 simp only [go_sem,simprocAttr]
 try refine ⟨sd,?_⟩
 refine Rg.callF (av:=?av3) (zbi s_2 _ hr_1) si si sg ?cont3
 intro hv3
 simp only [go_sem,simprocAttr]
 refine kA hK2 ?_
 refine Wp.seqW fun K4 hK4 hW4=>?_
 obtain ⟨r_3,hr_3,hm⟩:=z7 hm
 refine Wp.seqR fun K5 hK5=>?_
 simp only [go_sem,simprocAttr]
 try refine ⟨sd,?_⟩
 refine Rg.callX (av:=?av6) (g:=!(!r_1.2)) (fun hg=>zac r_1.1 _ (hr_3 hg)) si si si sg si ?cont6
 intro hv6
 simp only [go_sem,simprocAttr]
 refine kA hK5 ?_
 refine cM hm (fun hc7 hm=>?_) (fun hc7 hm=>?_)
 ·refine qS ?_
  refine Wp.ret ?_
  refine zc ?_
  cases hm
  exact zn
 ·refine Wp.skip ?_
  refine hK4 _ _ ?_
  refine qS ?_
  refine Wp.ret ?_
  refine zc ?_
  cases hm
  exact zn
theorem zdg (s_2:List Str) (v_5:Str) (z:Int) (hm:zP s_2 v_5=some z):Does Tryz.prog 95 [.p (.l (List.map ecS s_2)),.p (.s v_5)] [] (fun r X=>r=.p (.i .i64 z)∧X=[]):=by
 unfold zP at hm
 refine dW 0 19 [.tmp 4] Tryz.func95 fun B=>?_
 refine qS ?_
 refine Wp.seqW fun K2 hK2 hW2=>?_
 obtain ⟨k_3,hk_3,hm⟩:=zk hm
 have hcut2:∀ s,k_3 s=some z→K2 [] []:=by
  intro s hs
  have hm:=hk_3 _ hs
  clear hs
  try dsimp only at hm
  try dsimp only
  refine hK2 _ _ ?_
  refine qS ?_
  refine Wp.ret ?_
  refine zc ?_
  cases hm
  exact zn
 clear hK2 hk_3
 refine qS ?_
 refine Wp.block ?_
 obtain ⟨k_7,hk_7,hm⟩:=zT hm
 refine Wp.fact 0 fun hl_6=>?_
 replace hl_6:s_2.length≤274877906944:=by
  simp only [go_sem,simprocAttr,List.length_map] at hl_6
  omega
 refine Wp.forL (fun i_4 s=>[(0,.p (.l (List.map ecS s_2))),(1,.p (.s v_5)),(7,.p (.i .i64 (s_2.length:Int))),(8,.p (.i .i64 (i_4:Int)))]) (fun i_4 s=>[]) ?_ hm ?_
 ·
  exact zn
 clear hm
 intro i_4 s hii_4 hm
 try dsimp only at hm
 try dsimp only
 refine qS ?_
 refine Wp.seqW fun K6 hK6 hW6=>?_
 refine Wp.cond rfl ⟨⟩ (fun hc6=>?_) (fun hc6=>?_)
 rotate_left
 ·refine Wp.exit ?_
  have hm:=hk_7 _ (zaf hm (zbc (by first | exact hc6 | simpa using hc6)))
  try dsimp only at hm
  refine hW2 _ _ _ _ ?_ (hcut2 () hm)
  exact zn
 have hlt6:=zbb (by first | exact hc6 | simpa using hc6)
 have hw6:=zR hlt6 hl_6
 obtain ⟨s_1,nx_8,hxs_1,hys_1,hnx_8,hm⟩:=zS hm hlt6
 replace hxs_1:=hxs_1 ecS
 refine Wp.skip ?_
 simp only [zl]
 refine hK6 _ _ ?_
 refine Wp.seqW fun K7 hK7 hW7=>?_
 refine Wp.block ?_
 refine Wp.seqR fun K8 hK8=>?_
 simp only [go_sem,simprocAttr,hw6,hxs_1]
 refine kA hK8 ?_
 refine Wp.seqR fun K9 hK9=>?_
 simp only [go_sem,simprocAttr,hw6,hxs_1]
 refine kA hK9 ?_
 refine cM hm (fun hc10 hm=>?_) (fun hc10 hm=>?_)
 ·refine Wp.seqR fun K11 hK11=>?_
  simp only [go_sem,simprocAttr,hw6,hxs_1]
  refine kA hK11 ?_
  refine Wp.ret ?_
  refine zc ?_
  cases hm
  simp only [go_sem,simprocAttr,hw6,hxs_1]
  try exact se3
 ·refine Wp.skip ?_
  refine hK7 _ _ ?_
  refine Wp.region fun K12 hK12=>?_
  simp only [go_sem,simprocAttr,hw6,hxs_1]
  refine kA hK12 ?_
  simp only [zl,zi,↓reduceIte]
  refine ⟨(),hlt6,hnx_8 _ hm,?_⟩
  simp only [go_sem,simprocAttr,hw6,hxs_1]
  try exact se3
end Go.Proofs.YtmnohdgjkcjdeaaGreatDoor
