/- That the code does what the models say (part 10). -/
import Derived.Test.YtmnohdgjkcjdeaaGreatDoorLoWk0
import Derived.Test.YtmnohdgjkcjdeaaGreatDoorLoWk1
import Derived.Test.YtmnohdgjkcjdeaaGreatDoorLoWk2
import Derived.Test.YtmnohdgjkcjdeaaGreatDoorLoWk3
import Derived.Test.YtmnohdgjkcjdeaaGreatDoorLoWk6
import Derived.Test.YtmnohdgjkcjdeaaGreatDoorLoWk8
import Derived.Test.YtmnohdgjkcjdeaaGreatDoorLoWk9
set_option linter.unusedSimpArgs false
set_option linter.unusedVariables false
open Go.Proofs Go.Shelf
namespace Go.Proofs.YtmnohdgjkcjdeaaGreatDoor
open Go.Vc Go.Md
set_option maxRecDepth 100000
set_option maxHeartbeats 4000000
theorem zbU (n_1:Int) (o0_2:List api_Record) (z:List api_Record) (hm:zY n_1 o0_2=some z):Does Tryz.prog 91 [.buf 0,.p (.i .i64 n_1),.fn 49 []] [.fx 30 13 (List.map za o0_2)] (fun r X=>r=.tup []∧X=[.fx 30 13 (List.map za z)]):=by
 unfold zY at hm
 refine dW 1 63 [] Tryz.func91 fun B=>?_
 refine qS ?_
 refine qS ?_
 refine Wp.seqW fun K3 hK3 hW3=>?_
 obtain ⟨k_116,hk_116,hm⟩:=zl hm
 have hcut3:∀ s,k_116 s=some z→K3 [(0,.buf 0),(1,.p (.i .i64 n_1)),(2,.fn 49 []),(6,.p (.i .i64 20)),(7,.p (.i .i64 s.1))] [.fx 30 13 (List.map za s.2)]:=by
  intro s hs
  have hm:=hk_116 _ hs
  clear hs
  obtain ⟨a_114,o0_115⟩:=s
  try dsimp only at hm
  try dsimp only
  refine hK3 _ _ ?_
  obtain ⟨r_117,hr_117,hm⟩:=zb hm
  refine Wp.seqR fun K4 hK4=>?_
  simp only [go_sem,simprocAttr]
  try refine ⟨sd,?_⟩
  refine Rg.callO (av:=?av5) [0] (zao a_114 n_1 o0_115 _ hr_117) si si si sg sg ?cont5
  rintro _ _ ⟨rfl,rfl⟩ hv5
  simp only [go_sem,simprocAttr]
  refine kA hK4 ?_
  refine Wp.block ?_
  obtain ⟨k_169,hk_169,hm⟩:=zF hm
  refine Wp.loopN (fun s=>[(0,.buf 0),(1,.p (.i .i64 n_1)),(2,.fn 49 []),(6,.p (.i .i64 s.1))]) (fun s=>[.fx 30 13 (List.map za s.2)]) ?_ hm ?_
  ·
   exact zm
  clear hm
  intro s nx_170 hm
  obtain ⟨blockSize_143,o0_144⟩:=s
  try dsimp only at hm
  try dsimp only
  refine Wp.seqW fun K6 hK6 hW6=>?_
  refine qS ?_
  refine cM hm (fun hc8 hm=>?_) (fun hc8 hm=>?_)
  ·refine Wp.skip ?_
   refine hK6 _ _ ?_
   refine Wp.block ?_
   refine qS ?_
   refine Wp.seqW fun K10 hK10 hW10=>?_
   obtain ⟨k_183,hk_183,hm⟩:=zl hm
   have hcut10:∀ s,k_183 s=some z→K10 [(0,.buf 0),(1,.p (.i .i64 n_1)),(2,.fn 49 []),(6,.p (.i .i64 blockSize_143)),(7,.p (.i .i64 s.1))] [.fx 30 13 (List.map za s.2)]:=by
    intro s hs
    have hm:=hk_183 _ hs
    clear hs
    obtain ⟨a_181,o0_182⟩:=s
    try dsimp only at hm
    try dsimp only
    refine hK10 _ _ ?_
    refine Wp.seqW fun K11 hK11 hW11=>?_
    refine qS ?_
    refine qS ?_
    refine cM hm (fun hc14 hm=>?_) (fun hc14 hm=>?_)
    ·obtain ⟨r_184,hr_184,hm⟩:=zb hm
     refine Wp.region fun K15 hK15=>?_
     simp only [go_sem,simprocAttr]
     try refine ⟨sd,?_⟩
     refine Rg.callO (av:=?av16) [0] (zaD zdd a_181 (IntKind.i64.wrap (a_181+blockSize_143)) n_1 o0_182 _ hr_184) si si si sg sg ?cont16
     rintro _ _ ⟨rfl,rfl⟩ hv16
     simp only [go_sem,simprocAttr]
     refine kA hK15 ?_
     refine hK11 _ _ ?_
     refine qR ?_
     simp only [zk,zi,↓reduceIte]
     refine ⟨(IntKind.i64.wrap (blockSize_143 * 2),r_184),hm,?_⟩
     exact zm
    ·refine Wp.skip ?_
     refine hK11 _ _ ?_
     refine qR ?_
     simp only [zk,zi,↓reduceIte]
     refine ⟨(IntKind.i64.wrap (blockSize_143 * 2),o0_182),hm,?_⟩
     exact zm
   clear hK10 hk_183
   refine Wp.block ?_
   obtain ⟨k_192,hk_192,hm⟩:=zF hm
   refine Wp.loopN (fun s=>[(0,.buf 0),(1,.p (.i .i64 n_1)),(2,.fn 49 []),(6,.p (.i .i64 blockSize_143)),(7,.p (.i .i64 s.1)),(8,.p (.i .i64 s.2.1))]) (fun s=>[.fx 30 13 (List.map za s.2.2)]) ?_ hm ?_
   ·
    exact zm
   clear hm
   intro s nx_193 hm
   obtain ⟨a_188,b_189,o0_190⟩:=s
   try dsimp only at hm
   try dsimp only
   refine Wp.seqW fun K19 hK19 hW19=>?_
   refine qS ?_
   refine cM hm (fun hc21 hm=>?_) (fun hc21 hm=>?_)
   ·refine Wp.skip ?_
    refine hK19 _ _ ?_
    refine Wp.block ?_
    obtain ⟨r_194,hr_194,hm⟩:=zb hm
    refine Wp.seqR fun K22 hK22=>?_
    simp only [go_sem,simprocAttr]
    try refine ⟨sd,?_⟩
    refine Rg.callO (av:=?av23) [0] (zaD zdd a_188 (IntKind.i64.wrap (a_188+blockSize_143)) b_189 o0_190 _ hr_194) si si si sg sg ?cont23
    rintro _ _ ⟨rfl,rfl⟩ hv23
    simp only [go_sem,simprocAttr]
    refine kA hK22 ?_
    refine qS ?_
    refine qR ?_
    simp only [zk,zi,↓reduceIte]
    refine ⟨(b_189,IntKind.i64.wrap (b_189+(IntKind.i64.wrap (2 * blockSize_143))),r_194),hm,?_⟩
    exact zm
   ·refine Wp.exit ?_
    simp only [zk,zi,↓reduceIte]
    have hm:=hk_192 _ hm
    try dsimp only at hm
    refine hW10 _ _ _ _ ?_ (hcut10 (a_188,o0_190) hm)
    exact zm
  ·refine Wp.exit ?_
   simp only [zk,zi,↓reduceIte]
   have hm:=hk_169 _ hm
   try dsimp only at hm
   refine zaJ ?_
   cases hm
   exact zm
 clear hK3 hk_116
 refine Wp.block ?_
 obtain ⟨k_202,hk_202,hm⟩:=zF hm
 refine Wp.loopN (fun s=>[(0,.buf 0),(1,.p (.i .i64 n_1)),(2,.fn 49 []),(6,.p (.i .i64 20)),(7,.p (.i .i64 s.1)),(8,.p (.i .i64 s.2.1))]) (fun s=>[.fx 30 13 (List.map za s.2.2)]) ?_ hm ?_
 ·
  exact zm
 clear hm
 intro s nx_203 hm
 obtain ⟨a_198,b_199,o0_200⟩:=s
 try dsimp only at hm
 try dsimp only
 refine Wp.seqW fun K26 hK26 hW26=>?_
 refine qS ?_
 refine cM hm (fun hc28 hm=>?_) (fun hc28 hm=>?_)
 ·refine Wp.skip ?_
  refine hK26 _ _ ?_
  refine Wp.block ?_
  obtain ⟨r_204,hr_204,hm⟩:=zb hm
  refine Wp.seqR fun K29 hK29=>?_
  simp only [go_sem,simprocAttr]
  try refine ⟨sd,?_⟩
  refine Rg.callO (av:=?av30) [0] (zao a_198 b_199 o0_200 _ hr_204) si si si sg sg ?cont30
  rintro _ _ ⟨rfl,rfl⟩ hv30
  simp only [go_sem,simprocAttr]
  refine kA hK29 ?_
  refine qS ?_
  refine qR ?_
  simp only [zk,zi,↓reduceIte]
  refine ⟨(b_199,IntKind.i64.wrap (b_199+20),r_204),hm,?_⟩
  exact zm
 ·refine Wp.exit ?_
  simp only [zk,zi,↓reduceIte]
  have hm:=hk_202 _ hm
  try dsimp only at hm
  refine hW3 _ _ _ _ ?_ (hcut3 (a_198,o0_200) hm)
  exact zm
theorem zaZ (o0_1:List api_Record) (z:List api_Record) (hm:zp o0_1=some z):Does Tryz.prog 48 [.buf 0,.fn 49 []] [.fx 30 13 (List.map za o0_1)] (fun r X=>r=.tup []∧X=[.fx 30 13 (List.map za z)]):=by
 unfold zp at hm
 refine dW 1 9 [] Tryz.func48 fun B=>?_
 obtain ⟨r_3,hr_3,hm⟩:=zb hm
 refine Wp.region fun K1 hK1=>?_
 simp only [go_sem,simprocAttr]
 try refine ⟨sd,?_⟩
 refine Rg.callO (av:=?av2) [0] (zbU (o0_1.length:Int) o0_1 _ hr_3) si si si sg sg ?cont2
 rintro _ _ ⟨rfl,rfl⟩ hv2
 simp only [go_sem,simprocAttr]
 refine kA hK1 ?_
 refine zaJ ?_
 cases hm
 exact zm
theorem ok_Law_could (l_1:List api_Record) (raw_2:Bool) (z:List api_Record) (hm:Law_could l_1 raw_2=some z):Does Tryz.prog 19 [.p (.l (List.map za l_1)),.p (.b raw_2)] [] (fun r X=>r=.p (.l (List.map za z))∧X=[]):=by
 unfold Law_could at hm
 refine dW 0 42 [.tmp 4] Tryz.func19 fun B=>?_
 refine qS ?_
 refine Wp.seqW fun K2 hK2 hW2=>?_
 refine qS ?_
 refine cM hm (fun hc4 hm=>?_) (fun hc4 hm=>?_)
 ·refine qS ?_
  refine Wp.ret ?_
  refine zc ?_
  cases hm
  exact zm
 ·refine Wp.skip ?_
  refine hK2 _ _ ?_
  obtain ⟨c_3,hm⟩:=zf hm
  obtain ⟨r_4,hr_4,hm⟩:=zb hm
  refine Wp.seqR fun K6 hK6=>?_
  simp only [go_sem,simprocAttr]
  try refine ⟨sL,?_⟩
  refine Rg.callO (av:=?av7) [] (z6 (List.take ((min (l_1.length:Int) 60).toNat) l_1) _ hr_4) si si si sg sg ?cont7
  rintro _ _ ⟨rfl,rfl⟩ hv7
  simp only [go_sem,simprocAttr]
  refine kA hK6 ?_
  refine Wp.toFix 0 (by simp only [go_sem,simprocAttr]; exact Is.mk) (by simp only [go_sem,simprocAttr]) ?_
  simp only [go_sem,simprocAttr]
  obtain ⟨r_5,hr_5,hm⟩:=zb hm
  refine Wp.seqR fun K8 hK8=>?_
  simp only [go_sem,simprocAttr]
  try refine ⟨sd,?_⟩
  refine Rg.callO (av:=?av9) [0] (zaZ r_4 _ hr_5) si si si sg sg ?cont9
  rintro _ _ ⟨rfl,rfl⟩ hv9
  simp only [go_sem,simprocAttr]
  refine kA hK8 ?_
  refine Wp.toBuf 0 (by simp only [go_sem,simprocAttr]; exact Is.mk) (by simp only [go_sem,simprocAttr]) ?_
  simp only [go_sem,simprocAttr]
  refine qS ?_
  refine Wp.seqW fun K11 hK11 hW11=>?_
  obtain ⟨k_43,hk_43,hm⟩:=zl hm
  have hcut11:∀ s,k_43 s=some z→K11 [(5,.buf 1)] [.gone,.buf 30 13 (List.map za s)]:=by
   intro o1_42 hs
   have hm:=hk_43 _ hs
   clear hs
   try dsimp only at hm
   try dsimp only
   refine hK11 _ _ ?_
   refine qS ?_
   refine Wp.ret ?_
   refine zc ?_
   cases hm
   exact zm
  clear hK11 hk_43
  refine qS ?_
  refine Wp.block ?_
  refine Wp.adopt 5 30 13 rfl ?_
  simp only [go_sem,simprocAttr]
  obtain ⟨k_65,hk_65,hm⟩:=forC_cont hm
  refine Wp.factO 0 fun hl_68=>?_
  replace hl_68:r_5.length≤274877906944:=by
   simp only [go_sem,simprocAttr,List.length_map] at hl_68
   omega
  refine Wp.forC (fun i_67 s=>[(5,.buf 1),(18,.buf 0),(19,.p (.i .i64 (r_5.length:Int))),(20,.p (.i .i64 (i_67:Int)))]) (fun i_67 s=>[.buf 30 13 (List.map za r_5),.buf 30 13 (List.map za s)]) ?_ hm ?_
  ·
   exact zm
  clear hm
  intro i_67 o1_55 hii_67 hm
  try dsimp only at hm
  try dsimp only
  refine qS ?_
  refine Wp.seqW fun K15 hK15 hW15=>?_
  refine Wp.cond rfl ⟨⟩ (fun hc15=>?_) (fun hc15=>?_)
  rotate_left
  ·refine Wp.exit ?_
   have hm:=hk_65 _ (forC_end hm (zbd (by first | exact hc15 | simpa using hc15)))
   try dsimp only at hm
   refine hW11 _ _ _ _ ?_ (hcut11 o1_55 hm)
   exact zm
  have hlt15:=zbc (by first | exact hc15 | simpa using hc15)
  have hw15:=zO hlt15 hl_68
  obtain ⟨nx_66,hnx_66,hm⟩:=forC_step hm hlt15
  refine Wp.skip ?_
  simp only [zk]
  refine hK15 _ _ ?_
  refine Wp.seqW fun K16 hK16 hW16=>?_
  refine Wp.block ?_
  have hr_70:=fun h=>zS (l:=r_5) (e:=za) (d:=(api_Record.mk 0 0 [] (api_Version.mk 0 0 0 []) (api_Version.mk 0 0 0 []) 0 [])) (i:=i_67) h []
  refine Wp.seqR fun K17 hK17=>?_
  simp only [go_sem,simprocAttr,hw15,hr_70 (by omega)]
  refine kA hK17 ?_
  obtain ⟨r_71,hr_71,hm⟩:=zb hm
  obtain ⟨r_72,hr_72,hm⟩:=zR hm
  obtain ⟨c_73,hm⟩:=zf hm
  obtain ⟨r_74,hr_74,hm⟩:=zR hm
  refine Wp.seqDW (plan:=(.rd 0 (.rd 1 (.rd 2 (.rd 3 (.rd 4 (.rd 6 (.fk 5 [6] (.ef 7 [4] (.ef 8 [] (.rd 9 (.rd 10 (.rd 11 .nil))))) 7 [4] (.ef 5 [6] (.ef 8 [] (.rd 9 (.rd 10 (.rd 11 .nil))))))))))))) (by kernel_rfl) rfl (by kernel_rfl) fun K18 hK18 hW18=>?_
  suffices hcont18:K18 [(5,.buf 1),(7,.ptr 2 0),(18,.buf 0),(19,.p (.i .i64 (r_5.length:Int))),(20,.p (.i .i64 (i_67:Int))),(21,.p (.b (decide ((i_67:Int) < (r_5.length:Int))))),(23,.agg [.p (.i .i64 ((r_5.getD i_67 (api_Record.mk 0 0 [] (api_Version.mk 0 0 0 []) (api_Version.mk 0 0 0 []) 0 [])).Time)),.p (.i .i64 ((r_5.getD i_67 (api_Record.mk 0 0 [] (api_Version.mk 0 0 0 []) (api_Version.mk 0 0 0 []) 0 [])).Kind)),.p (.s ((r_5.getD i_67 (api_Record.mk 0 0 [] (api_Version.mk 0 0 0 []) (api_Version.mk 0 0 0 []) 0 [])).Pack)),.p (.i .i64 (((r_5.getD i_67 (api_Record.mk 0 0 [] (api_Version.mk 0 0 0 []) (api_Version.mk 0 0 0 []) 0 [])).From).Major)),.p (.i .i64 (((r_5.getD i_67 (api_Record.mk 0 0 [] (api_Version.mk 0 0 0 []) (api_Version.mk 0 0 0 []) 0 [])).From).Minor)),.p (.i .i64 (((r_5.getD i_67 (api_Record.mk 0 0 [] (api_Version.mk 0 0 0 []) (api_Version.mk 0 0 0 []) 0 [])).From).Patch)),.p (.s (((r_5.getD i_67 (api_Record.mk 0 0 [] (api_Version.mk 0 0 0 []) (api_Version.mk 0 0 0 []) 0 [])).From).Early)),.p (.i .i64 (((r_5.getD i_67 (api_Record.mk 0 0 [] (api_Version.mk 0 0 0 []) (api_Version.mk 0 0 0 []) 0 [])).To).Major)),.p (.i .i64 (((r_5.getD i_67 (api_Record.mk 0 0 [] (api_Version.mk 0 0 0 []) (api_Version.mk 0 0 0 []) 0 [])).To).Minor)),.p (.i .i64 (((r_5.getD i_67 (api_Record.mk 0 0 [] (api_Version.mk 0 0 0 []) (api_Version.mk 0 0 0 []) 0 [])).To).Patch)),.p (.s (((r_5.getD i_67 (api_Record.mk 0 0 [] (api_Version.mk 0 0 0 []) (api_Version.mk 0 0 0 []) 0 [])).To).Early)),.p (.i .i64 ((r_5.getD i_67 (api_Record.mk 0 0 [] (api_Version.mk 0 0 0 []) (api_Version.mk 0 0 0 []) 0 [])).Result)),.p (.s ((r_5.getD i_67 (api_Record.mk 0 0 [] (api_Version.mk 0 0 0 []) (api_Version.mk 0 0 0 []) 0 [])).Note))]),(35,.p (.b ((decide (r_71=0)) && (decide (r_74=0)))))] [.buf 30 13 (List.map za r_5),.buf 30 13 (List.map za o1_55),.cells 30 [.p (.i .i64 ((r_5.getD i_67 (api_Record.mk 0 0 [] (api_Version.mk 0 0 0 []) (api_Version.mk 0 0 0 []) 0 [])).Time)),.p (.i .i64 ((r_5.getD i_67 (api_Record.mk 0 0 [] (api_Version.mk 0 0 0 []) (api_Version.mk 0 0 0 []) 0 [])).Kind)),.p (.s ((r_5.getD i_67 (api_Record.mk 0 0 [] (api_Version.mk 0 0 0 []) (api_Version.mk 0 0 0 []) 0 [])).Pack)),.p (.i .i64 (((r_5.getD i_67 (api_Record.mk 0 0 [] (api_Version.mk 0 0 0 []) (api_Version.mk 0 0 0 []) 0 [])).From).Major)),.p (.i .i64 (((r_5.getD i_67 (api_Record.mk 0 0 [] (api_Version.mk 0 0 0 []) (api_Version.mk 0 0 0 []) 0 [])).From).Minor)),.p (.i .i64 (((r_5.getD i_67 (api_Record.mk 0 0 [] (api_Version.mk 0 0 0 []) (api_Version.mk 0 0 0 []) 0 [])).From).Patch)),.p (.s (((r_5.getD i_67 (api_Record.mk 0 0 [] (api_Version.mk 0 0 0 []) (api_Version.mk 0 0 0 []) 0 [])).From).Early)),.p (.i .i64 (((r_5.getD i_67 (api_Record.mk 0 0 [] (api_Version.mk 0 0 0 []) (api_Version.mk 0 0 0 []) 0 [])).To).Major)),.p (.i .i64 (((r_5.getD i_67 (api_Record.mk 0 0 [] (api_Version.mk 0 0 0 []) (api_Version.mk 0 0 0 []) 0 [])).To).Minor)),.p (.i .i64 (((r_5.getD i_67 (api_Record.mk 0 0 [] (api_Version.mk 0 0 0 []) (api_Version.mk 0 0 0 []) 0 [])).To).Patch)),.p (.s (((r_5.getD i_67 (api_Record.mk 0 0 [] (api_Version.mk 0 0 0 []) (api_Version.mk 0 0 0 []) 0 [])).To).Early)),.p (.i .i64 ((r_5.getD i_67 (api_Record.mk 0 0 [] (api_Version.mk 0 0 0 []) (api_Version.mk 0 0 0 []) 0 [])).Result)),.p (.s ((r_5.getD i_67 (api_Record.mk 0 0 [] (api_Version.mk 0 0 0 []) (api_Version.mk 0 0 0 []) 0 [])).Note))]] by
   rcases Bool.eq_false_or_eq_true (decide (r_71=0)) with hg_75 | hg_75
   ·
    have c_76:=c_73 hg_75
    try dsimp only at c_76
    simp only [go_sem,simprocAttr,false_implies,and_true,true_and,bad,hw15,hg_75]
    try refine ⟨sL,?_⟩
    refine Dr.callF (av:=?av19) (g:=true) (o:=?o19) (fun hg=>zcc (r_5.getD i_67 (api_Record.mk 0 0 [] (api_Version.mk 0 0 0 []) (api_Version.mk 0 0 0 []) 0 [])) _ hr_71) (by simp only [go_sem,simprocAttr,false_implies,and_true,true_and,bad,hw15,hg_75]; exact Is.mk) (by simp only [go_sem,simprocAttr,false_implies,and_true,true_and,bad,hw15,hg_75]; exact Is.mk) (by simp only [go_sem,simprocAttr,false_implies,and_true,true_and,bad,hw15,hg_75]; exact Is.mk) (by simp only [go_sem,simprocAttr,false_implies,and_true,true_and,bad,hw15,hg_75]; exact Is.mk) (by simp only [go_sem,simprocAttr,false_implies,and_true,true_and,bad,hw15,hg_75]) (by simp only [go_sem,simprocAttr,false_implies,and_true,true_and,bad,hw15,hg_75]; exact Is.mk) ?cont19
    simp only [go_sem,simprocAttr,false_implies,and_true,true_and,bad,hw15,hg_75]
    try refine ⟨sL,?_⟩
    refine Dr.fk ?_ ?_
    ·
     refine id (Br.callLN (av:=?av20) (o:=?o20) (z6 o1_55 _ (hr_72 hg_75)) (flatRs_map (fun _=>rfl) _) (by simp only [go_sem,simprocAttr,false_implies,and_true,true_and,bad,hw15,hg_75]; exact Is.mk) (by simp only [go_sem,simprocAttr,false_implies,and_true,true_and,bad,hw15,hg_75]; exact Is.mk) (by simp only [go_sem,simprocAttr,false_implies,and_true,true_and,bad,hw15,hg_75]; exact Is.mk) (by simp only [go_sem,simprocAttr,false_implies,and_true,true_and,bad,hw15,hg_75]; exact Is.mk) (by simp only [go_sem,simprocAttr,false_implies,and_true,true_and,bad,hw15,hg_75]) (by simp only [go_sem,simprocAttr,false_implies,and_true,true_and,bad,hw15,hg_75]) ?cont20)
     simp only [go_sem,simprocAttr,false_implies,and_true,true_and,bad,hw15,hg_75]
     try refine ⟨sL,?_⟩
     refine Dr.callF (av:=?av21) (g:=decide (r_71=0)) (o:=?o21) (fun hg=>zet (r_72++[(r_5.getD i_67 (api_Record.mk 0 0 [] (api_Version.mk 0 0 0 []) (api_Version.mk 0 0 0 []) 0 []))]) _ (hr_74 hg)) (by simp only [go_sem,simprocAttr,false_implies,and_true,true_and,bad,hw15,hg_75]; exact Is.mk) (by simp only [go_sem,simprocAttr,false_implies,and_true,true_and,bad,hw15,hg_75]; exact Is.mk) (by simp only [go_sem,simprocAttr,false_implies,and_true,true_and,bad,hw15,hg_75]; exact Is.mk) (by simp only [go_sem,simprocAttr,false_implies,and_true,true_and,bad,hw15,hg_75,List.map_append,List.map_cons,List.map_nil]; exact Is.mk) (by simp only [go_sem,simprocAttr,false_implies,and_true,true_and,bad,hw15,hg_75]) (by simp only [go_sem,simprocAttr,false_implies,and_true,true_and,bad,hw15,hg_75]; exact Is.mk) ?cont21
     simp only [go_sem,simprocAttr,false_implies,and_true,true_and,bad,hw15,hg_75]
     first | refine hW18 _ _ _ _ ?_ hcont18 | refine ⟨sL,hW18 _ _ _ _ ?_ hcont18⟩
     simp only [go_sem,simprocAttr,false_implies,and_true,true_and,bad,hw15,hg_75]
     try exact se3
    ·
     refine Br.runT (o:=?o22) (gw:=?gw22) (by simp only [go_sem,simprocAttr,false_implies,and_true,true_and,bad,hw15,hg_75]; exact Is.mk) (by simp only [go_sem,simprocAttr,false_implies,and_true,true_and,bad,hw15,hg_75]; exact Is.mk) (by simp only [go_sem,simprocAttr,false_implies,and_true,true_and,bad,hw15,hg_75]; exact Is.mk) ?cont22
     simp only [go_sem,simprocAttr,false_implies,and_true,true_and,bad,hw15,hg_75]
     try refine ⟨sL,?_⟩
     refine Dr.of_br (Br.callLN (av:=?av23) (o:=?o23) (z6 o1_55 _ (hr_72 hg_75)) (flatRs_map (fun _=>rfl) _) (by simp only [go_sem,simprocAttr,false_implies,and_true,true_and,bad,hw15,hg_75]; exact Is.mk) (by simp only [go_sem,simprocAttr,false_implies,and_true,true_and,bad,hw15,hg_75]; exact Is.mk) (by simp only [go_sem,simprocAttr,false_implies,and_true,true_and,bad,hw15,hg_75]; exact Is.mk) (by simp only [go_sem,simprocAttr,false_implies,and_true,true_and,bad,hw15,hg_75]; exact Is.mk) (by simp only [go_sem,simprocAttr,false_implies,and_true,true_and,bad,hw15,hg_75]) (by simp only [go_sem,simprocAttr,false_implies,and_true,true_and,bad,hw15,hg_75]) ?cont23)
     simp only [go_sem,simprocAttr,false_implies,and_true,true_and,bad,hw15,hg_75]
     try refine ⟨sL,?_⟩
     refine Dr.callF (av:=?av24) (g:=decide (r_71=0)) (o:=?o24) (fun hg=>zet (r_72++[(r_5.getD i_67 (api_Record.mk 0 0 [] (api_Version.mk 0 0 0 []) (api_Version.mk 0 0 0 []) 0 []))]) _ (hr_74 hg)) (by simp only [go_sem,simprocAttr,false_implies,and_true,true_and,bad,hw15,hg_75]; exact Is.mk) (by simp only [go_sem,simprocAttr,false_implies,and_true,true_and,bad,hw15,hg_75]; exact Is.mk) (by simp only [go_sem,simprocAttr,false_implies,and_true,true_and,bad,hw15,hg_75]; exact Is.mk) (by simp only [go_sem,simprocAttr,false_implies,and_true,true_and,bad,hw15,hg_75,List.map_append,List.map_cons,List.map_nil]; exact Is.mk) (by simp only [go_sem,simprocAttr,false_implies,and_true,true_and,bad,hw15,hg_75]) (by simp only [go_sem,simprocAttr,false_implies,and_true,true_and,bad,hw15,hg_75]; exact Is.mk) ?cont24
     simp only [go_sem,simprocAttr,false_implies,and_true,true_and,bad,hw15,hg_75]
     first | refine hW18 _ _ _ _ ?_ hcont18 | refine ⟨sL,hW18 _ _ _ _ ?_ hcont18⟩
     simp only [go_sem,simprocAttr,false_implies,and_true,true_and,bad,hw15,hg_75]
     try exact se3
   ·
    simp only [go_sem,simprocAttr,false_implies,and_true,true_and,bad,hw15,hg_75]
    try refine ⟨sL,?_⟩
    refine Dr.callF (av:=?av25) (g:=true) (o:=?o25) (fun hg=>zcc (r_5.getD i_67 (api_Record.mk 0 0 [] (api_Version.mk 0 0 0 []) (api_Version.mk 0 0 0 []) 0 [])) _ hr_71) (by simp only [go_sem,simprocAttr,false_implies,and_true,true_and,bad,hw15,hg_75]; exact Is.mk) (by simp only [go_sem,simprocAttr,false_implies,and_true,true_and,bad,hw15,hg_75]; exact Is.mk) (by simp only [go_sem,simprocAttr,false_implies,and_true,true_and,bad,hw15,hg_75]; exact Is.mk) (by simp only [go_sem,simprocAttr,false_implies,and_true,true_and,bad,hw15,hg_75]; exact Is.mk) (by simp only [go_sem,simprocAttr,false_implies,and_true,true_and,bad,hw15,hg_75]) (by simp only [go_sem,simprocAttr,false_implies,and_true,true_and,bad,hw15,hg_75]; exact Is.mk) ?cont25
    simp only [go_sem,simprocAttr,false_implies,and_true,true_and,bad,hw15,hg_75]
    try refine ⟨sL,?_⟩
    refine Dr.fk ?_ ?_
    ·
     refine id (Br.skipG (o:=?o26) (v:=.top) (gw:=?gw26) (by simp only [go_sem,simprocAttr,false_implies,and_true,true_and,bad,hw15,hg_75]; exact Is.mk) (by simp only [go_sem,simprocAttr,false_implies,and_true,true_and,bad,hw15,hg_75]; exact Is.mk) (by simp only [go_sem,simprocAttr,false_implies,and_true,true_and,bad,hw15,hg_75]; exact Is.mk) (by simp only [go_sem,simprocAttr,false_implies,and_true,true_and,bad,hw15,hg_75]) ?cont26)
     simp only [go_sem,simprocAttr,false_implies,and_true,true_and,bad,hw15,hg_75]
     try refine ⟨sL,?_⟩
     refine Dr.skipG (o:=?o27) (v:=.p (.i .i64 r_74)) (gw:=?gw27) (by simp only [go_sem,simprocAttr,false_implies,and_true,true_and,bad,hw15,hg_75]; exact Is.mk) (by simp only [go_sem,simprocAttr,false_implies,and_true,true_and,bad,hw15,hg_75]; exact Is.mk) (by simp only [go_sem,simprocAttr,false_implies,and_true,true_and,bad,hw15,hg_75]; exact Is.mk) (by simp only [go_sem,simprocAttr,false_implies,and_true,true_and,bad,hw15,hg_75]) ?cont27
     simp only [go_sem,simprocAttr,false_implies,and_true,true_and,bad,hw15,hg_75]
     first | refine hW18 _ _ _ _ ?_ hcont18 | refine ⟨sL,hW18 _ _ _ _ ?_ hcont18⟩
     simp only [go_sem,simprocAttr,false_implies,and_true,true_and,bad,hw15,hg_75]
     try exact se3
    ·
     refine Br.skipG (o:=?o28) (v:=.top) (gw:=?gw28) (by simp only [go_sem,simprocAttr,false_implies,and_true,true_and,bad,hw15,hg_75]; exact Is.mk) (by simp only [go_sem,simprocAttr,false_implies,and_true,true_and,bad,hw15,hg_75]; exact Is.mk) (by simp only [go_sem,simprocAttr,false_implies,and_true,true_and,bad,hw15,hg_75]; exact Is.mk) (by simp only [go_sem,simprocAttr,false_implies,and_true,true_and,bad,hw15,hg_75]) ?cont28
     simp only [go_sem,simprocAttr,false_implies,and_true,true_and,bad,hw15,hg_75]
     try refine ⟨sL,?_⟩
     refine Dr.of_br (Br.skipG (o:=?o29) (v:=.top) (gw:=?gw29) (by simp only [go_sem,simprocAttr,false_implies,and_true,true_and,bad,hw15,hg_75]; exact Is.mk) (by simp only [go_sem,simprocAttr,false_implies,and_true,true_and,bad,hw15,hg_75]; exact Is.mk) (by simp only [go_sem,simprocAttr,false_implies,and_true,true_and,bad,hw15,hg_75]; exact Is.mk) (by simp only [go_sem,simprocAttr,false_implies,and_true,true_and,bad,hw15,hg_75]) ?cont29)
     simp only [go_sem,simprocAttr,false_implies,and_true,true_and,bad,hw15,hg_75]
     try refine ⟨sL,?_⟩
     refine Dr.skipG (o:=?o30) (v:=.p (.i .i64 r_74)) (gw:=?gw30) (by simp only [go_sem,simprocAttr,false_implies,and_true,true_and,bad,hw15,hg_75]; exact Is.mk) (by simp only [go_sem,simprocAttr,false_implies,and_true,true_and,bad,hw15,hg_75]; exact Is.mk) (by simp only [go_sem,simprocAttr,false_implies,and_true,true_and,bad,hw15,hg_75]; exact Is.mk) (by simp only [go_sem,simprocAttr,false_implies,and_true,true_and,bad,hw15,hg_75]) ?cont30
     simp only [go_sem,simprocAttr,false_implies,and_true,true_and,bad,hw15,hg_75]
     first | refine hW18 _ _ _ _ ?_ hcont18 | refine ⟨sL,hW18 _ _ _ _ ?_ hcont18⟩
     simp only [go_sem,simprocAttr,false_implies,and_true,true_and,bad,hw15,hg_75]
     try exact se3
  refine hK18 _ _ ?_
  refine cM hm (fun hc31 hm=>?_) (fun hc31 hm=>?_)
  ·obtain ⟨c_77,hm⟩:=zf hm
   refine Wp.region fun K32 hK32=>?_
   simp only [go_sem,simprocAttr,hw15]
   refine kA hK32 ?_
   refine hK16 _ _ ?_
   refine Wp.region fun K33 hK33=>?_
   simp only [go_sem,simprocAttr,hw15]
   refine kA hK33 ?_
   simp only [zk,zi,↓reduceIte]
   refine ⟨o1_55++[(r_5.getD i_67 (api_Record.mk 0 0 [] (api_Version.mk 0 0 0 []) (api_Version.mk 0 0 0 []) 0 []))],hlt15,hnx_66 _ hm,?_⟩
   simp only [go_sem,simprocAttr,hw15]
   try exact se3
  ·refine Wp.skip ?_
   refine hK16 _ _ ?_
   refine Wp.region fun K34 hK34=>?_
   simp only [go_sem,simprocAttr,hw15]
   refine kA hK34 ?_
   simp only [zk,zi,↓reduceIte]
   refine ⟨o1_55,hlt15,hnx_66 _ hm,?_⟩
   simp only [go_sem,simprocAttr,hw15]
   try exact se3
theorem ok_R_cutLines (text_1:Str) (z:List Str × Int) (hm:zdE text_1=some z):Does Tryz.prog 50 [.p (.s text_1)] [] (fun r X=>r=.tup [.p (.l (List.map ecS z.1)),.p (.i .i64 z.2)]∧X=[]):=by
 unfold zdE at hm
 refine dW 0 23 [.tmp 2,.tmp 3] Tryz.func50 fun B=>?_
 refine qS ?_
 obtain ⟨r_2,hr_2,hm⟩:=zb hm
 refine Wp.seqR fun K2 hK2=>?_
 simp only [go_sem,simprocAttr]
 try refine ⟨sd,?_⟩
 refine Rg.callF (av:=?av3) (zaj text_1 ([10]:Str) _ hr_2) si si sg ?cont3
 intro hv3
 simp only [go_sem,simprocAttr]
 refine kA hK2 ?_
 refine Wp.seqW fun K4 hK4 hW4=>?_
 refine qS ?_
 obtain ⟨s_3,hbs_3,hxs_3,hys_3,hm⟩:=zU hm
 replace hxs_3:∀ d,(List.map ecS r_2).getD ((IntKind.i64.wrap ((r_2.length:Int) - 1)).toNat) d=ecS s_3:=hxs_3 ecS
 refine Wp.seqR fun K6 hK6=>?_
 simp only [go_sem,simprocAttr,hxs_3]
 refine kA hK6 ?_
 refine cM hm (fun hc7 hm=>?_) (fun hc7 hm=>?_)
 ·obtain ⟨c_4,hm⟩:=zf hm
  refine Wp.seqR fun K8 hK8=>?_
  simp only [go_sem,simprocAttr,hxs_3]
  refine kA hK8 ?_
  refine Wp.ret ?_
  refine zc ?_
  cases hm
  simp only [go_sem,simprocAttr,hxs_3]
  try exact se3
 ·refine Wp.skip ?_
  refine hK4 _ _ ?_
  refine Wp.seqR fun K9 hK9=>?_
  simp only [go_sem,simprocAttr,hxs_3]
  refine kA hK9 ?_
  refine Wp.ret ?_
  refine zc ?_
  cases hm
  simp only [go_sem,simprocAttr,hxs_3]
  try exact se3
theorem zbW (sep_1:Str) (z:Int × Int) (hm:zam sep_1=some z):Does Tryz.prog 124 [.p (.s sep_1)] [] (fun r X=>r=.tup [.p (.i .u32 z.1),.p (.i .u32 z.2)]∧X=[]):=by
 unfold zam at hm
 refine dW 0 40 [.tmp 2,.tmp 3] Tryz.func124 fun B=>?_
 refine qS ?_
 refine qS ?_
 refine Wp.seqW fun K3 hK3 hW3=>?_
 obtain ⟨k_9,hk_9,hm⟩:=zl hm
 have hcut3:∀ s,k_9 s=some z→K3 [(0,.p (.s sep_1)),(4,.p (.i .u32 s))] []:=by
  intro hash_8 hs
  have hm:=hk_9 _ hs
  clear hs
  try dsimp only at hm
  try dsimp only
  refine hK3 _ _ ?_
  refine qS ?_
  refine Wp.seqW fun K5 hK5 hW5=>?_
  obtain ⟨k_16,hk_16,hm⟩:=zl hm
  have hcut5:∀ s,k_16 s=some z→K5 [(4,.p (.i .u32 hash_8)),(6,.p (.i .u32 s))] []:=by
   intro pow_15 hs
   have hm:=hk_16 _ hs
   clear hs
   try dsimp only at hm
   try dsimp only
   refine hK5 _ _ ?_
   refine qS ?_
   refine Wp.ret ?_
   refine zc ?_
   cases hm
   exact zm
  clear hK5 hk_16
  refine qS ?_
  refine Wp.block ?_
  obtain ⟨k_20,hk_20,hm⟩:=zF hm
  refine Wp.loopN (fun s=>[(4,.p (.i .u32 hash_8)),(6,.p (.i .u32 s.1)),(7,.p (.i .u32 s.2.1)),(8,.p (.i .i64 s.2.2))]) (fun s=>[]) ?_ hm ?_
  ·
   exact zm
  clear hm
  intro s nx_21 hm
  obtain ⟨pow_17,sq_18,i_19⟩:=s
  try dsimp only at hm
  try dsimp only
  refine Wp.seqW fun K8 hK8 hW8=>?_
  refine qS ?_
  refine cM hm (fun hc10 hm=>?_) (fun hc10 hm=>?_)
  ·refine Wp.skip ?_
   refine hK8 _ _ ?_
   refine Wp.seqW fun K11 hK11 hW11=>?_
   refine Wp.block ?_
   refine Wp.seqW fun K12 hK12 hW12=>?_
   refine qS ?_
   refine cM hm (fun hc14 hm=>?_) (fun hc14 hm=>?_)
   ·refine qR ?_
    refine hK12 _ _ ?_
    refine qR ?_
    refine hK11 _ _ ?_
    refine qR ?_
    simp only [zk,zi,↓reduceIte]
    refine ⟨(IntKind.u32.wrap (pow_17 * sq_18),IntKind.u32.wrap (sq_18 * sq_18),Int.fdiv i_19 (2 ^ (shI .i64 1))),hm,?_⟩
    exact zm
   ·refine Wp.skip ?_
    refine hK12 _ _ ?_
    refine qR ?_
    refine hK11 _ _ ?_
    refine qR ?_
    simp only [zk,zi,↓reduceIte]
    refine ⟨(pow_17,IntKind.u32.wrap (sq_18 * sq_18),Int.fdiv i_19 (2 ^ (shI .i64 1))),hm,?_⟩
    exact zm
  ·refine Wp.exit ?_
   simp only [zk,zi,↓reduceIte]
   have hm:=hk_20 _ hm
   try dsimp only at hm
   refine hW5 _ _ _ _ ?_ (hcut5 pow_17 hm)
   exact zm
 clear hK3 hk_9
 refine qS ?_
 refine Wp.block ?_
 obtain ⟨k_25,hk_25,hm⟩:=zF hm
 refine Wp.loopN (fun s=>[(0,.p (.s sep_1)),(4,.p (.i .u32 s.1)),(5,.p (.i .i64 s.2))]) (fun s=>[]) ?_ hm ?_
 ·
  exact zm
 clear hm
 intro s nx_26 hm
 obtain ⟨hash_22,i_23⟩:=s
 try dsimp only at hm
 try dsimp only
 refine Wp.seqW fun K21 hK21 hW21=>?_
 refine qS ?_
 refine cM hm (fun hc23 hm=>?_) (fun hc23 hm=>?_)
 ·refine Wp.skip ?_
  refine hK21 _ _ ?_
  refine Wp.seqW fun K24 hK24 hW24=>?_
  refine Wp.block ?_
  obtain ⟨c_27,hbc_27,hxc_27,hm⟩:=zab hm
  replace hxc_27:((sep_1.getD i_23.toNat 0).toNat:Int)=c_27:=hxc_27
  refine Wp.region fun K25 hK25=>?_
  simp only [go_sem,simprocAttr,hxc_27]
  refine kA hK25 ?_
  refine hK24 _ _ ?_
  refine Wp.region fun K26 hK26=>?_
  simp only [go_sem,simprocAttr,hxc_27]
  refine kA hK26 ?_
  simp only [zk,zi,↓reduceIte]
  refine ⟨(IntKind.u32.wrap ((IntKind.u32.wrap (hash_22 * 16777619))+(IntKind.u32.wrap c_27)),IntKind.i64.wrap (i_23 - 1)),hm,?_⟩
  simp only [go_sem,simprocAttr,hxc_27]
  try exact se3
 ·refine Wp.exit ?_
  simp only [zk,zi,↓reduceIte]
  have hm:=hk_25 _ hm
  try dsimp only at hm
  refine hW3 _ _ _ _ ?_ (hcut3 hash_22 hm)
  exact zm
theorem zbk (s_1:Str) (sep_2:Str) (z:Int) (hm:zW s_1 sep_2=some z):Does Tryz.prog 92 [.p (.s s_1),.p (.s sep_2)] [] (fun r X=>r=.p (.i .i64 z)∧X=[]):=by
 unfold zW at hm
 refine dW 0 87 [.tmp 4] Tryz.func92 fun B=>?_
 refine qS ?_
 obtain ⟨r_3,hr_3,hm⟩:=zb hm
 refine Wp.seqR fun K2 hK2=>?_
 simp only [go_sem,simprocAttr]
 try refine ⟨sd,?_⟩
 refine Rg.callX (av:=?av3) (g:=true) (fun hg=>zbW sep_2 _ hr_3) si si si sg si ?cont3
 intro hv3
 simp only [go_sem,simprocAttr]
 refine kA hK2 ?_
 refine qS ?_
 refine qS ?_
 refine qS ?_
 refine Wp.seqW fun K7 hK7 hW7=>?_
 obtain ⟨k_11,hk_11,hm⟩:=zl hm
 have hcut7:∀ s,k_11 s=some z→K7 [(0,.p (.s s_1)),(1,.p (.s sep_2)),(5,.p (.i .u32 r_3.1)),(6,.p (.i .u32 r_3.2)),(7,.p (.i .i64 (sep_2.length:Int))),(8,.p (.i .i64 (IntKind.i64.wrap ((s_1.length:Int) - (sep_2.length:Int))))),(9,.p (.i .u32 s))] []:=by
  intro h_10 hs
  have hm:=hk_11 _ hs
  clear hs
  try dsimp only at hm
  try dsimp only
  refine hK7 _ _ ?_
  refine Wp.seqW fun K8 hK8 hW8=>?_
  obtain ⟨c_12,hm⟩:=zf hm
  refine Wp.seqR fun K9 hK9=>?_
  simp only [go_sem,simprocAttr]
  refine kA hK9 ?_
  refine cM hm (fun hc10 hm=>?_) (fun hc10 hm=>?_)
  ·refine qS ?_
   refine Wp.ret ?_
   refine zc ?_
   cases hm
   exact zm
  ·refine Wp.skip ?_
   refine hK8 _ _ ?_
   refine Wp.seqW fun K12 hK12 hW12=>?_
   obtain ⟨k_23,hk_23,hm⟩:=zl hm
   have hcut12:∀ s,k_23 s=some z→K12 [] []:=by
    intro s hs
    have hm:=hk_23 _ hs
    clear hs
    try dsimp only at hm
    try dsimp only
    refine hK12 _ _ ?_
    refine qS ?_
    refine Wp.ret ?_
    refine zc ?_
    cases hm
    exact zm
   clear hK12 hk_23
   refine qS ?_
   refine Wp.block ?_
   obtain ⟨k_29,hk_29,hm⟩:=zF hm
   refine Wp.loopN (fun s=>[(0,.p (.s s_1)),(1,.p (.s sep_2)),(5,.p (.i .u32 r_3.1)),(6,.p (.i .u32 r_3.2)),(7,.p (.i .i64 (sep_2.length:Int))),(9,.p (.i .u32 s.1)),(11,.p (.i .i64 s.2))]) (fun s=>[]) ?_ hm ?_
   ·
    exact zm
   clear hm
   intro s nx_30 hm
   obtain ⟨h_24,i_25⟩:=s
   try dsimp only at hm
   try dsimp only
   refine Wp.seqW fun K15 hK15 hW15=>?_
   refine qS ?_
   refine cM hm (fun hc17 hm=>?_) (fun hc17 hm=>?_)
   ·refine Wp.skip ?_
    refine hK15 _ _ ?_
    refine Wp.seqW fun K18 hK18 hW18=>?_
    refine Wp.block ?_
    refine qS ?_
    obtain ⟨c_31,hbc_31,hxc_31,hm⟩:=zab hm
    replace hxc_31:((s_1.getD i_25.toNat 0).toNat:Int)=c_31:=hxc_31
    refine Wp.seqR fun K20 hK20=>?_
    simp only [go_sem,simprocAttr,hxc_31]
    refine kA hK20 ?_
    obtain ⟨c_32,hbc_32,hxc_32,hm⟩:=zab hm
    replace hxc_32:((s_1.getD ((IntKind.i64.wrap (i_25+(sep_2.length:Int))).toNat) 0).toNat:Int)=c_32:=hxc_32
    refine Wp.seqR fun K21 hK21=>?_
    simp only [go_sem,simprocAttr,hxc_31,hxc_32]
    refine kA hK21 ?_
    obtain ⟨c_33,hm⟩:=zf hm
    refine Wp.seqR fun K22 hK22=>?_
    simp only [go_sem,simprocAttr,hxc_31,hxc_32]
    refine kA hK22 ?_
    refine cM hm (fun hc23 hm=>?_) (fun hc23 hm=>?_)
    ·refine Wp.seqR fun K24 hK24=>?_
     simp only [go_sem,simprocAttr,hxc_31,hxc_32]
     refine kA hK24 ?_
     refine Wp.ret ?_
     refine zc ?_
     cases hm
     simp only [go_sem,simprocAttr,hxc_31,hxc_32]
     try exact se3
    ·refine Wp.skip ?_
     refine hK18 _ _ ?_
     refine Wp.region fun K25 hK25=>?_
     simp only [go_sem,simprocAttr,hxc_31,hxc_32]
     refine kA hK25 ?_
     simp only [zk,zi,↓reduceIte]
     refine ⟨(IntKind.u32.wrap ((IntKind.u32.wrap ((IntKind.u32.wrap (h_24 * 16777619))+(IntKind.u32.wrap c_31))) - (IntKind.u32.wrap (r_3.2 * (IntKind.u32.wrap c_32)))),IntKind.i64.wrap (i_25 - 1)),hm,?_⟩
     simp only [go_sem,simprocAttr,hxc_31,hxc_32]
     try exact se3
   ·refine Wp.exit ?_
    simp only [zk,zi,↓reduceIte]
    have hm:=hk_29 _ hm
    try dsimp only at hm
    refine hW12 _ _ _ _ ?_ (hcut12 () hm)
    exact zm
 clear hK7 hk_11
 refine qS ?_
 refine Wp.block ?_
 obtain ⟨k_37,hk_37,hm⟩:=zF hm
 refine Wp.loopN (fun s=>[(0,.p (.s s_1)),(1,.p (.s sep_2)),(5,.p (.i .u32 r_3.1)),(6,.p (.i .u32 r_3.2)),(7,.p (.i .i64 (sep_2.length:Int))),(8,.p (.i .i64 (IntKind.i64.wrap ((s_1.length:Int) - (sep_2.length:Int))))),(9,.p (.i .u32 s.1)),(10,.p (.i .i64 s.2))]) (fun s=>[]) ?_ hm ?_
 ·
  exact zm
 clear hm
 intro s nx_38 hm
 obtain ⟨h_34,i_35⟩:=s
 try dsimp only at hm
 try dsimp only
 refine Wp.seqW fun K27 hK27 hW27=>?_
 refine qS ?_
 refine cM hm (fun hc29 hm=>?_) (fun hc29 hm=>?_)
 ·refine Wp.skip ?_
  refine hK27 _ _ ?_
  refine Wp.seqW fun K30 hK30 hW30=>?_
  refine Wp.block ?_
  obtain ⟨c_39,hbc_39,hxc_39,hm⟩:=zab hm
  replace hxc_39:((s_1.getD i_35.toNat 0).toNat:Int)=c_39:=hxc_39
  refine Wp.region fun K31 hK31=>?_
  simp only [go_sem,simprocAttr,hxc_39]
  refine kA hK31 ?_
  refine hK30 _ _ ?_
  refine Wp.region fun K32 hK32=>?_
  simp only [go_sem,simprocAttr,hxc_39]
  refine kA hK32 ?_
  simp only [zk,zi,↓reduceIte]
  refine ⟨(IntKind.u32.wrap ((IntKind.u32.wrap (h_34 * 16777619))+(IntKind.u32.wrap c_39)),IntKind.i64.wrap (i_35 - 1)),hm,?_⟩
  simp only [go_sem,simprocAttr,hxc_39]
  try exact se3
 ·refine Wp.exit ?_
  simp only [zk,zi,↓reduceIte]
  have hm:=hk_37 _ hm
  try dsimp only at hm
  refine hW7 _ _ _ _ ?_ (hcut7 h_34 hm)
  exact zm
theorem ok_strings_LastIndex (s_1:Str) (substr_2:Str) (z:Int) (hm:zbg s_1 substr_2=some z):Does Tryz.prog 51 [.p (.s s_1),.p (.s substr_2)] [] (fun r X=>r=.p (.i .i64 z)∧X=[]):=by
 unfold zbg at hm
 refine dW 0 36 [.tmp 4] Tryz.func51 fun B=>?_
 refine qS ?_
 refine qS ?_
 refine Wp.seqW fun K3 hK3 hW3=>?_
 refine Wp.block ?_
 refine qS ?_
 refine cM hm (fun hc5 hm=>?_) (fun hc5 hm=>?_)
 ·refine qS ?_
  refine Wp.ret ?_
  refine zc ?_
  cases hm
  exact zm
 ·refine qS ?_
  refine cM hm (fun hc8 hm=>?_) (fun hc8 hm=>?_)
  ·obtain ⟨c_3,hbc_3,hxc_3,hm⟩:=zab hm
   replace hxc_3:((substr_2.getD 0 0).toNat:Int)=c_3:=hxc_3
   obtain ⟨r_4,hr_4,hm⟩:=zb hm
   refine Wp.seqR fun K9 hK9=>?_
   simp only [go_sem,simprocAttr,hxc_3]
   try refine ⟨sd,?_⟩
   refine Rg.callX (av:=?av10) (g:=true) (fun hg=>zaE s_1 c_3 _ hr_4) (by simp only [go_sem,simprocAttr,hxc_3]; exact Is.mk) (by simp only [go_sem,simprocAttr,hxc_3]; exact Is.mk) (by simp only [go_sem,simprocAttr,hxc_3]; exact Is.mk) (by simp only [go_sem,simprocAttr,hxc_3]) (by simp only [go_sem,simprocAttr,hxc_3]; exact Is.mk) ?cont10
   intro hv10
   simp only [go_sem,simprocAttr,hxc_3]
   refine kA hK9 ?_
   refine Wp.ret ?_
   refine zc ?_
   cases hm
   simp only [go_sem,simprocAttr,hxc_3]
   try exact se3
  ·refine qS ?_
   refine cM hm (fun hc12 hm=>?_) (fun hc12 hm=>?_)
   ·refine Wp.seqW fun K13 hK13 hW13=>?_
    refine qS ?_
    refine cM hm (fun hc15 hm=>?_) (fun hc15 hm=>?_)
    ·refine qS ?_
     refine Wp.ret ?_
     refine zc ?_
     cases hm
     exact zm
    ·refine Wp.skip ?_
     refine hK13 _ _ ?_
     refine qS ?_
     refine Wp.ret ?_
     refine zc ?_
     cases hm
     exact zm
   ·refine qS ?_
    refine cM hm (fun hc19 hm=>?_) (fun hc19 hm=>?_)
    ·refine qS ?_
     refine Wp.ret ?_
     refine zc ?_
     cases hm
     exact zm
    ·refine Wp.skip ?_
     refine hK3 _ _ ?_
     obtain ⟨r_5,hr_5,hm⟩:=zb hm
     refine Wp.seqR fun K21 hK21=>?_
     simp only [go_sem,simprocAttr]
     try refine ⟨sd,?_⟩
     refine Rg.callX (av:=?av22) (g:=true) (fun hg=>zbk s_1 substr_2 _ hr_5) si si si sg si ?cont22
     intro hv22
     simp only [go_sem,simprocAttr]
     refine kA hK21 ?_
     refine Wp.ret ?_
     refine zc ?_
     cases hm
     exact zm
theorem zcT (e_1:Int) (z:api_Record × Int) (hm:zbD e_1=some z):Does Tryz.prog 93 [.p (.i .i64 e_1)] [] (fun r X=>r=.tup [.agg [.p (.i .i64 z.1.Time),.p (.i .i64 z.1.Kind),.p (.s z.1.Pack),.p (.i .i64 z.1.From.Major),.p (.i .i64 z.1.From.Minor),.p (.i .i64 z.1.From.Patch),.p (.s z.1.From.Early),.p (.i .i64 z.1.To.Major),.p (.i .i64 z.1.To.Minor),.p (.i .i64 z.1.To.Patch),.p (.s z.1.To.Early),.p (.i .i64 z.1.Result),.p (.s z.1.Note)],.p (.i .i64 z.2)]∧X=[]):=by
 unfold zbD at hm
 refine dW 0 6 [.cell 2 30,.tmp 3] Tryz.func93 fun B=>?_
 refine qS ?_
 refine qS ?_
 refine Wp.ret ?_
 refine zc ?_
 cases hm
 exact zm
theorem zev (s_1:Str) (z:Int) (hm:zap s_1=some z):Does Tryz.prog 94 [.p (.s s_1)] [] (fun r X=>r=.p (.i .i64 z)∧X=[]):=by
 unfold zap at hm
 refine dW 0 28 [.tmp 2] Tryz.func94 fun B=>?_
 refine qS ?_
 obtain ⟨r_2,hr_2,hm⟩:=zb hm
 refine Wp.seqR fun K2 hK2=>?_
 simp only [go_sem,simprocAttr]
 try refine ⟨sd,?_⟩
 refine Rg.callF (av:=?av3) (zbj s_1 _ hr_2) si si sg ?cont3
 intro hv3
 simp only [go_sem,simprocAttr]
 refine kA hK2 ?_
 refine Wp.seqW fun K4 hK4 hW4=>?_
 obtain ⟨r_3,hr_3,hm⟩:=zR hm
 refine Wp.seqR fun K5 hK5=>?_
 simp only [go_sem,simprocAttr]
 try refine ⟨sd,?_⟩
 refine Rg.callX (av:=?av6) (g:=!(!r_2.2)) (fun hg=>z8 r_2.1 _ (hr_3 hg)) si si si sg si ?cont6
 intro hv6
 simp only [go_sem,simprocAttr]
 refine kA hK5 ?_
 refine cM hm (fun hc7 hm=>?_) (fun hc7 hm=>?_)
 ·refine qS ?_
  refine Wp.ret ?_
  refine zc ?_
  cases hm
  exact zm
 ·refine Wp.skip ?_
  refine hK4 _ _ ?_
  refine qS ?_
  refine Wp.ret ?_
  refine zc ?_
  cases hm
  exact zm
theorem zdf (s_1:List Str) (v_2:Str) (z:Int) (hm:zM s_1 v_2=some z):Does Tryz.prog 95 [.p (.l (List.map ecS s_1)),.p (.s v_2)] [] (fun r X=>r=.p (.i .i64 z)∧X=[]):=by
 unfold zM at hm
 refine dW 0 19 [.tmp 4] Tryz.func95 fun B=>?_
 refine qS ?_
 refine Wp.seqW fun K2 hK2 hW2=>?_
 obtain ⟨k_10,hk_10,hm⟩:=zl hm
 have hcut2:∀ s,k_10 s=some z→K2 [] []:=by
  intro s hs
  have hm:=hk_10 _ hs
  clear hs
  try dsimp only at hm
  try dsimp only
  refine hK2 _ _ ?_
  refine qS ?_
  refine Wp.ret ?_
  refine zc ?_
  cases hm
  exact zm
 clear hK2 hk_10
 refine qS ?_
 refine Wp.block ?_
 obtain ⟨k_13,hk_13,hm⟩:=zQ hm
 refine Wp.fact 0 fun hl_16=>?_
 replace hl_16:s_1.length≤274877906944:=by
  simp only [go_sem,simprocAttr,List.length_map] at hl_16
  omega
 refine Wp.forL (fun i_15 s=>[(0,.p (.l (List.map ecS s_1))),(1,.p (.s v_2)),(7,.p (.i .i64 (s_1.length:Int))),(8,.p (.i .i64 (i_15:Int)))]) (fun i_15 s=>[]) ?_ hm ?_
 ·
  exact zm
 clear hm
 intro i_15 s hii_15 hm
 try dsimp only at hm
 try dsimp only
 refine qS ?_
 refine Wp.seqW fun K6 hK6 hW6=>?_
 refine Wp.cond rfl ⟨⟩ (fun hc6=>?_) (fun hc6=>?_)
 rotate_left
 ·refine Wp.exit ?_
  have hm:=hk_13 _ (zae hm (zbd (by first | exact hc6 | simpa using hc6)))
  try dsimp only at hm
  refine hW2 _ _ _ _ ?_ (hcut2 () hm)
  exact zm
 have hlt6:=zbc (by first | exact hc6 | simpa using hc6)
 have hw6:=zO hlt6 hl_16
 obtain ⟨s_17,nx_14,hxs_17,hys_17,hnx_14,hm⟩:=zP hm hlt6
 replace hxs_17:=hxs_17 ecS
 refine Wp.skip ?_
 simp only [zk]
 refine hK6 _ _ ?_
 refine Wp.seqW fun K7 hK7 hW7=>?_
 refine Wp.block ?_
 refine Wp.seqR fun K8 hK8=>?_
 simp only [go_sem,simprocAttr,hw6,hxs_17]
 refine kA hK8 ?_
 refine Wp.seqR fun K9 hK9=>?_
 simp only [go_sem,simprocAttr,hw6,hxs_17]
 refine kA hK9 ?_
 refine cM hm (fun hc10 hm=>?_) (fun hc10 hm=>?_)
 ·refine Wp.seqR fun K11 hK11=>?_
  simp only [go_sem,simprocAttr,hw6,hxs_17]
  refine kA hK11 ?_
  refine Wp.ret ?_
  refine zc ?_
  cases hm
  simp only [go_sem,simprocAttr,hw6,hxs_17]
  try exact se3
 ·refine Wp.skip ?_
  refine hK7 _ _ ?_
  refine Wp.region fun K12 hK12=>?_
  simp only [go_sem,simprocAttr,hw6,hxs_17]
  refine kA hK12 ?_
  simp only [zk,zi,↓reduceIte]
  refine ⟨(),hlt6,hnx_14 _ hm,?_⟩
  simp only [go_sem,simprocAttr,hw6,hxs_17]
  try exact se3
end Go.Proofs.YtmnohdgjkcjdeaaGreatDoor
