/- The law. -/
import Derived.Test.YtmnohdgjkcjdeaaGreatDoorCards
import Derived.Test.YtmnohdgjkcjdeaaGreatDoorTie
import Derived.Deep.DeepHandedRow
import Derived.Lib.LaidTab
import Derived.Lay
import Derived.Deep.DeepWitnessRowRef
import Derived.Test.YtmnohdgjkcjdeaaGreatDoorLpWk1
import Derived.Test.YtmnohdgjkcjdeaaGreatDoorLpWk2
import Derived.Test.YtmnohdgjkcjdeaaGreatDoorLpWk3
import Derived.Test.YtmnohdgjkcjdeaaGreatDoorLpWk4
import Derived.Test.YtmnohdgjkcjdeaaGreatDoorLpWk5
import Derived.Test.YtmnohdgjkcjdeaaGreatDoorLpWk6
import Derived.Test.YtmnohdgjkcjdeaaGreatDoorLpWk7
import Derived.Test.YtmnohdgjkcjdeaaGreatDoorLpWk8
import Derived.Test.YtmnohdgjkcjdeaaGreatDoorLpWk9
import Derived.Test.YtmnohdgjkcjdeaaGreatDoorLpWk10
import Derived.Test.YtmnohdgjkcjdeaaGreatDoorLpWk11
import Derived.Test.YtmnohdgjkcjdeaaGreatDoorLpWk12
import Derived.Test.YtmnohdgjkcjdeaaGreatDoorLpWk13
import Derived.Test.YtmnohdgjkcjdeaaGreatDoorLpWk14
import Derived.Test.YtmnohdgjkcjdeaaGreatDoorLpPl
namespace Go.Proofs.YtmnohdgjkcjdeaaGreatDoor
open Go.Vc Go.Md
theorem own:ownKnob Tryz.prog.godebug=none:=by kernel_rfl
mutual
theorem zlo {H:Type}:∀ d:DataW H,Rows.uptoBulk d=zb2 d
  | .lit l=>by cases l <;> simp only [Rows.uptoBulk,zb2]
  | .nil=>by simp only [Rows.uptoBulk,zb2]
  | .ptr d=>by simp only [Rows.uptoBulk,zb2,zlo d]
  | .slice a b=>by simp only [Rows.uptoBulk,zb2,zg4 a,zg4 b]
  | .agg a=>by simp only [Rows.uptoBulk,zb2,zg4 a]
  | .iface _ d=>by simp only [Rows.uptoBulk,zb2,zlo d]
  | .map es=>by simp only [Rows.uptoBulk,zb2,bulkEs_eq es]
  | .held _=>by simp only [Rows.uptoBulk,zb2]
theorem zg4 {H:Type}:∀ d:List (DataW H),Rows.uptoBulkAll d=zbd d
  | []=>by simp only [Rows.uptoBulkAll,zbd]
  | d::r=>by simp only [Rows.uptoBulkAll,zbd,zlo d,zg4 r]
theorem bulkEs_eq {H:Type}:∀ d:List (Lit × DataW H),Rows.uptoBulkEntries d=bulkEs d
  | []=>by simp only [Rows.uptoBulkEntries,bulkEs]
  | x::r=>by simp only [Rows.uptoBulkEntries,bulkEs,bulkE_eq x,bulkEs_eq r]
theorem bulkE_eq {H:Type}:∀ d:Lit × DataW H,Rows.uptoBulkEntry d=bulkE d
  | (l,d)=>by cases l <;> simp only [Rows.uptoBulkEntry,bulkE,zlo d]
end
theorem smallUp {H:Type} {l:List (DataW H)} (hk:Rows.uptoSmall H l=true):zbd l≤1048576:=by
  rw [← zg4]; exact of_decide_eq_true hk
theorem prOf {l:List api_Record} (h:zjR (.l (List.map za l))≤1048576):∀ r ∈ l,Pr r:=fun r hr=>by
  simp only [zjR] at h
  have:=bulk_map_mem (f:=za) hr
  simp only [za,zd5,zjR] at this
  exact ⟨by omega,by omega⟩
theorem does (rows:List (List Dt)) (h:zi9 rows [[.l zbS],[.l zbS],[.i .i64],[.i .i64],[.i .u8]]) (hb:zdk rows≤1048576) :
    Does Tryz.prog 5 (argVs [false,false,false,false,false] rows) [] fun r X=>r=.p (.b true)∧X=[]:=by
  rcases rows with _ | ⟨r0,_ | ⟨r1,_ | ⟨r2,_ | ⟨r3,_ | ⟨r4,_ | _⟩⟩⟩⟩⟩ <;> simp only [zi9,and_false,and_true] at h
  obtain ⟨h0,h1,h2,h3,h4⟩:=h
  rcases r0 with _ | ⟨d0,_ | _⟩ <;> simp only [zeJ,and_false,and_true] at h0
  cases d0 <;> simp only [zeI] at h0
  obtain ⟨a0,rfl⟩:=zi7 zf8 h0
  rcases r1 with _ | ⟨d1,_ | _⟩ <;> simp only [zeJ,and_false,and_true] at h1
  cases d1 <;> simp only [zeI] at h1
  obtain ⟨a1,rfl⟩:=zi7 zf8 h1
  obtain ⟨a2,rfl⟩:=dec1_i64 r2 h2
  obtain ⟨a3,rfl⟩:=dec1_i64 r3 h3
  obtain ⟨a4,rfl⟩:=dec1_u8 r4 h4
  simp only [zdk,zd5] at hb
  refine Does.facts ⟨_,Tryz.func5,by kernel_rfl,by kernel_rfl⟩ fun hok=>?_
  simp only [argVs,argV,zab,zaK,cond_false,Va.oks,Va.ok,DtOk,Fits,lo,hi] at hok
  exact ziV a0 a1 a2 a3 a4 true (law_lp a0 a1 a2 a3 a4 (prOf (by omega)) (prOf (by omega)) (by omega) (by omega))

noncomputable def zi4 (os:Os):World:=World.laidAll Tryz.prog os Rows.logsPartUptoRow.laid
theorem laid_met (os:Os):laidMet Tryz.prog Rows.logsPartUptoRow.laid ((zi4 os).forCall (fun _ _=>0) ⟨#[],#[.slice none 0 0,.slice none 0 0,.int .i64 0,.int .i64 0,.int .u8 0],[]⟩).memory :=
  laidMet_laidAll _ (by kernel_rfl) (by kernel_rfl)
theorem zax {P:Program} {W:World} {x:String × DataW Unit} {l:List (String × DataW Unit)} (h:laidMet P (x::l) W):laidMet P l W:=by
  obtain ⟨n,d⟩:=x
  obtain ⟨ps,⟨g,t,cs,fuel,p,q,h1,h2,h3,h4,h5,rfl⟩,h6,h7⟩:=h
  exact ⟨q,h5,(List.nodup_append.1 h6).2.1,fun b off hm=>h7 b off (List.mem_append.2 (.inr hm))⟩
theorem zk7 {H:Type} {enc:TypeId × Value→H} {P:Program} {w:World} {base:Nat} {sp:Nat→Bool} {held:Bool} {fuel:Nat} {t:TypeId} {cs:List Value} {nm:String} {d:DataW H} {p:List MemPlace} {mi}
    (ht:P.underlying t=some (.interface mi)) (h:DataW.trod enc P w base sp held fuel t cs=some (.iface nm d,p)):∃ u v,cs=[.iface u v]:=by
  cases fuel with
  | zero=>simp [DataW.trod] at h
  | succ fuel =>
    unfold DataW.trod at h
    rw [ht] at h
    split at h <;> simp_all
theorem errIs {P:Program} {W:World} {name nm:String} {d:DataW Unit} {rest:List (String × DataW Unit)} {g:Nat} {t:TypeId} {mi}
    (hg:P.globalNamed name=some g) (hty:(P.globals[g]?).map (·.type)=some t) (ht:P.underlying t=some (.interface mi)) (h:laidMet P ((name,.iface nm d)::rest) W) :
    ∃ ev T fr,W.heap[g]?=some (.cells #[ev] T fr)∧(ev=.nilIface ∨ ∃ te pe,ev=.iface te pe):=by
  obtain ⟨ps,⟨g',t',cs,fuel,p,q,hg',ht',hvar,hd,_,_⟩,_⟩:=h
  obtain rfl:=Option.some.inj (hg.symm.trans hg')
  obtain rfl:=Option.some.inj (hty.symm.trans ht')
  obtain ⟨u,v,hc⟩:=zk7 ht hd
  unfold World.var? at hvar
  rw [hg] at hvar
  simp only [Option.bind_some] at hvar
  split at hvar
  · rename_i cs' T fr hb
    cases hvar
    refine ⟨.iface u v,T,fr,?_,.inr ⟨u,v,rfl⟩⟩
    rw [hb]
    congr
    rw [← Array.toList_inj]
    exact hc
  · cases hvar
theorem htab {W:World} (h:laidMetH Tryz.prog Rows.logsPartUptoRow.laid W):TabOk (zlr W) W.heap:=by
  have h0:laidMet Tryz.prog Rows.logsPartUptoRow.laid W:=by rw [← MakeChecks.laidMetH_plain _ _ _ (by kernel_rfl)]; exact h
  have q3:laidMet Tryz.prog (("internal/strconv.uint64pow10",Lib.tabData .u64 tabL_3)::Rows.logsPartUptoRow.laid.drop 3) W:=zax (zax h0)
  have t3:Lib.TabIs Tryz.prog W "internal/strconv.uint64pow10" .u64 tabL_3:=Lib.tabIs_of_head (g:=3) (t:=201) (e:=119) (n:=20) (by kernel_rfl) (by kernel_rfl) (by kernel_rfl) (by kernel_rfl) (by kernel_rfl) (by kernel_rfl) q3
  have g3:∃ T fr,W.heap[3]?=some (.cells (tabL_3.map (Value.int .u64)).toArray T fr):=by
    have e:=t3
    unfold Lib.TabIs World.var? at e
    rw [show Tryz.prog.globalNamed "internal/strconv.uint64pow10"=some 3 by kernel_rfl] at e
    simp only [Option.bind_some] at e
    split at e
    · rename_i cs T fr hc
      cases e
      exact ⟨T,fr,hc⟩
    · cases e
  have q7:laidMet Tryz.prog (("math/bits.deBruijn64tab",Lib.tabData .u8 tabL_7)::Rows.logsPartUptoRow.laid.drop 2) W:=zax h0
  have t7:Lib.TabIs Tryz.prog W "math/bits.deBruijn64tab" .u8 tabL_7:=Lib.tabIs_of_head (g:=7) (t:=228) (e:=5) (n:=64) (by kernel_rfl) (by kernel_rfl) (by kernel_rfl) (by kernel_rfl) (by kernel_rfl) (by kernel_rfl) q7
  have g7:∃ T fr,W.heap[7]?=some (.cells (tabL_7.map (Value.int .u8)).toArray T fr):=by
    have e:=t7
    unfold Lib.TabIs World.var? at e
    rw [show Tryz.prog.globalNamed "math/bits.deBruijn64tab"=some 7 by kernel_rfl] at e
    simp only [Option.bind_some] at e
    split at e
    · rename_i cs T fr hc
      cases e
      exact ⟨T,fr,hc⟩
    · cases e
  have g1:∃ ev T fr,W.heap[1]?=some (.cells #[ev] T fr)∧(ev=.nilIface ∨ ∃ te pe,ev=.iface te pe):=errIs (name:= "strconv.ErrSyntax") (rest:=Rows.logsPartUptoRow.laid.drop 6) (t:=77) (by kernel_rfl) (by kernel_rfl) Tryz.underlying77 (zax (zax (zax (zax (zax h0)))))
  have g2:∃ ev T fr,W.heap[2]?=some (.cells #[ev] T fr)∧(ev=.nilIface ∨ ∃ te pe,ev=.iface te pe):=errIs (name:= "strconv.ErrRange") (rest:=Rows.logsPartUptoRow.laid.drop 5) (t:=77) (by kernel_rfl) (by kernel_rfl) Tryz.underlying77 (zax (zax (zax (zax h0))))
  have hl:∀ b T cs fr,W.heap[b]?=some (.cells cs T fr)→b < W.heap.size:=fun _ _ _ _ hb=>(Array.getElem?_eq_some_iff.1 hb).1
  refine ⟨fun b k l e=>?_,fun b e=>?_⟩
  rotate_left
  · have e:(bif Nat.beq b 1 then true else (bif Nat.beq b 2 then true else false))=true:=e
    cases hb1:Nat.beq b 1 <;> rw [hb1] at e
    rotate_left
    · cases e
      obtain rfl:=Nat.eq_of_beq_eq_true hb1
      obtain ⟨ev,T,fr,hc,hv⟩:=g1
      exact ⟨hl _ _ _ _ hc,ev,T,fr,hc,hv⟩
    rw [cond_false] at e
    cases hb2:Nat.beq b 2 <;> rw [hb2] at e
    rotate_left
    · cases e
      obtain rfl:=Nat.eq_of_beq_eq_true hb2
      obtain ⟨ev,T,fr,hc,hv⟩:=g2
      exact ⟨hl _ _ _ _ hc,ev,T,fr,hc,hv⟩
    rw [cond_false] at e
    cases e
  have e:(bif Nat.beq b 3 then some (IntKind.u64,tabL_3) else (bif Nat.beq b 7 then some (IntKind.u8,tabL_7) else none))=some (k,l):=e
  cases hb3:Nat.beq b 3 <;> rw [hb3] at e
  rotate_left
  · cases e
    obtain rfl:=Nat.eq_of_beq_eq_true hb3
    obtain ⟨T,fr,hc⟩:=g3
    exact ⟨hl _ _ _ _ hc,⟨T,fr,hc⟩,by simp only [Fits,lo,hi]; decide⟩
  rw [cond_false] at e
  cases hb7:Nat.beq b 7 <;> rw [hb7] at e
  rotate_left
  · cases e
    obtain rfl:=Nat.eq_of_beq_eq_true hb7
    obtain ⟨T,fr,hc⟩:=g7
    exact ⟨hl _ _ _ _ hc,⟨T,fr,hc⟩,by simp only [Fits,lo,hi]; decide⟩
  rw [cond_false] at e
  cases e
theorem reads (os:Os) {H:Type} (enc:TypeId × Value→H):∃ places,DataW.whole enc Tryz.prog ((zi4 os).forCall (fun _ _=>0) ⟨#[],#[.slice none 0 0,.slice none 0 0,.int .i64 0,.int .i64 0,.int .u8 0],[]⟩).memory Tryz.f5.params.toList Rows.logsPartSpec.vars false (#[.slice none 0 0,.slice none 0 0,.int .i64 0,.int .i64 0,.int .u8 0]:Array Value).toList 8=some ([.nil,.nil,.lit (.int .i64 0),.lit (.int .i64 0),.lit (.int .u8 0)],[],places) :=
  ⟨[],by kernel_rfl⟩
set_option maxRecDepth 100000 in
theorem lifted (os:Os) (started:os.Started) (H:Type) (enc:TypeId × Value→H) (F:Stop.Interp) :
    ReturnsInHanded {} Tryz.checked os 5 .any ((Rows.OpenSpec.upto Rows.logsPartSpec).preRow enc Tryz.prog Tryz.f5 Rows.logsPartUptoRow.domain false Rows.logsPartUptoRow.laid) (((Rows.OpenSpec.upto Rows.logsPartSpec).at F).post enc Tryz.prog Tryz.f5 false true false false):=by
  obtain ⟨_,hx⟩:=reads os enc
  refine returnsInHanded_of_row (C:=Tryz.checked) (s:=Rows.OpenSpec.upto Rows.logsPartSpec) own started (by kernel_rfl) Tryz.func5
    (witness_row_atRef (enc:=enc) (C:=Tryz.checked) false (zi4 os) #[.slice none 0 0,.slice none 0 0,.int .i64 0,.int .i64 0,.int .u8 0] (World.laidAll_os _ _ _) (by kernel_rfl) (by kernel_rfl) (by kernel_rfl)
      (OpenSpec.preRow_of_cond 8 hx (by kernel_rfl) (fun k hk=>by cases hk; kernel_rfl) (by kernel_rfl) (laid_met os))) ?_
  intro W _ _ _ _ _ v hW _ c _ hL _ _
  have hb:=smallUp (c _ rfl)
  rw [zg6] at hb
  exact law_calls (htab:=htab hL) (m:=20) (shss:=[[.l zbS],[.l zbS],[.i .i64],[.i .i64],[.i .u8]]) rfl (tb:=4) (by kernel_rfl) Tryz.underlying4 (by kernel_rfl) (by kernel_rfl) (by kernel_rfl) (fun ds h=>match ds,h with | [_,_,_,_,_],_=>rfl)
    (fun rows h1 h2=>does rows h1 (by omega)) v hW (by simp only [Lim]; omega)
theorem said:Rows.LogsPartUptoSaid :=
  OpenClaim.holds_of_cond 5 Tryz.f5 rfl rfl rfl rfl rfl rfl rfl ⟨rfl,rfl,rfl,rfl,rfl⟩ rfl rfl rfl rfl rfl (by kernel_rfl) Tryz.func5 (by kernel_rfl)
    (of_decide_eq_true (by kernel_rfl)) (by unfold Func.isWrapper; first | (rw [if_pos (by decide +kernel)]; kernel_rfl) | (rw [if_neg (by decide +kernel)]; exact ⟨rfl,rfl⟩))
    (fun os started H enc _ F=>by rw [OpenClaim.pre_eq_preRow]; exact lifted os started H enc F)
theorem plain (f:FuncId) (fn:Func) (hf:Tryz.pinned.checked.prog.funcNamed "outfitter/outlaw1.LogsPart"=some f) (hfn:Tryz.pinned.checked.prog.funcs[f]?=some fn) :
    true=Tryz.pinned.checked.prog.looks []∧∀ (j:Nat) t,fn.params[j]?=some t→Tryz.pinned.checked.prog.wantsStandIn t=false:=by
  obtain rfl:f=5:=Option.some.inj ((show Tryz.prog.funcNamed "outfitter/outlaw1.LogsPart"=some 5 by kernel_rfl).symm.trans hf) |>.symm
  obtain rfl:fn=Tryz.f5:=(Option.some.inj (Tryz.func5.symm.trans hfn)).symm
  refine ⟨by kernel_rfl,fun j t ht=>?_⟩
  have hall:Tryz.f5.params.toList.all (fun t=>!Tryz.prog.wantsStandIn t)=true:=by kernel_rfl
  have hm:t ∈ Tryz.f5.params.toList:=by
    have:=Array.mem_of_getElem? ht
    simpa using this
  have:=List.all_eq_true.1 hall t hm
  show Tryz.prog.wantsStandIn t=false
  simpa using this
theorem logsPart_proved:Rows.LogsPartUptoCardSaid :=
  Claim7.holds_tied_plain_at .later [] _ _ _ _ said (fun _ h=>by cases h) (by kernel_rfl) (fun _ h=>by cases h) logsPartUpto_row_tie rfl ⟨rfl,rfl⟩ (by kernel_rfl) rfl plain (by kernel_rfl)
end Go.Proofs.YtmnohdgjkcjdeaaGreatDoor
#print axioms Go.Proofs.YtmnohdgjkcjdeaaGreatDoor.logsPart_proved
