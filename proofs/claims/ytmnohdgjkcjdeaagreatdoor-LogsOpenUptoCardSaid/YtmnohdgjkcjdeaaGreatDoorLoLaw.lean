/- The statement, proved: of every input of bulk at most 1048576 the law's function says true, and the input reads as it did. -/
import Derived.Test.YtmnohdgjkcjdeaaGreatDoorCards
import Derived.Test.YtmnohdgjkcjdeaaGreatDoorTie
import Derived.Deep.DeepHandedRow
import Derived.Lib.LaidTab
import Derived.Lay
import Derived.Deep.DeepWitnessRowRef
import Derived.Test.YtmnohdgjkcjdeaaGreatDoorLoWk1
import Derived.Test.YtmnohdgjkcjdeaaGreatDoorLoWk2
import Derived.Test.YtmnohdgjkcjdeaaGreatDoorLoWk3
import Derived.Test.YtmnohdgjkcjdeaaGreatDoorLoWk4
import Derived.Test.YtmnohdgjkcjdeaaGreatDoorLoWk5
import Derived.Test.YtmnohdgjkcjdeaaGreatDoorLoWk6
import Derived.Test.YtmnohdgjkcjdeaaGreatDoorLoWk7
import Derived.Test.YtmnohdgjkcjdeaaGreatDoorLoWk8
import Derived.Test.YtmnohdgjkcjdeaaGreatDoorLoWk9
import Derived.Test.YtmnohdgjkcjdeaaGreatDoorLoWk10
import Derived.Test.YtmnohdgjkcjdeaaGreatDoorLoWk11
import Derived.Test.YtmnohdgjkcjdeaaGreatDoorLoWk12
import Derived.Test.YtmnohdgjkcjdeaaGreatDoorLoWk13
import Derived.Test.YtmnohdgjkcjdeaaGreatDoorLoWk14
import Derived.Test.YtmnohdgjkcjdeaaGreatDoorLoPl
namespace Go.Proofs.YtmnohdgjkcjdeaaGreatDoor
open Go.Vc Go.Md
theorem own:ownKnob Tryz.prog.godebug=none:=by kernel_rfl
mutual
theorem bulk_eq {H:Type}:∀ d:DataW H,Rows.uptoBulk d=zbZ d
  | .lit l=>by cases l <;> simp only [Rows.uptoBulk,zbZ]
  | .nil=>by simp only [Rows.uptoBulk,zbZ]
  | .ptr d=>by simp only [Rows.uptoBulk,zbZ,bulk_eq d]
  | .slice a b=>by simp only [Rows.uptoBulk,zbZ,bulks_eq a,bulks_eq b]
  | .agg a=>by simp only [Rows.uptoBulk,zbZ,bulks_eq a]
  | .iface _ d=>by simp only [Rows.uptoBulk,zbZ,bulk_eq d]
  | .map es=>by simp only [Rows.uptoBulk,zbZ,bulkEs_eq es]
  | .held _=>by simp only [Rows.uptoBulk,zbZ]
theorem bulks_eq {H:Type}:∀ d:List (DataW H),Rows.uptoBulkAll d=zbe d
  | []=>by simp only [Rows.uptoBulkAll,zbe]
  | d::r=>by simp only [Rows.uptoBulkAll,zbe,bulk_eq d,bulks_eq r]
theorem bulkEs_eq {H:Type}:∀ d:List (Lit × DataW H),Rows.uptoBulkEntries d=bulkEs d
  | []=>by simp only [Rows.uptoBulkEntries,bulkEs]
  | x::r=>by simp only [Rows.uptoBulkEntries,bulkEs,bulkE_eq x,bulkEs_eq r]
theorem bulkE_eq {H:Type}:∀ d:Lit × DataW H,Rows.uptoBulkEntry d=bulkE d
  | (l,d)=>by cases l <;> simp only [Rows.uptoBulkEntry,bulkE,bulk_eq d]
end
theorem smallUp {H:Type} {l:List (DataW H)} (hk:Rows.uptoSmall H l=true):zbe l≤1048576:=by
  rw [← bulks_eq]; exact of_decide_eq_true hk
theorem prOf {l:List api_Record} (h:bulkT (.l (List.map za l))≤1048576):∀ r ∈ l,Pr r:=fun r hr=>by
  simp only [bulkT] at h
  have:=bulk_map_mem (f:=za) hr
  simp only [za,zd3,bulkT] at this
  exact ⟨by omega,by omega⟩
theorem does (rows:List (List Dt)) (h:hasAll rows [[.l zdk],[.i .i64],[.i .i64],[.i .u8]]) (hb:zdh rows≤1048576) :
    Does Tryz.prog 4 (argVs [false,false,false,false] rows) [] fun r X=>r=.p (.b true)∧X=[]:=by
  rcases rows with _ | ⟨r0,_ | ⟨r1,_ | ⟨r2,_ | ⟨r3,_ | _⟩⟩⟩⟩ <;> simp only [hasAll,and_false,and_true] at h
  obtain ⟨h0,h1,h2,h3⟩:=h
  rcases r0 with _ | ⟨d0,_ | _⟩ <;> simp only [zeN,and_false,and_true] at h0
  cases d0 <;> simp only [zeM] at h0
  obtain ⟨a0,rfl⟩:=hasRs_map dec_api_Record h0
  obtain ⟨a1,rfl⟩:=dec1_i64 r1 h1
  obtain ⟨a2,rfl⟩:=dec1_i64 r2 h2
  obtain ⟨a3,rfl⟩:=dec1_u8 r3 h3
  simp only [zdh,zd3] at hb
  refine Does.facts ⟨_,Tryz.func4,by kernel_rfl,by kernel_rfl⟩ fun hok=>?_
  simp only [argVs,argV,zac,zaU,cond_false,Va.oks,Va.ok,DtOk,Fits,lo,hi] at hok
  exact ok_Law_LogsOpen a0 a1 a2 a3 true (law_lo a0 a1 a2 a3 (prOf (by omega)) (by omega) (by omega))

/-! ### the row -/
noncomputable def laidWorld (os:Os):World:=World.laidAll Tryz.prog os Rows.logsOpenUptoRow.laid
theorem laid_met (os:Os):laidMet Tryz.prog Rows.logsOpenUptoRow.laid ((laidWorld os).forCall (fun _ _=>0) ⟨#[],#[.slice none 0 0,.int .i64 0,.int .i64 0,.int .u8 0],[]⟩).memory :=
  laidMet_laidAll _ (by kernel_rfl) (by kernel_rfl)
theorem zav {P:Program} {W:World} {x:String × DataW Unit} {l:List (String × DataW Unit)} (h:laidMet P (x::l) W):laidMet P l W:=by
  obtain ⟨n,d⟩:=x
  obtain ⟨ps,⟨g,t,cs,fuel,p,q,h1,h2,h3,h4,h5,rfl⟩,h6,h7⟩:=h
  exact ⟨q,h5,(List.nodup_append.1 h6).2.1,fun b off hm=>h7 b off (List.mem_append.2 (.inr hm))⟩
theorem iface_of_trod {H:Type} {enc:TypeId × Value→H} {P:Program} {w:World} {base:Nat} {sp:Nat→Bool} {held:Bool} {fuel:Nat} {t:TypeId} {cs:List Value} {nm:String} {d:DataW H} {p:List MemPlace} {mi}
    (ht:P.underlying t=some (.interface mi)) (h:DataW.trod enc P w base sp held fuel t cs=some (.iface nm d,p)):∃ u v,cs=[.iface u v]:=by
  cases fuel with
  | zero=>simp [DataW.trod] at h
  | succ fuel =>
    unfold DataW.trod at h
    rw [ht] at h
    split at h <;> simp_all
theorem errIs {P:Program} {W:World} {name nm:String} {d:DataW Unit} {rest:List (String × DataW Unit)} {g:Nat} {t:TypeId} {mi}
    (hg:P.globalNamed name=some g) (hty:(P.globals[g]?).map (·.type)=some t) (ht:P.underlying t=some (.interface mi)) (h:laidMet P ((name,.iface nm d)::rest) W) :
    ∃ ev T fr,W.heap[g]?=some (.cells #[ev] T fr)∧(ev=.nilIface ∨ ∃ te pe,ev=.iface te pe):=by
  obtain ⟨ps,⟨g',t',cs,fuel,p,q,hg',ht',hvar,hd,_,_⟩,_⟩:=h
  obtain rfl:=Option.some.inj (hg.symm.trans hg')
  obtain rfl:=Option.some.inj (hty.symm.trans ht')
  obtain ⟨u,v,hc⟩:=iface_of_trod ht hd
  unfold World.var? at hvar
  rw [hg] at hvar
  simp only [Option.bind_some] at hvar
  split at hvar
  · rename_i cs' T fr hb
    cases hvar
    refine ⟨.iface u v,T,fr,?_,.inr ⟨u,v,rfl⟩⟩
    rw [hb]
    congr
    rw [← Array.toList_inj]
    exact hc
  · cases hvar
theorem htab {W:World} (h:laidMetH Tryz.prog Rows.logsOpenUptoRow.laid W):TabOk (allOf W) W.heap:=by
  have h0:laidMet Tryz.prog Rows.logsOpenUptoRow.laid W:=by rw [← MakeChecks.laidMetH_plain _ _ _ (by kernel_rfl)]; exact h
  have q3:laidMet Tryz.prog (("internal/strconv.uint64pow10",Lib.tabData .u64 tabL_3)::Rows.logsOpenUptoRow.laid.drop 3) W:=zav (zav h0)
  have t3:Lib.TabIs Tryz.prog W "internal/strconv.uint64pow10" .u64 tabL_3:=Lib.tabIs_of_head (g:=3) (t:=201) (e:=119) (n:=20) (by kernel_rfl) (by kernel_rfl) (by kernel_rfl) (by kernel_rfl) (by kernel_rfl) (by kernel_rfl) q3
  have g3:∃ T fr,W.heap[3]?=some (.cells (tabL_3.map (Value.int .u64)).toArray T fr):=by
    have e:=t3
    unfold Lib.TabIs World.var? at e
    rw [show Tryz.prog.globalNamed "internal/strconv.uint64pow10"=some 3 by kernel_rfl] at e
    simp only [Option.bind_some] at e
    split at e
    · rename_i cs T fr hc
      cases e
      exact ⟨T,fr,hc⟩
    · cases e
  have q7:laidMet Tryz.prog (("math/bits.deBruijn64tab",Lib.tabData .u8 tabL_7)::Rows.logsOpenUptoRow.laid.drop 2) W:=zav h0
  have t7:Lib.TabIs Tryz.prog W "math/bits.deBruijn64tab" .u8 tabL_7:=Lib.tabIs_of_head (g:=7) (t:=228) (e:=5) (n:=64) (by kernel_rfl) (by kernel_rfl) (by kernel_rfl) (by kernel_rfl) (by kernel_rfl) (by kernel_rfl) q7
  have g7:∃ T fr,W.heap[7]?=some (.cells (tabL_7.map (Value.int .u8)).toArray T fr):=by
    have e:=t7
    unfold Lib.TabIs World.var? at e
    rw [show Tryz.prog.globalNamed "math/bits.deBruijn64tab"=some 7 by kernel_rfl] at e
    simp only [Option.bind_some] at e
    split at e
    · rename_i cs T fr hc
      cases e
      exact ⟨T,fr,hc⟩
    · cases e
  have g1:∃ ev T fr,W.heap[1]?=some (.cells #[ev] T fr)∧(ev=.nilIface ∨ ∃ te pe,ev=.iface te pe):=errIs (name:= "strconv.ErrSyntax") (rest:=Rows.logsOpenUptoRow.laid.drop 6) (t:=77) (by kernel_rfl) (by kernel_rfl) Tryz.underlying77 (zav (zav (zav (zav (zav h0)))))
  have g2:∃ ev T fr,W.heap[2]?=some (.cells #[ev] T fr)∧(ev=.nilIface ∨ ∃ te pe,ev=.iface te pe):=errIs (name:= "strconv.ErrRange") (rest:=Rows.logsOpenUptoRow.laid.drop 5) (t:=77) (by kernel_rfl) (by kernel_rfl) Tryz.underlying77 (zav (zav (zav (zav h0))))
  refine ⟨fun b k l e=>?_,fun b e=>?_⟩
  rotate_left
  · have e:(bif Nat.beq b 1 then true else (bif Nat.beq b 2 then true else false))=true:=e
    have hlt:∀ b T cs fr,W.heap[b]?=some (.cells cs T fr)→b < W.heap.size:=fun b T cs fr hb=>(Array.getElem?_eq_some_iff.1 hb).1
    cases hb1:Nat.beq b 1 <;> rw [hb1] at e
    rotate_left
    · cases e
      obtain rfl:=Nat.eq_of_beq_eq_true hb1
      obtain ⟨ev,T,fr,hc,hv⟩:=g1
      exact ⟨hlt _ _ _ _ hc,ev,T,fr,hc,hv⟩
    rw [cond_false] at e
    cases hb2:Nat.beq b 2 <;> rw [hb2] at e
    rotate_left
    · cases e
      obtain rfl:=Nat.eq_of_beq_eq_true hb2
      obtain ⟨ev,T,fr,hc,hv⟩:=g2
      exact ⟨hlt _ _ _ _ hc,ev,T,fr,hc,hv⟩
    rw [cond_false] at e
    cases e
  have hlt:∀ b T cs fr,W.heap[b]?=some (.cells cs T fr)→b < W.heap.size:=fun b T cs fr hb=>(Array.getElem?_eq_some_iff.1 hb).1
  have e:(bif Nat.beq b 3 then some (IntKind.u64,tabL_3) else (bif Nat.beq b 7 then some (IntKind.u8,tabL_7) else none))=some (k,l):=e
  cases hb3:Nat.beq b 3 <;> rw [hb3] at e
  rotate_left
  · cases e
    obtain rfl:=Nat.eq_of_beq_eq_true hb3
    obtain ⟨T,fr,hc⟩:=g3
    exact ⟨hlt _ _ _ _ hc,⟨T,fr,hc⟩,by simp only [Fits,lo,hi]; decide⟩
  rw [cond_false] at e
  cases hb7:Nat.beq b 7 <;> rw [hb7] at e
  rotate_left
  · cases e
    obtain rfl:=Nat.eq_of_beq_eq_true hb7
    obtain ⟨T,fr,hc⟩:=g7
    exact ⟨hlt _ _ _ _ hc,⟨T,fr,hc⟩,by simp only [Fits,lo,hi]; decide⟩
  rw [cond_false] at e
  cases e
theorem reads (os:Os) {H:Type} (enc:TypeId × Value→H):∃ places,DataW.whole enc Tryz.prog ((laidWorld os).forCall (fun _ _=>0) ⟨#[],#[.slice none 0 0,.int .i64 0,.int .i64 0,.int .u8 0],[]⟩).memory Tryz.f4.params.toList Rows.logsOpenSpec.vars false (#[.slice none 0 0,.int .i64 0,.int .i64 0,.int .u8 0]:Array Value).toList 8=some ([.nil,.lit (.int .i64 0),.lit (.int .i64 0),.lit (.int .u8 0)],[],places) :=
  ⟨[],by kernel_rfl⟩
set_option maxRecDepth 100000 in
theorem lifted (os:Os) (started:os.Started) (H:Type) (enc:TypeId × Value→H) (F:Stop.Interp) :
    ReturnsInHanded {} Tryz.checked os 4 .any ((Rows.OpenSpec.upto Rows.logsOpenSpec).preRow enc Tryz.prog Tryz.f4 Rows.logsOpenUptoRow.domain false Rows.logsOpenUptoRow.laid) (((Rows.OpenSpec.upto Rows.logsOpenSpec).at F).post enc Tryz.prog Tryz.f4 false true false false):=by
  obtain ⟨places,hx⟩:=reads os enc
  refine returnsInHanded_of_row (C:=Tryz.checked) (s:=Rows.OpenSpec.upto Rows.logsOpenSpec) own started (by kernel_rfl) Tryz.func4
    (witness_row_atRef (enc:=enc) (C:=Tryz.checked) false (laidWorld os) #[.slice none 0 0,.int .i64 0,.int .i64 0,.int .u8 0] (World.laidAll_os _ _ _) (by kernel_rfl) (by kernel_rfl) (by kernel_rfl)
      (OpenSpec.preRow_of_cond 8 hx (by kernel_rfl) (fun k hk=>by cases hk; kernel_rfl) (by kernel_rfl) (laid_met os))) ?_
  intro W base args ds gs before hval hW _ hcond _ hL _ _
  have hb:=smallUp (hcond _ rfl)
  rw [bulkDs_append] at hb
  exact law_calls (htab:=htab hL) (m:=20) (shss:=[[.l zdk],[.i .i64],[.i .i64],[.i .u8]]) rfl (tb:=4) (by kernel_rfl) Tryz.underlying4 (by kernel_rfl) (by kernel_rfl) (by kernel_rfl) (fun ds h=>match ds,h with | [_,_,_,_],_=>rfl)
    (fun rows h1 h2=>does rows h1 (by omega)) hval hW (by simp only [Lim]; omega)
theorem said:Rows.LogsOpenUptoSaid :=
  OpenClaim.holds_of_cond 4 Tryz.f4 rfl rfl rfl rfl rfl rfl rfl ⟨rfl,rfl,rfl,rfl,rfl⟩ rfl rfl rfl rfl rfl (by kernel_rfl) Tryz.func4 (by kernel_rfl)
    (of_decide_eq_true (by kernel_rfl)) (by unfold Func.isWrapper; first | (rw [if_pos (by decide +kernel)]; kernel_rfl) | (rw [if_neg (by decide +kernel)]; exact ⟨rfl,rfl⟩))
    (fun os started H enc _ F=>by rw [OpenClaim.pre_eq_preRow]; exact lifted os started H enc F)
theorem plain (f:FuncId) (fn:Func) (hf:Tryz.pinned.checked.prog.funcNamed "outfitter/outlaw1.LogsOpen"=some f) (hfn:Tryz.pinned.checked.prog.funcs[f]?=some fn) :
    true=Tryz.pinned.checked.prog.looks []∧∀ (j:Nat) t,fn.params[j]?=some t→Tryz.pinned.checked.prog.wantsStandIn t=false:=by
  obtain rfl:f=4:=Option.some.inj ((show Tryz.prog.funcNamed "outfitter/outlaw1.LogsOpen"=some 4 by kernel_rfl).symm.trans hf) |>.symm
  obtain rfl:fn=Tryz.f4:=(Option.some.inj (Tryz.func4.symm.trans hfn)).symm
  refine ⟨by kernel_rfl,fun j t ht=>?_⟩
  have hall:Tryz.f4.params.toList.all (fun t=>!Tryz.prog.wantsStandIn t)=true:=by kernel_rfl
  have hm:t ∈ Tryz.f4.params.toList:=by
    have:=Array.mem_of_getElem? ht
    simpa using this
  have:=List.all_eq_true.1 hall t hm
  show Tryz.prog.wantsStandIn t=false
  simpa using this
theorem logsOpen_proved:Rows.LogsOpenUptoCardSaid :=
  Claim7.holds_tied_plain_at .later [] _ _ _ _ said (fun _ h=>by cases h) (by kernel_rfl) (fun _ h=>by cases h) logsOpenUpto_row_tie rfl ⟨rfl,rfl⟩ (by kernel_rfl) rfl plain (by kernel_rfl)
end Go.Proofs.YtmnohdgjkcjdeaaGreatDoor
#print axioms Go.Proofs.YtmnohdgjkcjdeaaGreatDoor.logsOpen_proved
