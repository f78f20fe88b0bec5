/- What the law's function does, as the row asks: of every input of bulk at most 1048576 the law's function says true, and the input reads as it did. -/
import Derived.Test.YtbofknpajcdnmaaGreatDoorCards
import Derived.Test.YtbofknpajcdnmaaGreatDoorTie
import Derived.Deep.DeepHandedRow
import Derived.Lib.LaidTab
import Derived.Lay
import Derived.Deep.DeepWitnessRowRef
import Derived.Test.YtbofknpajcdnmaaGreatDoorJmWk1
import Derived.Test.YtbofknpajcdnmaaGreatDoorJmWk2
import Derived.Test.YtbofknpajcdnmaaGreatDoorJmWk3
import Derived.Test.YtbofknpajcdnmaaGreatDoorJmWk4
import Derived.Test.YtbofknpajcdnmaaGreatDoorJmWk5
import Derived.Test.YtbofknpajcdnmaaGreatDoorJmWk6
import Derived.Test.YtbofknpajcdnmaaGreatDoorJmWk7
import Derived.Test.YtbofknpajcdnmaaGreatDoorJmWk8
import Derived.Test.YtbofknpajcdnmaaGreatDoorJmPl
namespace Go.Proofs.YtbofknpajcdnmaaGreatDoor
open Go.Vc Go.Md
theorem own:ownKnob Tryz.prog.godebug=none:=by kernel_rfl
mutual
theorem bulk_eq {H:Type}:∀ d:DataW H,Rows.uptoBulk d=bulkD d
  | .lit l=>by cases l <;> simp only [Rows.uptoBulk,bulkD]
  | .nil=>by simp only [Rows.uptoBulk,bulkD]
  | .ptr d=>by simp only [Rows.uptoBulk,bulkD,bulk_eq d]
  | .slice a b=>by simp only [Rows.uptoBulk,bulkD,bulks_eq a,bulks_eq b]
  | .agg a=>by simp only [Rows.uptoBulk,bulkD,bulks_eq a]
  | .iface _ d=>by simp only [Rows.uptoBulk,bulkD,bulk_eq d]
  | .map es=>by simp only [Rows.uptoBulk,bulkD,bulkEs_eq es]
  | .held _=>by simp only [Rows.uptoBulk,bulkD]
theorem bulks_eq {H:Type}:∀ d:List (DataW H),Rows.uptoBulkAll d=bulkDs d
  | []=>by simp only [Rows.uptoBulkAll,bulkDs]
  | d::r=>by simp only [Rows.uptoBulkAll,bulkDs,bulk_eq d,bulks_eq r]
theorem bulkEs_eq {H:Type}:∀ d:List (Lit × DataW H),Rows.uptoBulkEntries d=bulkEs d
  | []=>by simp only [Rows.uptoBulkEntries,bulkEs]
  | x::r=>by simp only [Rows.uptoBulkEntries,bulkEs,bulkE_eq x,bulkEs_eq r]
theorem bulkE_eq {H:Type}:∀ d:Lit × DataW H,Rows.uptoBulkEntry d=bulkE d
  | (l,d)=>by cases l <;> simp only [Rows.uptoBulkEntry,bulkE,bulk_eq d]
end
theorem smallUp {H:Type} {l:List (DataW H)} (hk:Rows.uptoSmall H l=true):bulkDs l≤1048576:=by
  rw [← bulks_eq]; exact of_decide_eq_true hk
theorem line_bulk (c:api_Change):(lineC c).length+1≤4 * bulkR (enc_api_Change c):=by
  have q1:=quoteS_len c.File.Data
  have q2:=quoteS_len c.Setting.Value
  have b1:=bitW_len c.Service.Auto
  have b2:=bitW_len c.Service.On
  simp only [enc_api_Change,bulkR,bulkT]
  unfold lineC fileW setW svcW
  cases decide (c.Kind=1)
  · cases decide (c.Kind=2)
    · cases decide (c.Kind=3)
      · cases decide (c.Kind=4)
        · cases decide (c.Kind=5)
          · simp only [cond_false,List.length_append,List.length_cons,List.length_nil]; omega
          · simp only [cond_false,cond_true,List.length_append,List.length_cons,List.length_nil,b1,b2]; omega
        · simp only [cond_false,cond_true,List.length_append,List.length_cons,List.length_nil]; omega
      · simp only [cond_false,cond_true,List.length_append,List.length_cons,List.length_nil]; omega
    · simp only [cond_false,cond_true,List.length_append,List.length_cons,List.length_nil]; omega
  · cases c.File.Runs <;> (simp only [cond_false,cond_true,List.length_append,List.length_cons,List.length_nil]; omega)
theorem print_bulk:∀ l:List api_Change,(printC l).length≤4 * bulkRs (l.map enc_api_Change)
  | []=>by simp [printC]
  | c::l=>by
    have h1:=line_bulk c
    have h2:=print_bulk l
    rw [printC_cons]
    simp only [List.map_cons,bulkRs,List.length_append,List.length_cons,List.length_nil]
    omega
theorem smL (l:List api_Change) (h:bulkRs (l.map enc_api_Change)≤1048576):SmL l:=by
  have hp:=print_bulk l
  have hm:∀ c ∈ l,bulkR (enc_api_Change c)≤1048576:=fun c hc=>by
    have:=bulk_map_mem (f:=enc_api_Change) hc
    omega
  refine ⟨fun c hc=>?_,fun c hc=>?_,by omega,?_⟩
  · have:=hm c hc
    simp only [enc_api_Change,bulkR,bulkT] at this
    exact ⟨by simp only [Sm]; omega,by simp only [Sm]; omega,by simp only [Sm]; omega⟩
  · have:=hm c hc
    simp only [enc_api_Change,bulkR,bulkT] at this
    exact ⟨by omega,by omega⟩
  · have:=bulk_map_len (f:=enc_api_Change) (fun x e=>by simp [enc_api_Change] at e) l
    omega
theorem does (rows:List (List Dt)) (h:hasAll rows [sh_api_Journal,[.i .i64],[.i .u8],[.s]]) (hb:bulkRs rows≤1048576) :
    Does Tryz.prog 5 (argVs [true,false,false,false] rows) [] fun r X=>r=.p (.b true)∧X=[]:=by
  rcases rows with _ | ⟨r0,_ | ⟨r1,_ | ⟨r2,_ | ⟨r3,_ | _⟩⟩⟩⟩ <;> simp only [hasAll,and_false,and_true] at h
  obtain ⟨h0,h1,h2,h3⟩:=h
  obtain ⟨a0,rfl⟩:=dec_api_Journal r0 h0
  obtain ⟨a1,rfl⟩:=dec1_i64 r1 h1
  obtain ⟨a2,rfl⟩:=dec1_u8 r2 h2
  obtain ⟨a3,rfl⟩:=dec1_s r3 h3
  simp only [bulkRs] at hb
  refine Does.facts ⟨_,Tryz.func5,by kernel_rfl,by kernel_rfl⟩ fun hok=>?_
  simp only [argVs,argV,ecI_u8,ecI_i64,cond_false,Va.oks,Va.ok,DtOk,Fits,lo,hi] at hok
  have hj:bulkR (enc_api_Journal a0)≤1048576:=by omega
  simp only [enc_api_Journal,bulkR,bulkT] at hj
  have hr:bulkR (ecS a3)≤1048576:=by omega
  simp only [ecS,bulkR,bulkT] at hr
  exact ok_Law_JournalsMatch a0 a1 a2 a3 true (law_jm a0 a1 a2 a3 (smL _ (by omega)) (smL _ (by omega)) (by omega) (by omega) (by omega))

/-! ### the row -/
noncomputable def laidWorld (os:Os):World:=World.laidAll Tryz.prog os Rows.journalsMatchUptoRow.laid
theorem laid_met (os:Os):laidMet Tryz.prog Rows.journalsMatchUptoRow.laid ((laidWorld os).forCall (fun _ _=>0) ⟨#[],#[.agg #[.string .empty,.slice none 0 0,.slice none 0 0],.int .i64 0,.int .u8 0,.string .empty],[]⟩).memory :=
  laidMet_laidAll _ (by kernel_rfl) (by kernel_rfl)
theorem laidMet_tail {P:Program} {W:World} {x:String × DataW Unit} {l:List (String × DataW Unit)} (h:laidMet P (x::l) W):laidMet P l W:=by
  obtain ⟨n,d⟩:=x
  obtain ⟨ps,⟨g,t,cs,fuel,p,q,h1,h2,h3,h4,h5,rfl⟩,h6,h7⟩:=h
  exact ⟨q,h5,(List.nodup_append.1 h6).2.1,fun b off hm=>h7 b off (List.mem_append.2 (.inr hm))⟩
theorem iface_of_trod {H:Type} {enc:TypeId × Value→H} {P:Program} {w:World} {base:Nat} {sp:Nat→Bool} {held:Bool} {fuel:Nat} {t:TypeId} {cs:List Value} {nm:String} {d:DataW H} {p:List MemPlace} {mi}
    (ht:P.underlying t=some (.interface mi)) (h:DataW.trod enc P w base sp held fuel t cs=some (.iface nm d,p)):∃ u v,cs=[.iface u v]:=by
  cases fuel with
  | zero=>simp [DataW.trod] at h
  | succ fuel =>
    unfold DataW.trod at h
    rw [ht] at h
    split at h <;> simp_all
theorem errIs {P:Program} {W:World} {name nm:String} {d:DataW Unit} {rest:List (String × DataW Unit)} {g:Nat} {t:TypeId} {mi}
    (hg:P.globalNamed name=some g) (hty:(P.globals[g]?).map (·.type)=some t) (ht:P.underlying t=some (.interface mi)) (h:laidMet P ((name,.iface nm d)::rest) W) :
    ∃ ev T fr,W.heap[g]?=some (.cells #[ev] T fr)∧(ev=.nilIface ∨ ∃ te pe,ev=.iface te pe):=by
  obtain ⟨ps,⟨g',t',cs,fuel,p,q,hg',ht',hvar,hd,_,_⟩,_⟩:=h
  obtain rfl:=Option.some.inj (hg.symm.trans hg')
  obtain rfl:=Option.some.inj (hty.symm.trans ht')
  obtain ⟨u,v,hc⟩:=iface_of_trod ht hd
  unfold World.var? at hvar
  rw [hg] at hvar
  simp only [Option.bind_some] at hvar
  split at hvar
  · rename_i cs' T fr hb
    cases hvar
    refine ⟨.iface u v,T,fr,?_,.inr ⟨u,v,rfl⟩⟩
    rw [hb]
    congr
    rw [← Array.toList_inj]
    exact hc
  · cases hvar
theorem htab {W:World} (h:laidMetH Tryz.prog Rows.journalsMatchUptoRow.laid W):TabOk (allOf W) W.heap:=by
  have h0:laidMet Tryz.prog Rows.journalsMatchUptoRow.laid W:=by rw [← MakeChecks.laidMetH_plain _ _ _ (by kernel_rfl)]; exact h
  have q3:laidMet Tryz.prog (("internal/strconv.uint64pow10",Lib.tabData .u64 tabL_3)::Rows.journalsMatchUptoRow.laid.drop 3) W:=laidMet_tail (laidMet_tail h0)
  have t3:Lib.TabIs Tryz.prog W "internal/strconv.uint64pow10" .u64 tabL_3:=Lib.tabIs_of_head (g:=3) (t:=318) (e:=216) (n:=20) (by kernel_rfl) (by kernel_rfl) (by kernel_rfl) (by kernel_rfl) (by kernel_rfl) (by kernel_rfl) q3
  have g3:∃ T fr,W.heap[3]?=some (.cells (tabL_3.map (Value.int .u64)).toArray T fr):=by
    have e:=t3
    unfold Lib.TabIs World.var? at e
    rw [show Tryz.prog.globalNamed "internal/strconv.uint64pow10"=some 3 by kernel_rfl] at e
    simp only [Option.bind_some] at e
    split at e
    · rename_i cs T fr hc
      cases e
      exact ⟨T,fr,hc⟩
    · cases e
  have q7:laidMet Tryz.prog (("math/bits.deBruijn64tab",Lib.tabData .u8 tabL_7)::Rows.journalsMatchUptoRow.laid.drop 2) W:=laidMet_tail h0
  have t7:Lib.TabIs Tryz.prog W "math/bits.deBruijn64tab" .u8 tabL_7:=Lib.tabIs_of_head (g:=7) (t:=347) (e:=5) (n:=64) (by kernel_rfl) (by kernel_rfl) (by kernel_rfl) (by kernel_rfl) (by kernel_rfl) (by kernel_rfl) q7
  have g7:∃ T fr,W.heap[7]?=some (.cells (tabL_7.map (Value.int .u8)).toArray T fr):=by
    have e:=t7
    unfold Lib.TabIs World.var? at e
    rw [show Tryz.prog.globalNamed "math/bits.deBruijn64tab"=some 7 by kernel_rfl] at e
    simp only [Option.bind_some] at e
    split at e
    · rename_i cs T fr hc
      cases e
      exact ⟨T,fr,hc⟩
    · cases e
  have g1:∃ ev T fr,W.heap[1]?=some (.cells #[ev] T fr)∧(ev=.nilIface ∨ ∃ te pe,ev=.iface te pe):=errIs (name:= "strconv.ErrSyntax") (rest:=Rows.journalsMatchUptoRow.laid.drop 6) (t:=167) (by kernel_rfl) (by kernel_rfl) Tryz.underlying167 (laidMet_tail (laidMet_tail (laidMet_tail (laidMet_tail (laidMet_tail h0)))))
  have g2:∃ ev T fr,W.heap[2]?=some (.cells #[ev] T fr)∧(ev=.nilIface ∨ ∃ te pe,ev=.iface te pe):=errIs (name:= "strconv.ErrRange") (rest:=Rows.journalsMatchUptoRow.laid.drop 5) (t:=167) (by kernel_rfl) (by kernel_rfl) Tryz.underlying167 (laidMet_tail (laidMet_tail (laidMet_tail (laidMet_tail h0))))
  refine ⟨fun b k l e=>?_,fun b e=>?_⟩
  rotate_left
  · have e:(bif Nat.beq b 1 then true else (bif Nat.beq b 2 then true else false))=true:=e
    have hlt:∀ b T cs fr,W.heap[b]?=some (.cells cs T fr)→b < W.heap.size:=fun b T cs fr hb=>(Array.getElem?_eq_some_iff.1 hb).1
    cases hb1:Nat.beq b 1 <;> rw [hb1] at e
    rotate_left
    · cases e
      obtain rfl:=Nat.eq_of_beq_eq_true hb1
      obtain ⟨ev,T,fr,hc,hv⟩:=g1
      exact ⟨hlt _ _ _ _ hc,ev,T,fr,hc,hv⟩
    rw [cond_false] at e
    cases hb2:Nat.beq b 2 <;> rw [hb2] at e
    rotate_left
    · cases e
      obtain rfl:=Nat.eq_of_beq_eq_true hb2
      obtain ⟨ev,T,fr,hc,hv⟩:=g2
      exact ⟨hlt _ _ _ _ hc,ev,T,fr,hc,hv⟩
    rw [cond_false] at e
    cases e
  have hlt:∀ b T cs fr,W.heap[b]?=some (.cells cs T fr)→b < W.heap.size:=fun b T cs fr hb=>(Array.getElem?_eq_some_iff.1 hb).1
  have e:(bif Nat.beq b 3 then some (IntKind.u64,tabL_3) else (bif Nat.beq b 7 then some (IntKind.u8,tabL_7) else none))=some (k,l):=e
  cases hb3:Nat.beq b 3 <;> rw [hb3] at e
  rotate_left
  · cases e
    obtain rfl:=Nat.eq_of_beq_eq_true hb3
    obtain ⟨T,fr,hc⟩:=g3
    exact ⟨hlt _ _ _ _ hc,⟨T,fr,hc⟩,by simp only [Fits,lo,hi]; decide⟩
  rw [cond_false] at e
  cases hb7:Nat.beq b 7 <;> rw [hb7] at e
  rotate_left
  · cases e
    obtain rfl:=Nat.eq_of_beq_eq_true hb7
    obtain ⟨T,fr,hc⟩:=g7
    exact ⟨hlt _ _ _ _ hc,⟨T,fr,hc⟩,by simp only [Fits,lo,hi]; decide⟩
  rw [cond_false] at e
  cases e
theorem reads (os:Os) {H:Type} (enc:TypeId × Value→H):∃ places,DataW.whole enc Tryz.prog ((laidWorld os).forCall (fun _ _=>0) ⟨#[],#[.agg #[.string .empty,.slice none 0 0,.slice none 0 0],.int .i64 0,.int .u8 0,.string .empty],[]⟩).memory Tryz.f5.params.toList Rows.journalsMatchSpec.vars false (#[.agg #[.string .empty,.slice none 0 0,.slice none 0 0],.int .i64 0,.int .u8 0,.string .empty]:Array Value).toList 8=some ([.agg [.lit (.string []),.nil,.nil],.lit (.int .i64 0),.lit (.int .u8 0),.lit (.string [])],[],places) :=
  ⟨[],by kernel_rfl⟩
set_option maxRecDepth 100000 in
theorem lifted (os:Os) (started:os.Started) (H:Type) (enc:TypeId × Value→H) (F:Stop.Interp) :
    ReturnsInHanded {} Tryz.checked os 5 .any ((Rows.OpenSpec.upto Rows.journalsMatchSpec).preRow enc Tryz.prog Tryz.f5 Rows.journalsMatchUptoRow.domain false Rows.journalsMatchUptoRow.laid) (((Rows.OpenSpec.upto Rows.journalsMatchSpec).at F).post enc Tryz.prog Tryz.f5 false true false false):=by
  obtain ⟨places,hx⟩:=reads os enc
  refine returnsInHanded_of_row (C:=Tryz.checked) (s:=Rows.OpenSpec.upto Rows.journalsMatchSpec) own started (by kernel_rfl) Tryz.func5
    (witness_row_atRef (enc:=enc) (C:=Tryz.checked) false (laidWorld os) #[.agg #[.string .empty,.slice none 0 0,.slice none 0 0],.int .i64 0,.int .u8 0,.string .empty] (World.laidAll_os _ _ _) (by kernel_rfl) (by kernel_rfl) (by kernel_rfl)
      (OpenSpec.preRow_of_cond 8 hx (by kernel_rfl) (fun k hk=>by cases hk; kernel_rfl) (by kernel_rfl) (laid_met os))) ?_
  intro W base args ds gs before hval hW _ hcond _ hL _ _
  have hb:=smallUp (hcond _ rfl)
  rw [bulkDs_append] at hb
  exact law_calls (htab:=htab hL) (m:=20) (shss:=[sh_api_Journal,[.i .i64],[.i .u8],[.s]]) rfl (tb:=4) (by kernel_rfl) Tryz.underlying4 (by kernel_rfl) (by kernel_rfl) (by kernel_rfl) (fun ds h=>match ds,h with | [_,_,_,_],_=>rfl)
    (fun rows h1 h2=>does rows h1 (by omega)) hval hW (by simp only [Lim]; omega)
end Go.Proofs.YtbofknpajcdnmaaGreatDoor
