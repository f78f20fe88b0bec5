/- The statement, proved: of every input of bulk at most 1048576 the law's function says true, and the input reads as it did. -/
import Derived.Test.YtkekfenkeeiigaaDoorCards
import Derived.Test.YtkekfenkeeiigaaDoorTie
import Derived.Deep.DeepHandedRow
import Derived.Lib.LaidTab
import Derived.Lay
import Derived.Deep.DeepWitnessRowRef
import Derived.Test.YtkekfenkeeiigaaDoorTdWk1
import Derived.Test.YtkekfenkeeiigaaDoorTdWk2
import Derived.Test.YtkekfenkeeiigaaDoorTdWk3
import Derived.Test.YtkekfenkeeiigaaDoorTdWk4
import Derived.Test.YtkekfenkeeiigaaDoorTdWk5
import Derived.Test.YtkekfenkeeiigaaDoorTdWk6
import Derived.Test.YtkekfenkeeiigaaDoorTdWk7
import Derived.Test.YtkekfenkeeiigaaDoorTdPl
namespace Go.Proofs.YtkekfenkeeiigaaDoor
open Go.Vc Go.Md
theorem own:ownKnob Tryd.prog.godebug=none:=by kernel_rfl
mutual
theorem bulk_eq {H:Type}:∀ d:DataW H,Rows.uptoBulk d=bulkD d
  | .lit l=>by cases l <;> simp only [Rows.uptoBulk,bulkD]
  | .nil=>by simp only [Rows.uptoBulk,bulkD]
  | .ptr d=>by simp only [Rows.uptoBulk,bulkD,bulk_eq d]
  | .slice a b=>by simp only [Rows.uptoBulk,bulkD,bulks_eq a,bulks_eq b]
  | .agg a=>by simp only [Rows.uptoBulk,bulkD,bulks_eq a]
  | .iface _ d=>by simp only [Rows.uptoBulk,bulkD,bulk_eq d]
  | .map es=>by simp only [Rows.uptoBulk,bulkD,bulkEs_eq es]
  | .held _=>by simp only [Rows.uptoBulk,bulkD]
theorem bulks_eq {H:Type}:∀ d:List (DataW H),Rows.uptoBulkAll d=bulkDs d
  | []=>by simp only [Rows.uptoBulkAll,bulkDs]
  | d::r=>by simp only [Rows.uptoBulkAll,bulkDs,bulk_eq d,bulks_eq r]
theorem bulkEs_eq {H:Type}:∀ d:List (Lit × DataW H),Rows.uptoBulkEntries d=bulkEs d
  | []=>by simp only [Rows.uptoBulkEntries,bulkEs]
  | x::r=>by simp only [Rows.uptoBulkEntries,bulkEs,bulkE_eq x,bulkEs_eq r]
theorem bulkE_eq {H:Type}:∀ d:Lit × DataW H,Rows.uptoBulkEntry d=bulkE d
  | (l,d)=>by cases l <;> simp only [Rows.uptoBulkEntry,bulkE,bulk_eq d]
end
theorem smallUp {H:Type} {l:List (DataW H)} (hk:Rows.uptoSmall H l=true):bulkDs l≤1048576:=by
  rw [← bulks_eq]; exact of_decide_eq_true hk
theorem smallS (l:List Str) (h:bulkR [.l (List.map ecS l)]≤1048576):∀ s ∈ l,s.length≤1048576:=by
  simp only [bulkR,bulkT] at h
  intro p hp
  have:=bulk_map_mem (f:=ecS) hp
  simp only [ecS,bulkR,bulkT] at this
  omega
theorem does (rows:List (List Dt)) (h:hasAll rows [[.l [.s]],[.i .i64],[.i .i64]]) (hb:bulkRs rows≤1048576) :
    Does Tryd.prog 6 (argVs [false,false,false] rows) [] fun r X=>r=.p (.b true)∧X=[]:=by
  rcases rows with _ | ⟨r0,_ | ⟨r1,_ | ⟨r2,_ | _⟩⟩⟩ <;> simp only [hasAll,and_false,and_true] at h
  obtain ⟨h0,h1,h2⟩:=h
  rcases r0 with _ | ⟨d0,_ | _⟩ <;> simp only [hasR,and_false,and_true] at h0
  cases d0 <;> simp only [hasT] at h0
  obtain ⟨a0,rfl⟩:=hasRs_map dec1_s h0
  obtain ⟨a1,rfl⟩:=dec1_i64 r1 h1
  obtain ⟨a2,rfl⟩:=dec1_i64 r2 h2
  simp only [bulkRs] at hb
  exact ok_Top_TopDeltas a0 a1 a2 true (law_td a0 a1 a2 (smallS a0 (by omega)))

/-! ### the row -/
noncomputable def laidWorld (os:Os):World:=World.laidAll Tryd.prog os Rows.topDeltasUptoRow.laid
theorem laid_met (os:Os):laidMet Tryd.prog Rows.topDeltasUptoRow.laid ((laidWorld os).forCall (fun _ _=>0) ⟨#[],#[.slice none 0 0,.int .i64 0,.int .i64 0],[]⟩).memory :=
  laidMet_laidAll _ (by kernel_rfl) (by kernel_rfl)
theorem laidMet_tail {P:Program} {W:World} {x:String × DataW Unit} {l:List (String × DataW Unit)} (h:laidMet P (x::l) W):laidMet P l W:=by
  obtain ⟨n,d⟩:=x
  obtain ⟨ps,⟨g,t,cs,fuel,p,q,h1,h2,h3,h4,h5,rfl⟩,h6,h7⟩:=h
  exact ⟨q,h5,(List.nodup_append.1 h6).2.1,fun b off hm=>h7 b off (List.mem_append.2 (.inr hm))⟩
theorem reads (os:Os) {H:Type} (enc:TypeId × Value→H):∃ places,DataW.whole enc Tryd.prog ((laidWorld os).forCall (fun _ _=>0) ⟨#[],#[.slice none 0 0,.int .i64 0,.int .i64 0],[]⟩).memory Tryd.f6.params.toList Rows.topDeltasSpec.vars false (#[.slice none 0 0,.int .i64 0,.int .i64 0]:Array Value).toList 8=some ([.nil,.lit (.int .i64 0),.lit (.int .i64 0)],[],places) :=
  ⟨[],by kernel_rfl⟩
set_option maxRecDepth 100000 in
theorem lifted (os:Os) (started:os.Started) (H:Type) (enc:TypeId × Value→H) (F:Stop.Interp) :
    ReturnsInHanded {} Tryd.checked os 6 .any ((Rows.OpenSpec.upto Rows.topDeltasSpec).preRow enc Tryd.prog Tryd.f6 Rows.topDeltasUptoRow.domain false Rows.topDeltasUptoRow.laid) (((Rows.OpenSpec.upto Rows.topDeltasSpec).at F).post enc Tryd.prog Tryd.f6 false true false false):=by
  obtain ⟨places,hx⟩:=reads os enc
  refine returnsInHanded_of_row (C:=Tryd.checked) (s:=Rows.OpenSpec.upto Rows.topDeltasSpec) own started (by kernel_rfl) Tryd.func6
    (witness_row_atRef (enc:=enc) (C:=Tryd.checked) false (laidWorld os) #[.slice none 0 0,.int .i64 0,.int .i64 0] (World.laidAll_os _ _ _) (by kernel_rfl) (by kernel_rfl) (by kernel_rfl)
      (OpenSpec.preRow_of_cond 8 hx (by kernel_rfl) (fun k hk=>by cases hk; kernel_rfl) (by kernel_rfl) (laid_met os))) ?_
  intro W base args ds gs before hval hW _ hcond _ hL _ _
  have hb:=smallUp (hcond _ rfl)
  rw [bulkDs_append] at hb
  exact law_calls (htab:=⟨fun b k l e=>(by cases e),fun b e=>(by cases e)⟩) (m:=20) (shss:=[[.l [.s]],[.i .i64],[.i .i64]]) rfl (tb:=4) (by kernel_rfl) Tryd.underlying4 (by kernel_rfl) (by kernel_rfl) (by kernel_rfl) (fun ds h=>match ds,h with | [_,_,_],_=>rfl)
    (fun rows h1 h2=>does rows h1 (by omega)) hval hW (by simp only [Lim]; omega)
theorem said:Rows.TopDeltasUptoSaid :=
  OpenClaim.holds_of_cond 6 Tryd.f6 rfl rfl rfl rfl rfl rfl rfl ⟨rfl,rfl,rfl,rfl,rfl⟩ rfl rfl rfl rfl rfl (by kernel_rfl) Tryd.func6 (by kernel_rfl)
    (of_decide_eq_true (by kernel_rfl)) (by unfold Func.isWrapper; first | (rw [if_pos (by decide +kernel)]; kernel_rfl) | (rw [if_neg (by decide +kernel)]; exact ⟨rfl,rfl⟩))
    (fun os started H enc _ F=>by rw [OpenClaim.pre_eq_preRow]; exact lifted os started H enc F)
theorem plain (f:FuncId) (fn:Func) (hf:Tryd.pinned.checked.prog.funcNamed "outfitter/outtop.TopDeltas"=some f) (hfn:Tryd.pinned.checked.prog.funcs[f]?=some fn) :
    true=Tryd.pinned.checked.prog.looks []∧∀ (j:Nat) t,fn.params[j]?=some t→Tryd.pinned.checked.prog.wantsStandIn t=false:=by
  obtain rfl:f=6:=Option.some.inj ((show Tryd.prog.funcNamed "outfitter/outtop.TopDeltas"=some 6 by kernel_rfl).symm.trans hf) |>.symm
  obtain rfl:fn=Tryd.f6:=(Option.some.inj (Tryd.func6.symm.trans hfn)).symm
  refine ⟨by kernel_rfl,fun j t ht=>?_⟩
  have hall:Tryd.f6.params.toList.all (fun t=>!Tryd.prog.wantsStandIn t)=true:=by kernel_rfl
  have hm:t ∈ Tryd.f6.params.toList:=by
    have:=Array.mem_of_getElem? ht
    simpa using this
  have:=List.all_eq_true.1 hall t hm
  show Tryd.prog.wantsStandIn t=false
  simpa using this
theorem topDeltas_proved:Rows.TopDeltasUptoCardSaid :=
  Claim7.holds_tied_plain_at .later [] _ _ _ _ said (fun _ h=>by cases h) (by kernel_rfl) (fun _ h=>by cases h) topDeltasUpto_row_tie rfl ⟨rfl,rfl⟩ (by kernel_rfl) rfl plain (by kernel_rfl)
end Go.Proofs.YtkekfenkeeiigaaDoor
#print axioms Go.Proofs.YtkekfenkeeiigaaDoor.topDeltas_proved
