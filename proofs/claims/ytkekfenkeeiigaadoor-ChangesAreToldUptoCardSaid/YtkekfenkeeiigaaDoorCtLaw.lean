/- The statement, proved: of every input of bulk at most 1048576 the law's function says true, and the input reads as it did. -/
import Derived.Test.YtkekfenkeeiigaaDoorCards
import Derived.Test.YtkekfenkeeiigaaDoorTie
import Derived.Deep.DeepHandedRow
import Derived.Lib.LaidTab
import Derived.Lay
import Derived.Deep.DeepWitnessRowRef
import Derived.Test.YtkekfenkeeiigaaDoorCtWk1
import Derived.Test.YtkekfenkeeiigaaDoorCtWk2
import Derived.Test.YtkekfenkeeiigaaDoorCtWk3
import Derived.Test.YtkekfenkeeiigaaDoorCtWk4
import Derived.Test.YtkekfenkeeiigaaDoorCtWk5
import Derived.Test.YtkekfenkeeiigaaDoorCtPl
namespace Go.Proofs.YtkekfenkeeiigaaDoor
open Go.Vc Go.Md
theorem own:ownKnob Tryd.prog.godebug=none:=by kernel_rfl
mutual
theorem bulk_eq {H:Type}:∀ d:DataW H,Rows.uptoBulk d=bulkD d
  | .lit l=>by cases l <;> simp only [Rows.uptoBulk,bulkD]
  | .nil=>by simp only [Rows.uptoBulk,bulkD]
  | .ptr d=>by simp only [Rows.uptoBulk,bulkD,bulk_eq d]
  | .slice a b=>by simp only [Rows.uptoBulk,bulkD,bulks_eq a,bulks_eq b]
  | .agg a=>by simp only [Rows.uptoBulk,bulkD,bulks_eq a]
  | .iface _ d=>by simp only [Rows.uptoBulk,bulkD,bulk_eq d]
  | .map es=>by simp only [Rows.uptoBulk,bulkD,bulkEs_eq es]
  | .held _=>by simp only [Rows.uptoBulk,bulkD]
theorem bulks_eq {H:Type}:∀ d:List (DataW H),Rows.uptoBulkAll d=bulkDs d
  | []=>by simp only [Rows.uptoBulkAll,bulkDs]
  | d::r=>by simp only [Rows.uptoBulkAll,bulkDs,bulk_eq d,bulks_eq r]
theorem bulkEs_eq {H:Type}:∀ d:List (Lit × DataW H),Rows.uptoBulkEntries d=bulkEs d
  | []=>by simp only [Rows.uptoBulkEntries,bulkEs]
  | x::r=>by simp only [Rows.uptoBulkEntries,bulkEs,bulkE_eq x,bulkEs_eq r]
theorem bulkE_eq {H:Type}:∀ d:Lit × DataW H,Rows.uptoBulkEntry d=bulkE d
  | (l,d)=>by cases l <;> simp only [Rows.uptoBulkEntry,bulkE,bulk_eq d]
end
theorem smallUp {H:Type} {l:List (DataW H)} (hk:Rows.uptoSmall H l=true):bulkDs l≤1048576:=by
  rw [← bulks_eq]; exact of_decide_eq_true hk
theorem byte_of {n:Int} (h:Fits .u8 n):0≤n∧n < 256:=by
  simp only [Fits,lo,hi] at h
  omega
theorem does (rows:List (List Dt)) (h:hasAll rows [[.s],[.s],[.i .i64],[.i .u8]]) (hb:bulkRs rows≤1048576) :
    Does Tryd.prog 5 (argVs [false,false,false,false] rows) [] fun r X=>r=.p (.b true)∧X=[]:=by
  rcases rows with _ | ⟨r0,_ | ⟨r1,_ | ⟨r2,_ | ⟨r3,_ | _⟩⟩⟩⟩ <;> simp only [hasAll,and_false,and_true] at h
  obtain ⟨h0,h1,h2,h3⟩:=h
  obtain ⟨a0,rfl⟩:=dec1_s r0 h0
  obtain ⟨a1,rfl⟩:=dec1_s r1 h1
  obtain ⟨a2,rfl⟩:=dec1_i64 r2 h2
  obtain ⟨a3,rfl⟩:=dec1_u8 r3 h3
  refine Does.facts (ok_Law_ChangesAreTold a0 a1 a2 0 true (law_ct a0 a1 a2 0 (by omega) (by omega))).1 fun ho=>?_
  have ho2:Va.oks [.p (.s a0),.p (.s a1),.p (.i .i64 a2),.p (.i .u8 a3)]:=ho
  have hf:Fits .u8 a3:=by
    simp only [Va.oks,Va.ok,DtOk] at ho2
    exact ho2.2.2.2.1
  exact ok_Law_ChangesAreTold a0 a1 a2 a3 true (law_ct a0 a1 a2 a3 (byte_of hf).1 (byte_of hf).2)

/-! ### the row -/
noncomputable def laidWorld (os:Os):World:=World.laidAll Tryd.prog os Rows.changesAreToldUptoRow.laid
theorem laid_met (os:Os):laidMet Tryd.prog Rows.changesAreToldUptoRow.laid ((laidWorld os).forCall (fun _ _=>0) ⟨#[],#[.string .empty,.string .empty,.int .i64 0,.int .u8 0],[]⟩).memory :=
  laidMet_laidAll _ (by kernel_rfl) (by kernel_rfl)
theorem laidMet_tail {P:Program} {W:World} {x:String × DataW Unit} {l:List (String × DataW Unit)} (h:laidMet P (x::l) W):laidMet P l W:=by
  obtain ⟨n,d⟩:=x
  obtain ⟨ps,⟨g,t,cs,fuel,p,q,h1,h2,h3,h4,h5,rfl⟩,h6,h7⟩:=h
  exact ⟨q,h5,(List.nodup_append.1 h6).2.1,fun b off hm=>h7 b off (List.mem_append.2 (.inr hm))⟩
theorem htab {W:World} (h:laidMetH Tryd.prog Rows.changesAreToldUptoRow.laid W):TabOk (allOf W) W.heap:=by
  have h0:laidMet Tryd.prog Rows.changesAreToldUptoRow.laid W:=by rw [← MakeChecks.laidMetH_plain _ _ _ (by kernel_rfl)]; exact h
  have q7:laidMet Tryd.prog (("math/bits.deBruijn64tab",Lib.tabData .u8 tabL_7)::Rows.changesAreToldUptoRow.laid.drop 2) W:=laidMet_tail h0
  have t7:Lib.TabIs Tryd.prog W "math/bits.deBruijn64tab" .u8 tabL_7:=Lib.tabIs_of_head (g:=7) (t:=192) (e:=5) (n:=64) (by kernel_rfl) (by kernel_rfl) (by kernel_rfl) (by kernel_rfl) (by kernel_rfl) (by kernel_rfl) q7
  have g7:∃ T fr,W.heap[7]?=some (.cells (tabL_7.map (Value.int .u8)).toArray T fr):=by
    have e:=t7
    unfold Lib.TabIs World.var? at e
    rw [show Tryd.prog.globalNamed "math/bits.deBruijn64tab"=some 7 by kernel_rfl] at e
    simp only [Option.bind_some] at e
    split at e
    · rename_i cs T fr hc
      cases e
      exact ⟨T,fr,hc⟩
    · cases e
  refine ⟨fun b k l e=>?_,fun b e=>?_⟩
  rotate_left
  · have e:false=true:=e
    have hlt:∀ b T cs fr,W.heap[b]?=some (.cells cs T fr)→b < W.heap.size:=fun b T cs fr hb=>(Array.getElem?_eq_some_iff.1 hb).1
    cases e
  have hlt:∀ b T cs fr,W.heap[b]?=some (.cells cs T fr)→b < W.heap.size:=fun b T cs fr hb=>(Array.getElem?_eq_some_iff.1 hb).1
  have e:(bif Nat.beq b 7 then some (IntKind.u8,tabL_7) else none)=some (k,l):=e
  cases hb7:Nat.beq b 7 <;> rw [hb7] at e
  rotate_left
  · cases e
    obtain rfl:=Nat.eq_of_beq_eq_true hb7
    obtain ⟨T,fr,hc⟩:=g7
    exact ⟨hlt _ _ _ _ hc,⟨T,fr,hc⟩,by simp only [Fits,lo,hi]; decide⟩
  rw [cond_false] at e
  cases e
theorem reads (os:Os) {H:Type} (enc:TypeId × Value→H):∃ places,DataW.whole enc Tryd.prog ((laidWorld os).forCall (fun _ _=>0) ⟨#[],#[.string .empty,.string .empty,.int .i64 0,.int .u8 0],[]⟩).memory Tryd.f5.params.toList Rows.changesAreToldSpec.vars false (#[.string .empty,.string .empty,.int .i64 0,.int .u8 0]:Array Value).toList 8=some ([.lit (.string []),.lit (.string []),.lit (.int .i64 0),.lit (.int .u8 0)],[],places) :=
  ⟨[],by kernel_rfl⟩
set_option maxRecDepth 100000 in
theorem lifted (os:Os) (started:os.Started) (H:Type) (enc:TypeId × Value→H) (F:Stop.Interp) :
    ReturnsInHanded {} Tryd.checked os 5 .any ((Rows.OpenSpec.upto Rows.changesAreToldSpec).preRow enc Tryd.prog Tryd.f5 Rows.changesAreToldUptoRow.domain false Rows.changesAreToldUptoRow.laid) (((Rows.OpenSpec.upto Rows.changesAreToldSpec).at F).post enc Tryd.prog Tryd.f5 false true false false):=by
  obtain ⟨places,hx⟩:=reads os enc
  refine returnsInHanded_of_row (C:=Tryd.checked) (s:=Rows.OpenSpec.upto Rows.changesAreToldSpec) own started (by kernel_rfl) Tryd.func5
    (witness_row_atRef (enc:=enc) (C:=Tryd.checked) false (laidWorld os) #[.string .empty,.string .empty,.int .i64 0,.int .u8 0] (World.laidAll_os _ _ _) (by kernel_rfl) (by kernel_rfl) (by kernel_rfl)
      (OpenSpec.preRow_of_cond 8 hx (by kernel_rfl) (fun k hk=>by cases hk; kernel_rfl) (by kernel_rfl) (laid_met os))) ?_
  intro W base args ds gs before hval hW _ hcond _ hL _ _
  have hb:=smallUp (hcond _ rfl)
  rw [bulkDs_append] at hb
  exact law_calls (htab:=htab hL) (m:=20) (shss:=[[.s],[.s],[.i .i64],[.i .u8]]) rfl (tb:=4) (by kernel_rfl) Tryd.underlying4 (by kernel_rfl) (by kernel_rfl) (by kernel_rfl) (fun ds h=>match ds,h with | [_,_,_,_],_=>rfl)
    (fun rows h1 h2=>does rows h1 (by omega)) hval hW (by simp only [Lim]; omega)
theorem said:Rows.ChangesAreToldUptoSaid :=
  OpenClaim.holds_of_cond 5 Tryd.f5 rfl rfl rfl rfl rfl rfl rfl ⟨rfl,rfl,rfl,rfl,rfl⟩ rfl rfl rfl rfl rfl (by kernel_rfl) Tryd.func5 (by kernel_rfl)
    (of_decide_eq_true (by kernel_rfl)) (by unfold Func.isWrapper; first | (rw [if_pos (by decide +kernel)]; kernel_rfl) | (rw [if_neg (by decide +kernel)]; exact ⟨rfl,rfl⟩))
    (fun os started H enc _ F=>by rw [OpenClaim.pre_eq_preRow]; exact lifted os started H enc F)
theorem plain (f:FuncId) (fn:Func) (hf:Tryd.pinned.checked.prog.funcNamed "outfitter/outlaw1.ChangesAreTold"=some f) (hfn:Tryd.pinned.checked.prog.funcs[f]?=some fn) :
    true=Tryd.pinned.checked.prog.looks []∧∀ (j:Nat) t,fn.params[j]?=some t→Tryd.pinned.checked.prog.wantsStandIn t=false:=by
  obtain rfl:f=5:=Option.some.inj ((show Tryd.prog.funcNamed "outfitter/outlaw1.ChangesAreTold"=some 5 by kernel_rfl).symm.trans hf) |>.symm
  obtain rfl:fn=Tryd.f5:=(Option.some.inj (Tryd.func5.symm.trans hfn)).symm
  refine ⟨by kernel_rfl,fun j t ht=>?_⟩
  have hall:Tryd.f5.params.toList.all (fun t=>!Tryd.prog.wantsStandIn t)=true:=by kernel_rfl
  have hm:t ∈ Tryd.f5.params.toList:=by
    have:=Array.mem_of_getElem? ht
    simpa using this
  have:=List.all_eq_true.1 hall t hm
  show Tryd.prog.wantsStandIn t=false
  simpa using this
theorem changesAreTold_proved:Rows.ChangesAreToldUptoCardSaid :=
  Claim7.holds_tied_plain_at .later [] _ _ _ _ said (fun _ h=>by cases h) (by kernel_rfl) (fun _ h=>by cases h) changesAreToldUpto_row_tie rfl ⟨rfl,rfl⟩ (by kernel_rfl) rfl plain (by kernel_rfl)
end Go.Proofs.YtkekfenkeeiigaaDoor
#print axioms Go.Proofs.YtkekfenkeeiigaaDoor.changesAreTold_proved
