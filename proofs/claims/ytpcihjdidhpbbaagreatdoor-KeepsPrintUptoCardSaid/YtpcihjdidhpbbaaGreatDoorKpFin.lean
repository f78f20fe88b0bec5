/- The statement, proved: of every input of bulk at most 1048576 the law's function says true, and the input reads as it did. -/
import Derived.Test.YtpcihjdidhpbbaaGreatDoorCards
import Derived.Test.YtpcihjdidhpbbaaGreatDoorTie
import Derived.Test.YtpcihjdidhpbbaaGreatDoorKpSa
namespace Go.Proofs.YtpcihjdidhpbbaaGreatDoor
open Go.Vc Go.Md
theorem plain (f:FuncId) (fn:Func) (hf:Tryz.pinned.checked.prog.funcNamed "outfitter/outlaw1.KeepsPrint"=some f) (hfn:Tryz.pinned.checked.prog.funcs[f]?=some fn) :
    false=Tryz.pinned.checked.prog.looks []∧∀ (j:Nat) t,fn.params[j]?=some t→Tryz.pinned.checked.prog.wantsStandIn t=false:=by
  obtain rfl:f=3:=Option.some.inj ((show Tryz.prog.funcNamed "outfitter/outlaw1.KeepsPrint"=some 3 by kernel_rfl).symm.trans hf) |>.symm
  obtain rfl:fn=Tryz.f3:=(Option.some.inj (Tryz.func3.symm.trans hfn)).symm
  refine ⟨by kernel_rfl,fun j t ht=>?_⟩
  have hall:Tryz.f3.params.toList.all (fun t=>!Tryz.prog.wantsStandIn t)=true:=by kernel_rfl
  have hm:t ∈ Tryz.f3.params.toList:=by
    have:=Array.mem_of_getElem? ht
    simpa using this
  have:=List.all_eq_true.1 hall t hm
  show Tryz.prog.wantsStandIn t=false
  simpa using this
set_option maxHeartbeats 40000000 in
theorem keepsPrint_proved:Rows.KeepsPrintUptoCardSaid :=
  Claim7.holds_tied_plain_at .later [] _ _ _ _ Qu (fun _ h=>by cases h) (by as_aux_lemma => kernel_rfl) (fun _ h=>by cases h) keepsPrintUpto_row_tie rfl ⟨rfl,rfl⟩ (by as_aux_lemma => kernel_rfl) rfl plain (by as_aux_lemma => kernel_rfl)
end Go.Proofs.YtpcihjdidhpbbaaGreatDoor
#print axioms Go.Proofs.YtpcihjdidhpbbaaGreatDoor.keepsPrint_proved
