/- The statement, proved: of every input of bulk at most 1048576 the law's function says true, and the input reads as it did. -/
import Derived.Test.YtkekfenkeeiigaaRows
import Derived.Test.YtkekfenkeeiigaaDcWk1
import Derived.Test.YtkekfenkeeiigaaDcWk2
import Derived.Test.YtkekfenkeeiigaaDcWk3
import Derived.Test.YtkekfenkeeiigaaDcWk4
import Derived.Test.YtkekfenkeeiigaaDcWk5
import Derived.Test.YtkekfenkeeiigaaDcWk6
import Derived.Test.YtkekfenkeeiigaaDcPl
namespace Go.Proofs.Ytkekfenkeeiigaa
open Go.Vc Go.Md
set_option linter.unusedSimpArgs false
set_option linter.unusedVariables false
theorem own:ownKnob Try.prog.godebug=none:=by kernel_rfl
mutual
theorem bulk_eq {H:Type}:∀ d:DataW H,Rows.uptoBulk d=bulkD d
  | .lit l=>by cases l <;> simp only [Rows.uptoBulk,bulkD]
  | .nil=>by simp only [Rows.uptoBulk,bulkD]
  | .ptr d=>by simp only [Rows.uptoBulk,bulkD,bulk_eq d]
  | .slice a b=>by simp only [Rows.uptoBulk,bulkD,bulks_eq a,bulks_eq b]
  | .agg a=>by simp only [Rows.uptoBulk,bulkD,bulks_eq a]
  | .iface _ d=>by simp only [Rows.uptoBulk,bulkD,bulk_eq d]
  | .map es=>by simp only [Rows.uptoBulk,bulkD,bulkEs_eq es]
  | .held _=>by simp only [Rows.uptoBulk,bulkD]
theorem bulks_eq {H:Type}:∀ d:List (DataW H),Rows.uptoBulkAll d=bulkDs d
  | []=>by simp only [Rows.uptoBulkAll,bulkDs]
  | d::r=>by simp only [Rows.uptoBulkAll,bulkDs,bulk_eq d,bulks_eq r]
theorem bulkEs_eq {H:Type}:∀ d:List (Lit × DataW H),Rows.uptoBulkEntries d=bulkEs d
  | []=>by simp only [Rows.uptoBulkEntries,bulkEs]
  | x::r=>by simp only [Rows.uptoBulkEntries,bulkEs,bulkE_eq x,bulkEs_eq r]
theorem bulkE_eq {H:Type}:∀ d:Lit × DataW H,Rows.uptoBulkEntry d=bulkE d
  | (l,d)=>by cases l <;> simp only [Rows.uptoBulkEntry,bulkE,bulk_eq d]
end
theorem smallUp {H:Type} {l:List (DataW H)} (hk:Rows.uptoSmall H l=true):bulkDs l≤1048576:=by
  rw [← bulks_eq]; exact of_decide_eq_true hk

theorem dec1_b:∀ r,hasR r [.b]→∃ x,r=ecB x:=by
  intro r h
  rcases r with _ | ⟨d,_ | _⟩ <;> simp only [hasR,and_false,and_true] at h
  cases d <;> simp only [hasT] at h
  exact ⟨_,rfl⟩
theorem smalls (d:api_Delta) (h:bulkR (enc_api_Delta d)≤1048576):∀ p ∈ d.Pieces,p.Data.length≤1048576:=by
  simp only [enc_api_Delta,bulkR,bulkT] at h
  intro p hp
  have:=bulk_map_mem (f:=enc_api_Piece) hp
  simp only [enc_api_Piece,bulkR,bulkT] at this
  omega
theorem does (rows:List (List Dt)) (h:hasAll rows [[.s],[.s],[.s],sh_api_Delta,[.b]]) (hb:bulkRs rows≤1048576) :
    Does Try.prog 3 (argVs [false,false,false,true,false] rows) [] fun r X=>r=.p (.b true)∧X=[]:=by
  rcases rows with _ | ⟨r0,_ | ⟨r1,_ | ⟨r2,_ | ⟨r3,_ | ⟨r4,_ | _⟩⟩⟩⟩⟩ <;> simp only [hasAll,and_false,and_true] at h
  obtain ⟨h0,h1,h2,h3,h4⟩:=h
  obtain ⟨a0,rfl⟩:=dec1_s r0 h0
  obtain ⟨a1,rfl⟩:=dec1_s r1 h1
  obtain ⟨a2,rfl⟩:=dec1_s r2 h2
  obtain ⟨a3,rfl⟩:=dec_api_Delta r3 h3
  obtain ⟨a4,rfl⟩:=dec1_b r4 h4
  simp only [bulkRs] at hb
  exact ok_Law_DeltasCompose a0 a1 a2 a3 a4 true (law_dc a0 a1 a2 a3 (smalls a3 (by omega)) a4)

set_option maxRecDepth 100000 in
theorem lifted (os:Os) (started:os.Started) (H:Type) (enc:TypeId × Value→H) (F:Stop.Interp) :
    ReturnsInHanded {} Try.checked os 3 .any ((Rows.OpenSpec.upto Rows.deltasComposeSpec).pre6 enc Try.prog Try.f3 Rows.deltasComposeUptoRow.domain false) (((Rows.OpenSpec.upto Rows.deltasComposeSpec).at F).post enc Try.prog Try.f3 false true false false):=by
  refine returnsInHanded_of_cond (C:=Try.checked) (s:=Rows.OpenSpec.upto Rows.deltasComposeSpec) (k:=Rows.uptoSmall) rfl own started (by kernel_rfl) Try.func3
    (OpenSpec.witness (enc:=enc) (C:=Try.checked) (s:=Rows.OpenSpec.upto Rows.deltasComposeSpec) (k:=Rows.uptoSmall) rfl false ⟨#[],#[.string .empty,.string .empty,.string .empty,.agg #[.int .i64 0,.int .i64 0,.string .empty,.string .empty,.slice none 0 0],.bool false],[]⟩ 8 (by kernel_rfl) (by kernel_rfl) (by kernel_rfl)
      (x:=([.lit (.string []),.lit (.string []),.lit (.string []),.agg [.lit (.int .i64 0),.lit (.int .i64 0),.lit (.string []),.lit (.string []),.nil],.lit (.bool false)],[],[])) (by kernel_rfl) rfl (by kernel_rfl)) ?_
  intro W base args ds gs before hval hW _ hk _
  have hb:=smallUp hk
  rw [bulkDs_append] at hb
  exact law_calls (htab:=⟨fun b k l e=>(by cases e),fun b e=>(by cases e)⟩) (m:=20) (shss:=[[.s],[.s],[.s],sh_api_Delta,[.b]]) rfl (tb:=4) (by kernel_rfl) Try.underlying4 (by kernel_rfl) (by kernel_rfl) (by kernel_rfl) (fun ds h=>match ds,h with | [_,_,_,_,_],_=>rfl)
    (fun rows h1 h2=>does rows h1 (by omega)) hval hW (by simp only [Lim]; omega)

theorem deltasCompose_proved:Rows.DeltasComposeUptoSaid :=
  OpenClaim.holds_of_cond 3 Try.f3 rfl rfl rfl rfl rfl rfl rfl ⟨rfl,rfl,rfl,rfl,rfl⟩ rfl rfl rfl rfl rfl (by kernel_rfl) Try.func3 (by kernel_rfl)
    (of_decide_eq_true (by kernel_rfl)) (by unfold Func.isWrapper; first | (rw [if_pos (by decide +kernel)]; kernel_rfl) | (rw [if_neg (by decide +kernel)]; exact ⟨rfl,rfl⟩))
    (fun os started H enc _ F=>lifted os started H enc F)
end Go.Proofs.Ytkekfenkeeiigaa
#print axioms Go.Proofs.Ytkekfenkeeiigaa.deltasCompose_proved
