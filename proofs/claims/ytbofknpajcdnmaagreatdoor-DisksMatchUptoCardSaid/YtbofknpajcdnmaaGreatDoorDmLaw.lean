/- What the law's function does, as the row asks: of every input of bulk at most 1048576 the law's function says true, and the input reads as it did. -/
import Derived.Test.YtbofknpajcdnmaaGreatDoorCards
import Derived.Test.YtbofknpajcdnmaaGreatDoorTie
import Derived.Deep.DeepHandedRow
import Derived.Lib.LaidTab
import Derived.Lay
import Derived.Deep.DeepWitnessRowRef
import Derived.Test.YtbofknpajcdnmaaGreatDoorDmWk1
import Derived.Test.YtbofknpajcdnmaaGreatDoorDmWk2
import Derived.Test.YtbofknpajcdnmaaGreatDoorDmWk3
import Derived.Test.YtbofknpajcdnmaaGreatDoorDmWk4
import Derived.Test.YtbofknpajcdnmaaGreatDoorDmWk5
import Derived.Test.YtbofknpajcdnmaaGreatDoorDmWk6
import Derived.Test.YtbofknpajcdnmaaGreatDoorDmWk7
import Derived.Test.YtbofknpajcdnmaaGreatDoorDmWk8
import Derived.Test.YtbofknpajcdnmaaGreatDoorDmWk9
import Derived.Test.YtbofknpajcdnmaaGreatDoorDmPl
namespace Go.Proofs.YtbofknpajcdnmaaGreatDoor
open Go.Vc Go.Md
theorem own:ownKnob Tryz.prog.godebug=none:=by kernel_rfl
mutual
theorem bulk_eq {H:Type}:∀ d:DataW H,Rows.uptoBulk d=bulkD d
  | .lit l=>by cases l <;> simp only [Rows.uptoBulk,bulkD]
  | .nil=>by simp only [Rows.uptoBulk,bulkD]
  | .ptr d=>by simp only [Rows.uptoBulk,bulkD,bulk_eq d]
  | .slice a b=>by simp only [Rows.uptoBulk,bulkD,bulks_eq a,bulks_eq b]
  | .agg a=>by simp only [Rows.uptoBulk,bulkD,bulks_eq a]
  | .iface _ d=>by simp only [Rows.uptoBulk,bulkD,bulk_eq d]
  | .map es=>by simp only [Rows.uptoBulk,bulkD,bulkEs_eq es]
  | .held _=>by simp only [Rows.uptoBulk,bulkD]
theorem bulks_eq {H:Type}:∀ d:List (DataW H),Rows.uptoBulkAll d=bulkDs d
  | []=>by simp only [Rows.uptoBulkAll,bulkDs]
  | d::r=>by simp only [Rows.uptoBulkAll,bulkDs,bulk_eq d,bulks_eq r]
theorem bulkEs_eq {H:Type}:∀ d:List (Lit × DataW H),Rows.uptoBulkEntries d=bulkEs d
  | []=>by simp only [Rows.uptoBulkEntries,bulkEs]
  | x::r=>by simp only [Rows.uptoBulkEntries,bulkEs,bulkE_eq x,bulkEs_eq r]
theorem bulkE_eq {H:Type}:∀ d:Lit × DataW H,Rows.uptoBulkEntry d=bulkE d
  | (l,d)=>by cases l <;> simp only [Rows.uptoBulkEntry,bulkE,bulk_eq d]
end
theorem smallUp {H:Type} {l:List (DataW H)} (hk:Rows.uptoSmall H l=true):bulkDs l≤1048576:=by
  rw [← bulks_eq]; exact of_decide_eq_true hk
theorem fits (m:api_Machine) (h:bulkR (enc_api_Machine m)≤1048576):Fit m:=by
  simp only [enc_api_Machine,bulkR,bulkT] at h
  have l1:=bulk_map_len (f:=enc_api_Setting) (fun x e=>by simp [enc_api_Setting] at e) m.Facts
  have l2:=bulk_map_len (f:=enc_api_File) (fun x e=>by simp [enc_api_File] at e) m.Files
  have l3:=bulk_map_len (f:=enc_api_Setting) (fun x e=>by simp [enc_api_Setting] at e) m.Settings
  have l4:=bulk_map_len (f:=enc_api_Service) (fun x e=>by simp [enc_api_Service] at e) m.Services
  refine ⟨by omega,by omega,by omega,by omega,fun x hx=>?_,fun x hx=>?_,fun x hx=>?_⟩
  · have:=bulk_map_mem (f:=enc_api_File) hx
    simp only [enc_api_File,bulkR,bulkT] at this
    simp only [Sm]; omega
  · have:=bulk_map_mem (f:=enc_api_Setting) hx
    simp only [enc_api_Setting,bulkR,bulkT] at this
    simp only [Sm]; omega
  · have:=bulk_map_mem (f:=enc_api_Service) hx
    simp only [enc_api_Service,bulkR,bulkT] at this
    simp only [Sm]; omega
theorem does (rows:List (List Dt)) (h:hasAll rows [sh_api_Machine,[.l sh_outlaw1_Act]]) (hb:bulkRs rows≤1048576) :
    Does Tryz.prog 3 (argVs [true,false] rows) [] fun r X=>r=.p (.b true)∧X=[]:=by
  rcases rows with _ | ⟨r0,_ | ⟨r1,_ | _⟩⟩ <;> simp only [hasAll,and_false,and_true] at h
  obtain ⟨h0,h1⟩:=h
  obtain ⟨a0,rfl⟩:=dec_api_Machine r0 h0
  rcases r1 with _ | ⟨d1,_ | _⟩ <;> simp only [hasR,and_false,and_true] at h1
  cases d1 <;> simp only [hasT] at h1
  obtain ⟨a1,rfl⟩:=hasRs_map dec_outlaw1_Act h1
  simp only [bulkRs] at hb
  have h0:bulkR (enc_api_Machine a0)≤1048576:=by omega
  simp only [bulkR,bulkT] at hb
  have hm:∀ c ∈ a1,SmC c.Change:=fun c hc=>by
    have:=bulk_map_mem (f:=enc_outlaw1_Act) hc
    simp only [enc_outlaw1_Act,bulkR,bulkT] at this
    exact ⟨by simp only [Sm]; omega,by simp only [Sm]; omega,by simp only [Sm]; omega⟩
  have hl:=bulk_map_len (f:=enc_outlaw1_Act) (fun x e=>by simp [enc_outlaw1_Act] at e) a1
  exact ok_Law_DisksMatch a0 a1 true (law_dm a0 a1 (fits a0 h0) hm (by omega))

/-! ### the row -/
noncomputable def laidWorld (os:Os):World:=World.laidAll Tryz.prog os Rows.disksMatchUptoRow.laid
theorem laid_met (os:Os):laidMet Tryz.prog Rows.disksMatchUptoRow.laid ((laidWorld os).forCall (fun _ _=>0) ⟨#[],#[.agg #[.slice none 0 0,.slice none 0 0,.slice none 0 0,.slice none 0 0],.slice none 0 0],[]⟩).memory :=
  laidMet_laidAll _ (by kernel_rfl) (by kernel_rfl)
theorem laidMet_tail {P:Program} {W:World} {x:String × DataW Unit} {l:List (String × DataW Unit)} (h:laidMet P (x::l) W):laidMet P l W:=by
  obtain ⟨n,d⟩:=x
  obtain ⟨ps,⟨g,t,cs,fuel,p,q,h1,h2,h3,h4,h5,rfl⟩,h6,h7⟩:=h
  exact ⟨q,h5,(List.nodup_append.1 h6).2.1,fun b off hm=>h7 b off (List.mem_append.2 (.inr hm))⟩
theorem reads (os:Os) {H:Type} (enc:TypeId × Value→H):∃ places,DataW.whole enc Tryz.prog ((laidWorld os).forCall (fun _ _=>0) ⟨#[],#[.agg #[.slice none 0 0,.slice none 0 0,.slice none 0 0,.slice none 0 0],.slice none 0 0],[]⟩).memory Tryz.f3.params.toList Rows.disksMatchSpec.vars false (#[.agg #[.slice none 0 0,.slice none 0 0,.slice none 0 0,.slice none 0 0],.slice none 0 0]:Array Value).toList 8=some ([.agg [.nil,.nil,.nil,.nil],.nil],[],places) :=
  ⟨[],by kernel_rfl⟩
set_option maxRecDepth 100000 in
theorem lifted (os:Os) (started:os.Started) (H:Type) (enc:TypeId × Value→H) (F:Stop.Interp) :
    ReturnsInHanded {} Tryz.checked os 3 .any ((Rows.OpenSpec.upto Rows.disksMatchSpec).preRow enc Tryz.prog Tryz.f3 Rows.disksMatchUptoRow.domain false Rows.disksMatchUptoRow.laid) (((Rows.OpenSpec.upto Rows.disksMatchSpec).at F).post enc Tryz.prog Tryz.f3 false true false false):=by
  obtain ⟨places,hx⟩:=reads os enc
  refine returnsInHanded_of_row (C:=Tryz.checked) (s:=Rows.OpenSpec.upto Rows.disksMatchSpec) own started (by kernel_rfl) Tryz.func3
    (witness_row_atRef (enc:=enc) (C:=Tryz.checked) false (laidWorld os) #[.agg #[.slice none 0 0,.slice none 0 0,.slice none 0 0,.slice none 0 0],.slice none 0 0] (World.laidAll_os _ _ _) (by kernel_rfl) (by kernel_rfl) (by kernel_rfl)
      (OpenSpec.preRow_of_cond 8 hx (by kernel_rfl) (fun k hk=>by cases hk; kernel_rfl) (by kernel_rfl) (laid_met os))) ?_
  intro W base args ds gs before hval hW _ hcond _ hL _ _
  have hb:=smallUp (hcond _ rfl)
  rw [bulkDs_append] at hb
  exact law_calls (htab:=⟨fun b k l e=>(by cases e),fun b e=>(by cases e)⟩) (m:=20) (shss:=[sh_api_Machine,[.l sh_outlaw1_Act]]) rfl (tb:=4) (by kernel_rfl) Tryz.underlying4 (by kernel_rfl) (by kernel_rfl) (by kernel_rfl) (fun ds h=>match ds,h with | [_,_],_=>rfl)
    (fun rows h1 h2=>does rows h1 (by omega)) hval hW (by simp only [Lim]; omega)
end Go.Proofs.YtbofknpajcdnmaaGreatDoor
