/- What the law's function does, as the row asks: of every input of bulk at most 1048576 the law's function says true, and the input reads as it did. -/
import Derived.Test.YtbofknpajcdnmaaGreatDoorCards
import Derived.Test.YtbofknpajcdnmaaGreatDoorTie
import Derived.Deep.DeepHandedRow
import Derived.Lib.LaidTab
import Derived.Lay
import Derived.Deep.DeepWitnessRowRef
import Derived.Test.YtbofknpajcdnmaaGreatDoorLkWk1
import Derived.Test.YtbofknpajcdnmaaGreatDoorLkWk2
import Derived.Test.YtbofknpajcdnmaaGreatDoorLkWk3
import Derived.Test.YtbofknpajcdnmaaGreatDoorLkWk4
import Derived.Test.YtbofknpajcdnmaaGreatDoorLkWk5
import Derived.Test.YtbofknpajcdnmaaGreatDoorLkWk6
import Derived.Test.YtbofknpajcdnmaaGreatDoorLkWk7
import Derived.Test.YtbofknpajcdnmaaGreatDoorLkWk8
import Derived.Test.YtbofknpajcdnmaaGreatDoorLkWk9
import Derived.Test.YtbofknpajcdnmaaGreatDoorLkWk10
import Derived.Test.YtbofknpajcdnmaaGreatDoorLkWk11
import Derived.Test.YtbofknpajcdnmaaGreatDoorLkWk12
import Derived.Test.YtbofknpajcdnmaaGreatDoorLkWk13
import Derived.Test.YtbofknpajcdnmaaGreatDoorLkWk14
import Derived.Test.YtbofknpajcdnmaaGreatDoorLkPm
namespace Go.Proofs.YtbofknpajcdnmaaGreatDoor
open Go.Vc Go.Md
theorem own:ownKnob Tryz.prog.godebug=none:=by kernel_rfl
mutual
theorem zoH {H:Type}:∀ d:DataW H,Rows.uptoBulk d=zcS d
  | .lit l=>by cases l <;> simp only [Rows.uptoBulk,zcS]
  | .nil=>by simp only [Rows.uptoBulk,zcS]
  | .ptr d=>by simp only [Rows.uptoBulk,zcS,zoH d]
  | .slice a b=>by simp only [Rows.uptoBulk,zcS,zju a,zju b]
  | .agg a=>by simp only [Rows.uptoBulk,zcS,zju a]
  | .iface _ d=>by simp only [Rows.uptoBulk,zcS,zoH d]
  | .map es=>by simp only [Rows.uptoBulk,zcS,bulkEs_eq es]
  | .held _=>by simp only [Rows.uptoBulk,zcS]
theorem zju {H:Type}:∀ d:List (DataW H),Rows.uptoBulkAll d=zbA d
  | []=>by simp only [Rows.uptoBulkAll,zbA]
  | d::r=>by simp only [Rows.uptoBulkAll,zbA,zoH d,zju r]
theorem bulkEs_eq {H:Type}:∀ d:List (Lit × DataW H),Rows.uptoBulkEntries d=bulkEs d
  | []=>by simp only [Rows.uptoBulkEntries,bulkEs]
  | x::r=>by simp only [Rows.uptoBulkEntries,bulkEs,bulkE_eq x,bulkEs_eq r]
theorem bulkE_eq {H:Type}:∀ d:Lit × DataW H,Rows.uptoBulkEntry d=bulkE d
  | (l,d)=>by cases l <;> simp only [Rows.uptoBulkEntry,bulkE,zoH d]
end
theorem smallUp {H:Type} {l:List (DataW H)} (hk:Rows.uptoSmall H l=true):zbA l≤1048576:=by
  rw [← zju]; exact of_decide_eq_true hk
theorem dec1_b:∀ r,zdY r [.b]→∃ x,r=ecB x:=by
  intro r h
  rcases r with _ | ⟨d,_ | _⟩ <;> simp only [zdY,and_false,and_true] at h
  cases d <;> simp only [zcl] at h
  exact ⟨_,rfl⟩
theorem fits (m:api_Machine) (h:zcK (zH m)≤1048576):Fit m:=by
  simp only [zH,zcK,zhl] at h
  have l1:=zdn (f:=za) (fun x e=>by simp [za] at e) m.Facts
  have l2:=zdn (f:=zc) (fun x e=>by simp [zc] at e) m.Files
  have l3:=zdn (f:=za) (fun x e=>by simp [za] at e) m.Settings
  have l4:=zdn (f:=zb) (fun x e=>by simp [zb] at e) m.Services
  refine ⟨by omega,by omega,by omega,by omega,fun x hx=>?_,fun x hx=>?_,fun x hx=>?_⟩
  · have:=zfy (f:=zc) hx
    simp only [zc,zcK,zhl] at this
    simp only [Sm]; omega
  · have:=zfy (f:=za) hx
    simp only [za,zcK,zhl] at this
    simp only [Sm]; omega
  · have:=zfy (f:=zb) hx
    simp only [zb,zcK,zhl] at this
    simp only [Sm]; omega
theorem line_bulk (c:api_Change):(zmL c).length+1≤4 * zcK (ze c):=by
  have q1:=zhy c.File.Data
  have q2:=zhy c.Setting.Value
  have b1:=zhI c.Service.Auto
  have b2:=zhI c.Service.On
  simp only [ze,zcK,zhl]
  unfold zmL fileW setW svcW
  cases decide (c.Kind=1)
  · cases decide (c.Kind=2)
    · cases decide (c.Kind=3)
      · cases decide (c.Kind=4)
        · cases decide (c.Kind=5)
          · simp only [cond_false,List.length_append,List.length_cons,List.length_nil]; omega
          · simp only [cond_false,cond_true,List.length_append,List.length_cons,List.length_nil,b1,b2]; omega
        · simp only [cond_false,cond_true,List.length_append,List.length_cons,List.length_nil]; omega
      · simp only [cond_false,cond_true,List.length_append,List.length_cons,List.length_nil]; omega
    · simp only [cond_false,cond_true,List.length_append,List.length_cons,List.length_nil]; omega
  · cases c.File.Runs <;> (simp only [cond_false,cond_true,List.length_append,List.length_cons,List.length_nil]; omega)
theorem does (rows:List (List Dt)) (h:zl1 rows [zeo,[.s],[.l zbm],[.i .i64],[.b]]) (hb:zdR rows≤1048576) :
    Does Tryz.prog 6 (argVs [true,false,false,false,false] rows) [] fun r X=>r=.p (.b true)∧X=[]:=by
  rcases rows with _ | ⟨r0,_ | ⟨r1,_ | ⟨r2,_ | ⟨r3,_ | ⟨r4,_ | _⟩⟩⟩⟩⟩ <;> simp only [zl1,and_false,and_true] at h
  obtain ⟨h0,h1,h2,h3,h4⟩:=h
  obtain ⟨a0,rfl⟩:=zmg r0 h0
  obtain ⟨a1,rfl⟩:=dec1_s r1 h1
  rcases r2 with _ | ⟨d2,_ | _⟩ <;> simp only [zdY,and_false,and_true] at h2
  cases d2 <;> simp only [zcl] at h2
  obtain ⟨a2,rfl⟩:=zcX zcZ h2
  obtain ⟨a3,rfl⟩:=dec1_i64 r3 h3
  obtain ⟨a4,rfl⟩:=dec1_b r4 h4
  simp only [zdR] at hb
  have h0:zcK (zH a0)≤1048576:=by omega
  simp only [zcK,zhl] at hb
  have hm:∀ c ∈ a2,zcK (ze c)≤1048576:=fun c hc=>by
    have:=zfy (f:=ze) hc
    omega
  have hl:=zdn (f:=ze) (fun x e=>by simp [ze] at e) a2
  refine zjZ a0 a1 a2 a3 a4 true (law_lk a0 a1 a2 a3 a4 (fits a0 h0) (fun c hc=>?_) (fun c hc=>?_) (by omega))
  · have:=hm c hc
    simp only [ze,zcK,zhl] at this
    exact ⟨⟨by simp only [Sm]; omega,by simp only [Sm]; omega,by simp only [Sm]; omega⟩,by simp only [Sm]; omega⟩
  · have h1:=hm c hc
    have h2:=line_bulk c
    refine ⟨by omega,?_⟩
    simp only [ze,zcK,zhl] at h1
    exact ⟨by omega,by omega⟩

/-! ### the row -/
noncomputable def zlZ (os:Os):World:=World.laidAll Tryz.prog os Rows.looksMatchUptoRow.laid
theorem laid_met (os:Os):laidMet Tryz.prog Rows.looksMatchUptoRow.laid ((zlZ os).forCall (fun _ _=>0) ⟨#[],#[.agg #[.slice none 0 0,.slice none 0 0,.slice none 0 0,.slice none 0 0],.string .empty,.slice none 0 0,.int .i64 0,.bool false],[]⟩).memory :=
  laidMet_laidAll _ (by kernel_rfl) (by kernel_rfl)
theorem zaL {P:Program} {W:World} {x:String × DataW Unit} {l:List (String × DataW Unit)} (h:laidMet P (x::l) W):laidMet P l W:=by
  obtain ⟨n,d⟩:=x
  obtain ⟨ps,⟨g,t,cs,fuel,p,q,h1,h2,h3,h4,h5,rfl⟩,h6,h7⟩:=h
  exact ⟨q,h5,(List.nodup_append.1 h6).2.1,fun b off hm=>h7 b off (List.mem_append.2 (.inr hm))⟩
theorem zom {H:Type} {enc:TypeId × Value→H} {P:Program} {w:World} {base:Nat} {sp:Nat→Bool} {held:Bool} {fuel:Nat} {t:TypeId} {cs:List Value} {nm:String} {d:DataW H} {p:List MemPlace} {mi}
    (ht:P.underlying t=some (.interface mi)) (h:DataW.trod enc P w base sp held fuel t cs=some (.iface nm d,p)):∃ u v,cs=[.iface u v]:=by
  cases fuel with
  | zero=>simp [DataW.trod] at h
  | succ fuel =>
    unfold DataW.trod at h
    rw [ht] at h
    split at h <;> simp_all
theorem errIs {P:Program} {W:World} {name nm:String} {d:DataW Unit} {rest:List (String × DataW Unit)} {g:Nat} {t:TypeId} {mi}
    (hg:P.globalNamed name=some g) (hty:(P.globals[g]?).map (·.type)=some t) (ht:P.underlying t=some (.interface mi)) (h:laidMet P ((name,.iface nm d)::rest) W) :
    ∃ ev T fr,W.heap[g]?=some (.cells #[ev] T fr)∧(ev=.nilIface ∨ ∃ te pe,ev=.iface te pe):=by
  obtain ⟨ps,⟨g',t',cs,fuel,p,q,hg',ht',hvar,hd,_,_⟩,_⟩:=h
  obtain rfl:=Option.some.inj (hg.symm.trans hg')
  obtain rfl:=Option.some.inj (hty.symm.trans ht')
  obtain ⟨u,v,hc⟩:=zom ht hd
  unfold World.var? at hvar
  rw [hg] at hvar
  simp only [Option.bind_some] at hvar
  split at hvar
  · rename_i cs' T fr hb
    cases hvar
    refine ⟨.iface u v,T,fr,?_,.inr ⟨u,v,rfl⟩⟩
    rw [hb]
    congr
    rw [← Array.toList_inj]
    exact hc
  · cases hvar
theorem htab {W:World} (h:laidMetH Tryz.prog Rows.looksMatchUptoRow.laid W):TabOk (zoI W) W.heap:=by
  have h0:laidMet Tryz.prog Rows.looksMatchUptoRow.laid W:=by rw [← MakeChecks.laidMetH_plain _ _ _ (by kernel_rfl)]; exact h
  have q3:laidMet Tryz.prog (("internal/strconv.uint64pow10",Lib.tabData .u64 tabL_3)::Rows.looksMatchUptoRow.laid.drop 3) W:=zaL (zaL h0)
  have t3:Lib.TabIs Tryz.prog W "internal/strconv.uint64pow10" .u64 tabL_3:=Lib.tabIs_of_head (g:=3) (t:=318) (e:=216) (n:=20) (by kernel_rfl) (by kernel_rfl) (by kernel_rfl) (by kernel_rfl) (by kernel_rfl) (by kernel_rfl) q3
  have g3:∃ T fr,W.heap[3]?=some (.cells (tabL_3.map (Value.int .u64)).toArray T fr):=by
    have e:=t3
    unfold Lib.TabIs World.var? at e
    rw [show Tryz.prog.globalNamed "internal/strconv.uint64pow10"=some 3 by kernel_rfl] at e
    simp only [Option.bind_some] at e
    split at e
    · rename_i cs T fr hc
      cases e
      exact ⟨T,fr,hc⟩
    · cases e
  have q7:laidMet Tryz.prog (("math/bits.deBruijn64tab",Lib.tabData .u8 tabL_7)::Rows.looksMatchUptoRow.laid.drop 2) W:=zaL h0
  have t7:Lib.TabIs Tryz.prog W "math/bits.deBruijn64tab" .u8 tabL_7:=Lib.tabIs_of_head (g:=7) (t:=347) (e:=5) (n:=64) (by kernel_rfl) (by kernel_rfl) (by kernel_rfl) (by kernel_rfl) (by kernel_rfl) (by kernel_rfl) q7
  have g7:∃ T fr,W.heap[7]?=some (.cells (tabL_7.map (Value.int .u8)).toArray T fr):=by
    have e:=t7
    unfold Lib.TabIs World.var? at e
    rw [show Tryz.prog.globalNamed "math/bits.deBruijn64tab"=some 7 by kernel_rfl] at e
    simp only [Option.bind_some] at e
    split at e
    · rename_i cs T fr hc
      cases e
      exact ⟨T,fr,hc⟩
    · cases e
  have g1:∃ ev T fr,W.heap[1]?=some (.cells #[ev] T fr)∧(ev=.nilIface ∨ ∃ te pe,ev=.iface te pe):=errIs (name:= "strconv.ErrSyntax") (rest:=Rows.looksMatchUptoRow.laid.drop 6) (t:=167) (by kernel_rfl) (by kernel_rfl) Tryz.underlying167 (zaL (zaL (zaL (zaL (zaL h0)))))
  have g2:∃ ev T fr,W.heap[2]?=some (.cells #[ev] T fr)∧(ev=.nilIface ∨ ∃ te pe,ev=.iface te pe):=errIs (name:= "strconv.ErrRange") (rest:=Rows.looksMatchUptoRow.laid.drop 5) (t:=167) (by kernel_rfl) (by kernel_rfl) Tryz.underlying167 (zaL (zaL (zaL (zaL h0))))
  refine ⟨fun b k l e=>?_,fun b e=>?_⟩
  rotate_left
  · have e:(bif Nat.beq b 1 then true else (bif Nat.beq b 2 then true else false))=true:=e
    have hlt:∀ b T cs fr,W.heap[b]?=some (.cells cs T fr)→b < W.heap.size:=fun b T cs fr hb=>(Array.getElem?_eq_some_iff.1 hb).1
    cases hb1:Nat.beq b 1 <;> rw [hb1] at e
    rotate_left
    · cases e
      obtain rfl:=Nat.eq_of_beq_eq_true hb1
      obtain ⟨ev,T,fr,hc,hv⟩:=g1
      exact ⟨hlt _ _ _ _ hc,ev,T,fr,hc,hv⟩
    rw [cond_false] at e
    cases hb2:Nat.beq b 2 <;> rw [hb2] at e
    rotate_left
    · cases e
      obtain rfl:=Nat.eq_of_beq_eq_true hb2
      obtain ⟨ev,T,fr,hc,hv⟩:=g2
      exact ⟨hlt _ _ _ _ hc,ev,T,fr,hc,hv⟩
    rw [cond_false] at e
    cases e
  have hlt:∀ b T cs fr,W.heap[b]?=some (.cells cs T fr)→b < W.heap.size:=fun b T cs fr hb=>(Array.getElem?_eq_some_iff.1 hb).1
  have e:(bif Nat.beq b 3 then some (IntKind.u64,tabL_3) else (bif Nat.beq b 7 then some (IntKind.u8,tabL_7) else none))=some (k,l):=e
  cases hb3:Nat.beq b 3 <;> rw [hb3] at e
  rotate_left
  · cases e
    obtain rfl:=Nat.eq_of_beq_eq_true hb3
    obtain ⟨T,fr,hc⟩:=g3
    exact ⟨hlt _ _ _ _ hc,⟨T,fr,hc⟩,by simp only [Fits,lo,hi]; decide⟩
  rw [cond_false] at e
  cases hb7:Nat.beq b 7 <;> rw [hb7] at e
  rotate_left
  · cases e
    obtain rfl:=Nat.eq_of_beq_eq_true hb7
    obtain ⟨T,fr,hc⟩:=g7
    exact ⟨hlt _ _ _ _ hc,⟨T,fr,hc⟩,by simp only [Fits,lo,hi]; decide⟩
  rw [cond_false] at e
  cases e
theorem reads (os:Os) {H:Type} (enc:TypeId × Value→H):∃ places,DataW.whole enc Tryz.prog ((zlZ os).forCall (fun _ _=>0) ⟨#[],#[.agg #[.slice none 0 0,.slice none 0 0,.slice none 0 0,.slice none 0 0],.string .empty,.slice none 0 0,.int .i64 0,.bool false],[]⟩).memory Tryz.f6.params.toList Rows.looksMatchSpec.vars false (#[.agg #[.slice none 0 0,.slice none 0 0,.slice none 0 0,.slice none 0 0],.string .empty,.slice none 0 0,.int .i64 0,.bool false]:Array Value).toList 8=some ([.agg [.nil,.nil,.nil,.nil],.lit (.string []),.nil,.lit (.int .i64 0),.lit (.bool false)],[],places) :=
  ⟨[],by kernel_rfl⟩
set_option maxRecDepth 100000 in
theorem lifted (os:Os) (started:os.Started) (H:Type) (enc:TypeId × Value→H) (F:Stop.Interp) :
    ReturnsInHanded {} Tryz.checked os 6 .any ((Rows.OpenSpec.upto Rows.looksMatchSpec).preRow enc Tryz.prog Tryz.f6 Rows.looksMatchUptoRow.domain false Rows.looksMatchUptoRow.laid) (((Rows.OpenSpec.upto Rows.looksMatchSpec).at F).post enc Tryz.prog Tryz.f6 false true false false):=by
  obtain ⟨places,hx⟩:=reads os enc
  refine returnsInHanded_of_row (C:=Tryz.checked) (s:=Rows.OpenSpec.upto Rows.looksMatchSpec) own started (by kernel_rfl) Tryz.func6
    (witness_row_atRef (enc:=enc) (C:=Tryz.checked) false (zlZ os) #[.agg #[.slice none 0 0,.slice none 0 0,.slice none 0 0,.slice none 0 0],.string .empty,.slice none 0 0,.int .i64 0,.bool false] (World.laidAll_os _ _ _) (by kernel_rfl) (by kernel_rfl) (by kernel_rfl)
      (OpenSpec.preRow_of_cond 8 hx (by kernel_rfl) (fun k hk=>by cases hk; kernel_rfl) (by kernel_rfl) (laid_met os))) ?_
  intro W base args ds gs before hval hW _ hcond _ hL _ _
  have hb:=smallUp (hcond _ rfl)
  rw [zjw] at hb
  exact law_calls (htab:=htab hL) (m:=20) (shss:=[zeo,[.s],[.l zbm],[.i .i64],[.b]]) rfl (tb:=4) (by kernel_rfl) Tryz.underlying4 (by kernel_rfl) (by kernel_rfl) (by kernel_rfl) (fun ds h=>match ds,h with | [_,_,_,_,_],_=>rfl)
    (fun rows h1 h2=>does rows h1 (by omega)) hval hW (by simp only [Lim]; omega)
end Go.Proofs.YtbofknpajcdnmaaGreatDoor
