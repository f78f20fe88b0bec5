/- What the law's function does, as the row asks: of every input of bulk at most 1048576 the law's function says true, and the input reads as it did. -/
import Derived.Test.YtkojogldchfkkaaGreatDoorCards
import Derived.Test.YtkojogldchfkkaaGreatDoorTie
import Derived.Deep.DeepHandedRow
import Derived.Lib.LaidTab
import Derived.Lay
import Derived.Deep.DeepWitnessRowRef
import Derived.Test.YtkojogldchfkkaaGreatDoorScWk1
import Derived.Test.YtkojogldchfkkaaGreatDoorScWk2
import Derived.Test.YtkojogldchfkkaaGreatDoorScWk3
import Derived.Test.YtkojogldchfkkaaGreatDoorScWk4
import Derived.Test.YtkojogldchfkkaaGreatDoorScWk5
import Derived.Test.YtkojogldchfkkaaGreatDoorScWk6
import Derived.Test.YtkojogldchfkkaaGreatDoorScWk7
import Derived.Test.YtkojogldchfkkaaGreatDoorScWk8
import Derived.Test.YtkojogldchfkkaaGreatDoorScWk9
import Derived.Test.YtkojogldchfkkaaGreatDoorScWk10
import Derived.Test.YtkojogldchfkkaaGreatDoorScWk11
import Derived.Test.YtkojogldchfkkaaGreatDoorScWk12
import Derived.Test.YtkojogldchfkkaaGreatDoorScWk13
import Derived.Test.YtkojogldchfkkaaGreatDoorScWk14
import Derived.Test.YtkojogldchfkkaaGreatDoorScWk15
import Derived.Test.YtkojogldchfkkaaGreatDoorScWk16
import Derived.Test.YtkojogldchfkkaaGreatDoorScWk17
import Derived.Test.YtkojogldchfkkaaGreatDoorScWk18
import Derived.Test.YtkojogldchfkkaaGreatDoorScWk19
import Derived.Test.YtkojogldchfkkaaGreatDoorScPm
open List
namespace Go.Proofs.YtkojogldchfkkaaGreatDoor
open Go.Vc Go.Md
theorem own:ownKnob Tryz.prog.godebug=none:=by kernel_rfl
mutual
theorem JD {H:Type}:∀ d:DataW H,Rows.uptoBulk d=gu d
  | .lit l=>by cases l <;> simp only [Rows.uptoBulk,gu]
  | .nil=>by simp only [Rows.uptoBulk,gu]
  | .ptr d=>by simp only [Rows.uptoBulk,gu,JD d]
  | .slice a b=>by simp only [Rows.uptoBulk,gu,GG a,GG b]
  | .agg a=>by simp only [Rows.uptoBulk,gu,GG a]
  | .iface _ d=>by simp only [Rows.uptoBulk,gu,JD d]
  | .map es=>by simp only [Rows.uptoBulk,gu,kX es]
  | .held _=>by simp only [Rows.uptoBulk,gu]
theorem GG {H:Type}:∀ d:List (DataW H),Rows.uptoBulkAll d=g8 d
  | []=>by simp only [Rows.uptoBulkAll,g8]
  | d::r=>by simp only [Rows.uptoBulkAll,g8,JD d,GG r]
theorem kX {H:Type}:∀ d:List (Lit × DataW H),Rows.uptoBulkEntries d=jn d
  | []=>by simp only [Rows.uptoBulkEntries,jn]
  | x::r=>by simp only [Rows.uptoBulkEntries,jn,xi x,kX r]
theorem xi {H:Type}:∀ d:Lit × DataW H,Rows.uptoBulkEntry d=xj d
  | (l,d)=>by cases l <;> simp only [Rows.uptoBulkEntry,xj,JD d]
end
theorem y3 {H:Type} {l:List (DataW H)} (hk:Rows.uptoSmall H l=true):g8 l≤1048576:=by
  rw [← GG]; exact of_decide_eq_true hk
theorem Er:∀ r,fh r [.b]→∃ x,r=fl x:=by
  intro r h
  rcases r with _ | ⟨d,_ | _⟩ <;> simp only [fh,and_false,and_true] at h
  cases d <;> simp only [ff] at h
  exact ⟨_,rfl⟩
theorem N2 (m:ai) (h:fW (zK m)≤1048576):EG m:=by
  simp only [zK,fW,li] at h
  have l1:=Fx (f:=za) (fun x e=>by simp [za] at e) m.m
  have l2:=Fx (f:=zc) (fun x e=>by simp [zc] at e) m.b
  have l3:=Fx (f:=za) (fun x e=>by simp [za] at e) m.i
  have l4:=Fx (f:=zb) (fun x e=>by simp [zb] at e) m.h
  refine ⟨by omega,by omega,by omega,by omega,fun x hx=>?_,fun x hx=>?_,fun x hx=>?_⟩
  · have:=Hp (f:=zc) hx
    simp only [zc,fW,li] at this
    simp only [Sm]; omega
  · have:=Hp (f:=za) hx
    simp only [za,fW,li] at this
    simp only [Sm]; omega
  · have:=Hp (f:=zb) hx
    simp only [zb,fW,li] at this
    simp only [Sm]; omega
theorem kE (c:ae):(uj c).length+1≤4 * fW (zf c):=by
  have q1:=Km c.g.q
  have q2:=Km c.o.Value
  have b1:=Bd c.f.u
  have b2:=Bd c.f.t
  simp only [zf,fW,li]
  unfold uj yn m8 iY
  cases decide (c.k=1)
  · cases decide (c.k=2)
    · cases decide (c.k=3)
      · cases decide (c.k=4)
        · cases decide (c.k=5)
          · simp only [cond_false,length_append,length_cons,length_nil]; omega
          · simp only [cond_false,cond_true,length_append,length_cons,length_nil,b1,b2]; omega
        · simp only [cond_false,cond_true,length_append,length_cons,length_nil]; omega
      · simp only [cond_false,cond_true,length_append,length_cons,length_nil]; omega
    · simp only [cond_false,cond_true,length_append,length_cons,length_nil]; omega
  · cases c.g.r <;> (simp only [cond_false,cond_true,length_append,length_cons,length_nil]; omega)
theorem OL:∀ l:List ae,(fG l).length≤4 * jC (l.map zf)
  | []=>by simp [fG]
  | c::l=>by
    have h1:=kE c
    have h2:=OL l
    rw [Fv]
    simp only [map_cons,jC,length_append,length_cons,length_nil]
    omega
theorem S6 (l:List ae) (h:jC (l.map zf)≤1048576):SmL l:=by
  have hp:=OL l
  have hm:∀ c ∈ l,fW (zf c)≤1048576:=fun c hc=>by
    have:=Hp (f:=zf) hc
    omega
  refine ⟨fun c hc=>?_,fun c hc=>?_,by omega,?_⟩
  · have:=hm c hc
    simp only [zf,fW,li] at this
    exact ⟨by simp only [Sm]; omega,by simp only [Sm]; omega,by simp only [Sm]; omega⟩
  · have:=hm c hc
    simp only [zf,fW,li] at this
    exact ⟨by omega,by omega⟩
  · have:=Fx (f:=zf) (fun x e=>by simp [zf] at e) l
    omega
theorem N6 (rows:List (List Dt)) (h:Cg rows [KI,[.s],[.l CV],[.b]]) (hb:jC rows≤1048576) :
    Does Tryz.prog 3 (kY [true,false,false,false] rows) [] fun r X=>r=.p (.b true)∧X=[]:=by
  rcases rows with _ | ⟨r0,_ | ⟨r1,_ | ⟨r2,_ | ⟨r3,_ | _⟩⟩⟩⟩ <;> simp only [Cg,and_false,and_true] at h
  obtain ⟨h0,h1,h2,h3⟩:=h
  obtain ⟨a0,rfl⟩:=Rl r0 h0
  obtain ⟨a1,rfl⟩:=Ep r1 h1
  rcases r2 with _ | ⟨d2,_ | _⟩ <;> simp only [fh,and_false,and_true] at h2
  cases d2 <;> simp only [ff] at h2
  obtain ⟨a2,rfl⟩:=yJ KK h2
  obtain ⟨a3,rfl⟩:=Er r3 h3
  simp only [jC] at hb
  have h0:fW (zK a0)≤1048576:=by omega
  simp only [fW,li] at hb
  have hm:∀ c ∈ a2,fW (zf c)≤1048576:=fun c hc=>by
    have:=Hp (f:=zf) hc
    omega
  refine RO a0 a1 a2 a3 true (DW a0 a1 a2 a3 (N2 a0 h0) (fun c hc=>?_) (fun c hc=>?_) (S6 a2 (by omega)).w)
  · have:=hm c hc
    simp only [zf,fW,li] at this
    exact ⟨⟨by simp only [Sm]; omega,by simp only [Sm]; omega,by simp only [Sm]; omega⟩,by simp only [Sm]; omega⟩
  · have h1:=hm c hc
    have h2:=kE c
    refine ⟨by omega,?_⟩
    simp only [zf,fW,li] at h1
    exact ⟨by omega,by omega⟩

/-! ### the row -/
noncomputable def L6 (os:Os):World:=World.laidAll Tryz.prog os Rows.stagesCheckUptoRow.laid
theorem wi (os:Os):laidMet Tryz.prog Rows.stagesCheckUptoRow.laid ((L6 os).forCall (fun _ _=>0) ⟨#[],#[.agg #[.slice none 0 0,.slice none 0 0,.slice none 0 0,.slice none 0 0],.string .empty,.slice none 0 0,.bool false],[]⟩).memory :=
  laidMet_laidAll _ (by kernel_rfl) (by kernel_rfl)
theorem uw {P:Program} {W:World} {x:String × DataW Unit} {l:List (String × DataW Unit)} (h:laidMet P (x::l) W):laidMet P l W:=by
  obtain ⟨n,d⟩:=x
  obtain ⟨ps,⟨g,t,cs,fuel,p,q,h1,h2,h3,h4,h5,rfl⟩,h6,h7⟩:=h
  exact ⟨q,h5,(nodup_append.1 h6).2.1,fun b off hm=>h7 b off (mem_append.2 (.inr hm))⟩
theorem QL {H:Type} {enc:TypeId × Value→H} {P:Program} {w:World} {base:Nat} {sp:Nat→Bool} {held:Bool} {fuel:Nat} {t:TypeId} {cs:List Value} {nm:String} {d:DataW H} {p:List MemPlace} {mi}
    (ht:P.underlying t=some (.interface mi)) (h:DataW.trod enc P w base sp held fuel t cs=some (.iface nm d,p)):∃ u v,cs=[.iface u v]:=by
  cases fuel with
  | zero=>simp [DataW.trod] at h
  | succ fuel =>
    unfold DataW.trod at h
    rw [ht] at h
    split at h <;> simp_all
theorem B8 {P:Program} {W:World} {name nm:String} {d:DataW Unit} {rest:List (String × DataW Unit)} {g:Nat} {t:TypeId} {mi}
    (hg:P.globalNamed name=some g) (hty:(P.globals[g]?).map (·.type)=some t) (ht:P.underlying t=some (.interface mi)) (h:laidMet P ((name,.iface nm d)::rest) W) :
    ∃ ev T fr,W.heap[g]?=some (.cells #[ev] T fr)∧(ev=.nilIface ∨ ∃ te pe,ev=.iface te pe):=by
  obtain ⟨ps,⟨g',t',cs,fuel,p,q,hg',ht',hvar,hd,_,_⟩,_⟩:=h
  obtain rfl:=Option.some.inj (hg.symm.trans hg')
  obtain rfl:=Option.some.inj (hty.symm.trans ht')
  obtain ⟨u,v,hc⟩:=QL ht hd
  unfold World.var? at hvar
  rw [hg] at hvar
  simp only [Option.bind_some] at hvar
  split at hvar
  · rename_i cs' T fr hb
    cases hvar
    refine ⟨.iface u v,T,fr,?_,.inr ⟨u,v,rfl⟩⟩
    rw [hb]
    congr
    rw [← Array.toList_inj]
    exact hc
  · cases hvar
theorem tp {W:World} (h:laidMetH Tryz.prog Rows.stagesCheckUptoRow.laid W):TabOk (yg W) W.heap:=by
  have h0:laidMet Tryz.prog Rows.stagesCheckUptoRow.laid W:=by rw [← MakeChecks.laidMetH_plain _ _ _ (by kernel_rfl)]; exact h
  have q1:laidMet Tryz.prog (("internal/strconv.uint64pow10",Lib.tabData .u64 tabL_1)::Rows.stagesCheckUptoRow.laid.drop 3) W:=uw (uw h0)
  have t1:Lib.TabIs Tryz.prog W "internal/strconv.uint64pow10" .u64 tabL_1:=Lib.tabIs_of_head (g:=1) (t:=261) (e:=163) (n:=20) (by kernel_rfl) (by kernel_rfl) (by kernel_rfl) (by kernel_rfl) (by kernel_rfl) (by kernel_rfl) q1
  have g1:∃ T fr,W.heap[1]?=some (.cells (tabL_1.map (Value.int .u64)).toArray T fr):=by
    have e:=t1
    unfold Lib.TabIs World.var? at e
    rw [show Tryz.prog.globalNamed "internal/strconv.uint64pow10"=some 1 by kernel_rfl] at e
    simp only [Option.bind_some] at e
    split at e
    · rename_i cs T fr hc
      cases e
      exact ⟨T,fr,hc⟩
    · cases e
  have q7:laidMet Tryz.prog (("math/bits.deBruijn64tab",Lib.tabData .u8 tabL_7)::Rows.stagesCheckUptoRow.laid.drop 2) W:=uw h0
  have t7:Lib.TabIs Tryz.prog W "math/bits.deBruijn64tab" .u8 tabL_7:=Lib.tabIs_of_head (g:=7) (t:=286) (e:=5) (n:=64) (by kernel_rfl) (by kernel_rfl) (by kernel_rfl) (by kernel_rfl) (by kernel_rfl) (by kernel_rfl) q7
  have g7:∃ T fr,W.heap[7]?=some (.cells (tabL_7.map (Value.int .u8)).toArray T fr):=by
    have e:=t7
    unfold Lib.TabIs World.var? at e
    rw [show Tryz.prog.globalNamed "math/bits.deBruijn64tab"=some 7 by kernel_rfl] at e
    simp only [Option.bind_some] at e
    split at e
    · rename_i cs T fr hc
      cases e
      exact ⟨T,fr,hc⟩
    · cases e
  have g2:∃ ev T fr,W.heap[2]?=some (.cells #[ev] T fr)∧(ev=.nilIface ∨ ∃ te pe,ev=.iface te pe):=B8 (name:= "strconv.ErrSyntax") (rest:=Rows.stagesCheckUptoRow.laid.drop 6) (t:=156) (by kernel_rfl) (by kernel_rfl) Tryz.underlying156 (uw (uw (uw (uw (uw h0)))))
  have g3:∃ ev T fr,W.heap[3]?=some (.cells #[ev] T fr)∧(ev=.nilIface ∨ ∃ te pe,ev=.iface te pe):=B8 (name:= "strconv.ErrRange") (rest:=Rows.stagesCheckUptoRow.laid.drop 5) (t:=156) (by kernel_rfl) (by kernel_rfl) Tryz.underlying156 (uw (uw (uw (uw h0))))
  refine ⟨fun b k l e=>?_,fun b e=>?_⟩
  rotate_left
  · have e:(bif Nat.beq b 2 then true else (bif Nat.beq b 3 then true else false))=true:=e
    have hlt:∀ b T cs fr,W.heap[b]?=some (.cells cs T fr)→b < W.heap.size:=fun b T cs fr hb=>(Array.getElem?_eq_some_iff.1 hb).1
    cases hb2:Nat.beq b 2 <;> rw [hb2] at e
    rotate_left
    · cases e
      obtain rfl:=Nat.eq_of_beq_eq_true hb2
      obtain ⟨ev,T,fr,hc,hv⟩:=g2
      exact ⟨hlt _ _ _ _ hc,ev,T,fr,hc,hv⟩
    rw [cond_false] at e
    cases hb3:Nat.beq b 3 <;> rw [hb3] at e
    rotate_left
    · cases e
      obtain rfl:=Nat.eq_of_beq_eq_true hb3
      obtain ⟨ev,T,fr,hc,hv⟩:=g3
      exact ⟨hlt _ _ _ _ hc,ev,T,fr,hc,hv⟩
    rw [cond_false] at e
    cases e
  have hlt:∀ b T cs fr,W.heap[b]?=some (.cells cs T fr)→b < W.heap.size:=fun b T cs fr hb=>(Array.getElem?_eq_some_iff.1 hb).1
  have e:(bif Nat.beq b 1 then some (IntKind.u64,tabL_1) else (bif Nat.beq b 7 then some (IntKind.u8,tabL_7) else none))=some (k,l):=e
  cases hb1:Nat.beq b 1 <;> rw [hb1] at e
  rotate_left
  · cases e
    obtain rfl:=Nat.eq_of_beq_eq_true hb1
    obtain ⟨T,fr,hc⟩:=g1
    exact ⟨hlt _ _ _ _ hc,⟨T,fr,hc⟩,by simp only [Fits,lo,hi]; decide⟩
  rw [cond_false] at e
  cases hb7:Nat.beq b 7 <;> rw [hb7] at e
  rotate_left
  · cases e
    obtain rfl:=Nat.eq_of_beq_eq_true hb7
    obtain ⟨T,fr,hc⟩:=g7
    exact ⟨hlt _ _ _ _ hc,⟨T,fr,hc⟩,by simp only [Fits,lo,hi]; decide⟩
  rw [cond_false] at e
  cases e
theorem reads (os:Os) {H:Type} (enc:TypeId × Value→H):∃ places,DataW.whole enc Tryz.prog ((L6 os).forCall (fun _ _=>0) ⟨#[],#[.agg #[.slice none 0 0,.slice none 0 0,.slice none 0 0,.slice none 0 0],.string .empty,.slice none 0 0,.bool false],[]⟩).memory Tryz.f3.params.toList Rows.stagesCheckSpec.vars false (#[.agg #[.slice none 0 0,.slice none 0 0,.slice none 0 0,.slice none 0 0],.string .empty,.slice none 0 0,.bool false]:Array Value).toList 8=some ([.agg [.nil,.nil,.nil,.nil],.lit (.string []),.nil,.lit (.bool false)],[],places) :=
  ⟨[],by kernel_rfl⟩
set_option maxRecDepth 100000 in
theorem DU (os:Os) (started:os.Started) (H:Type) (enc:TypeId × Value→H) (F:Stop.Interp) :
    ReturnsInHanded {} Tryz.checked os 3 .any ((Rows.OpenSpec.upto Rows.stagesCheckSpec).preRow enc Tryz.prog Tryz.f3 Rows.stagesCheckUptoRow.domain false Rows.stagesCheckUptoRow.laid) (((Rows.OpenSpec.upto Rows.stagesCheckSpec).at F).post enc Tryz.prog Tryz.f3 false true false false):=by
  obtain ⟨places,hx⟩:=reads os enc
  refine returnsInHanded_of_row (C:=Tryz.checked) (s:=Rows.OpenSpec.upto Rows.stagesCheckSpec) own started (by kernel_rfl) Tryz.func3
    (witness_row_atRef (enc:=enc) (C:=Tryz.checked) false (L6 os) #[.agg #[.slice none 0 0,.slice none 0 0,.slice none 0 0,.slice none 0 0],.string .empty,.slice none 0 0,.bool false] (World.laidAll_os _ _ _) (by kernel_rfl) (by kernel_rfl) (by kernel_rfl)
      (OpenSpec.preRow_of_cond 8 hx (by kernel_rfl) (fun k hk=>by cases hk; kernel_rfl) (by kernel_rfl) (wi os))) ?_
  intro W base args ds gs before hval hW _ hcond _ hL _ _
  have hb:=y3 (hcond _ rfl)
  rw [PB] at hb
  exact tf (tp:=tp hL) (m:=20) (shss:=[KI,[.s],[.l CV],[.b]]) rfl (tb:=4) (by kernel_rfl) Tryz.underlying4 (by kernel_rfl) (by kernel_rfl) (by kernel_rfl) (fun ds h=>match ds,h with | [_,_,_,_],_=>rfl)
    (fun rows h1 h2=>N6 rows h1 (by omega)) hval hW (by simp only [eM]; omega)
end Go.Proofs.YtkojogldchfkkaaGreatDoor
