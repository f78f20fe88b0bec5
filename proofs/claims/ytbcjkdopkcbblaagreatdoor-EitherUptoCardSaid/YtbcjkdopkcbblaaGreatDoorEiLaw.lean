/- What the law's function does, as the row asks: of every input of bulk at most 1048576 the law's function says true, and the input reads as it did. -/
import Derived.Test.YtbcjkdopkcbblaaGreatDoorCards
import Derived.Test.YtbcjkdopkcbblaaGreatDoorTie
import Derived.Deep.DeepHandedRow
import Derived.Lib.LaidTab
import Derived.Lay
import Derived.Deep.DeepWitnessRowRef
import Derived.Test.YtbcjkdopkcbblaaGreatDoorEiWk1
import Derived.Test.YtbcjkdopkcbblaaGreatDoorEiWk2
import Derived.Test.YtbcjkdopkcbblaaGreatDoorEiWk3
import Derived.Test.YtbcjkdopkcbblaaGreatDoorEiWk4
import Derived.Test.YtbcjkdopkcbblaaGreatDoorEiWk5
import Derived.Test.YtbcjkdopkcbblaaGreatDoorEiWk6
import Derived.Test.YtbcjkdopkcbblaaGreatDoorEiWk7
import Derived.Test.YtbcjkdopkcbblaaGreatDoorEiPm
open List
namespace Go.Proofs.YtbcjkdopkcbblaaGreatDoor
open Go.Vc Go.Md
theorem own:ownKnob Tryz.prog.godebug=none:=by kernel_rfl
mutual
theorem KM {H:Type}:∀ d:DataW H,Rows.uptoBulk d=fS d
  | .lit l=>by cases l <;> simp only [Rows.uptoBulk,fS]
  | .nil=>by simp only [Rows.uptoBulk,fS]
  | .ptr d=>by simp only [Rows.uptoBulk,fS,KM d]
  | .slice a b=>by simp only [Rows.uptoBulk,fS,HC a,HC b]
  | .agg a=>by simp only [Rows.uptoBulk,fS,HC a]
  | .iface _ d=>by simp only [Rows.uptoBulk,fS,KM d]
  | .map es=>by simp only [Rows.uptoBulk,fS,la es]
  | .held _=>by simp only [Rows.uptoBulk,fS]
theorem HC {H:Type}:∀ d:List (DataW H),Rows.uptoBulkAll d=gO d
  | []=>by simp only [Rows.uptoBulkAll,gO]
  | d::r=>by simp only [Rows.uptoBulkAll,gO,KM d,HC r]
theorem la {H:Type}:∀ d:List (Lit × DataW H),Rows.uptoBulkEntries d=ji d
  | []=>by simp only [Rows.uptoBulkEntries,ji]
  | x::r=>by simp only [Rows.uptoBulkEntries,ji,xT x,la r]
theorem xT {H:Type}:∀ d:Lit × DataW H,Rows.uptoBulkEntry d=xU d
  | (l,d)=>by cases l <;> simp only [Rows.uptoBulkEntry,xU,KM d]
end
theorem AV {H:Type} {l:List (DataW H)} (hk:Rows.uptoSmall H l=true):gO l≤1048576:=by
  rw [← HC]; exact of_decide_eq_true hk
theorem PM (m:ah) (h:fq (zN m)≤1048576):FG m:=by
  simp only [zN,fq,lq] at h
  have l1:=Gq (f:=za) (fun x e=>by simp [za] at e) m.y
  have l2:=Gq (f:=zc) (fun x e=>by simp [zc] at e) m.h
  have l3:=Gq (f:=za) (fun x e=>by simp [za] at e) m.r
  have l4:=Gq (f:=zb) (fun x e=>by simp [zb] at e) m.o
  refine ⟨by omega,by omega,by omega,by omega,fun x hx=>?_,fun x hx=>?_,fun x hx=>?_⟩
  · have:=Iy (f:=zc) hx
    simp only [zc,fq,lq] at this
    simp only [Sm]; omega
  · have:=Iy (f:=za) hx
    simp only [za,fq,lq] at this
    simp only [Sm]; omega
  · have:=Iy (f:=zb) hx
    simp only [zb,fq,lq] at this
    simp only [Sm]; omega
theorem kJ (c:ae):(iN c).length+1≤4 * fq (zf c):=by
  have q1:=LO c.i.B
  have q2:=LO c.z.Value
  have b1:=FZ c.q.D
  have b2:=FZ c.q.E
  simp only [zf,fq,lq]
  unfold iN jf qx qt
  cases decide (c.u=1)
  · cases decide (c.u=2)
    · cases decide (c.u=3)
      · cases decide (c.u=4)
        · cases decide (c.u=5)
          · simp only [cond_false,length_append,length_cons,length_nil]; omega
          · simp only [cond_false,cond_true,length_append,length_cons,length_nil,b1,b2]; omega
        · simp only [cond_false,cond_true,length_append,length_cons,length_nil]; omega
      · simp only [cond_false,cond_true,length_append,length_cons,length_nil]; omega
    · simp only [cond_false,cond_true,length_append,length_cons,length_nil]; omega
  · cases c.i.C <;> (simp only [cond_false,cond_true,length_append,length_cons,length_nil]; omega)
theorem P1:∀ l:List ae,(gg l).length≤4 * jA (l.map zf)
  | []=>by simp [gg]
  | c::l=>by
    have h1:=kJ c
    have h2:=P1 l
    rw [Gy]
    simp only [map_cons,jA,length_append,length_cons,length_nil]
    omega
theorem U2 (l:List ae) (h:jA (l.map zf)≤1048576):uD l:=by
  have hp:=P1 l
  have hm:∀ c ∈ l,fq (zf c)≤1048576:=fun c hc=>by
    have:=Iy (f:=zf) hc
    omega
  refine ⟨fun c hc=>?_,fun c hc=>?_,by omega,?_⟩
  · have:=hm c hc
    simp only [zf,fq,lq] at this
    exact ⟨by simp only [Sm]; omega,by simp only [Sm]; omega,by simp only [Sm]; omega⟩
  · have:=hm c hc
    simp only [zf,fq,lq] at this
    exact ⟨by omega,by omega⟩
  · have:=Gq (f:=zf) (fun x e=>by simp [zf] at e) l
    omega
theorem PQ (rows:List (List Dt)) (h:C6 rows [L5,[.s],[.l DX],[.l LP]]) (hb:jA rows≤1048576) :
    Does Tryz.prog 3 (ld [true,false,false,false] rows) [] fun r X=>r=.p (.b true)∧X=[]:=by
  rcases rows with _ | ⟨r0,_ | ⟨r1,_ | ⟨r2,_ | ⟨r3,_ | _⟩⟩⟩⟩ <;> simp only [C6,and_false,and_true] at h
  obtain ⟨h0,h1,h2,h3⟩:=h
  obtain ⟨a0,rfl⟩:=SR r0 h0
  obtain ⟨a1,rfl⟩:=Fp r1 h1
  rcases r2 with _ | ⟨d2,_ | _⟩ <;> simp only [eA,and_false,and_true] at h2
  cases d2 <;> simp only [ej] at h2
  obtain ⟨a2,rfl⟩:=yP L3 h2
  rcases r3 with _ | ⟨d3,_ | _⟩ <;> simp only [eA,and_false,and_true] at h3
  cases d3 <;> simp only [ej] at h3
  obtain ⟨a3,rfl⟩:=yP oR h3
  simp only [jA] at hb
  have h0:fq (zN a0)≤1048576:=by omega
  simp only [fq,lq] at hb
  have hm:∀ c ∈ a2,fq (zf c)≤1048576:=fun c hc=>by
    have:=Iy (f:=zf) hc
    omega
  refine SC a0 a1 a2 a3 true (EU a0 a1 a2 a3 (PM a0 h0) (fun c hc=>?_) (fun c hc=>?_) (by have:=(U2 a2 (by omega)).n; omega))
  · have:=hm c hc
    simp only [zf,fq,lq] at this
    exact ⟨⟨by simp only [Sm]; omega,by simp only [Sm]; omega,by simp only [Sm]; omega⟩,by simp only [Sm]; omega⟩
  · have h1:=hm c hc
    have h2:=kJ c
    refine ⟨by omega,?_⟩
    simp only [zf,fq,lq] at h1
    exact ⟨by omega,by omega⟩

/-! ### the row -/
noncomputable def NG (os:Os):World:=World.laidAll Tryz.prog os Rows.eitherUptoRow.laid
theorem wZ (os:Os):laidMet Tryz.prog Rows.eitherUptoRow.laid ((NG os).forCall (fun _ _=>0) ⟨#[],#[.agg #[.slice none 0 0,.slice none 0 0,.slice none 0 0,.slice none 0 0],.string .empty,.slice none 0 0,.slice none 0 0],[]⟩).memory :=
  laidMet_laidAll _ (by kernel_rfl) (by kernel_rfl)
theorem vA {P:Program} {W:World} {x:String × DataW Unit} {l:List (String × DataW Unit)} (h:laidMet P (x::l) W):laidMet P l W:=by
  obtain ⟨n,d⟩:=x
  obtain ⟨ps,⟨g,t,cs,fuel,p,q,h1,h2,h3,h4,h5,rfl⟩,h6,h7⟩:=h
  exact ⟨q,h5,(nodup_append.1 h6).2.1,fun b off hm=>h7 b off (mem_append.2 (.inr hm))⟩
theorem SK {H:Type} {enc:TypeId × Value→H} {P:Program} {w:World} {base:Nat} {sp:Nat→Bool} {held:Bool} {fuel:Nat} {t:TypeId} {cs:List Value} {nm:String} {d:DataW H} {p:List MemPlace} {mi}
    (ht:P.underlying t=some (.interface mi)) (h:DataW.trod enc P w base sp held fuel t cs=some (.iface nm d,p)):∃ u v,cs=[.iface u v]:=by
  cases fuel with
  | zero=>simp [DataW.trod] at h
  | succ fuel =>
    unfold DataW.trod at h
    rw [ht] at h
    split at h <;> simp_all
theorem CW {P:Program} {W:World} {name nm:String} {d:DataW Unit} {rest:List (String × DataW Unit)} {g:Nat} {t:TypeId} {mi}
    (hg:P.globalNamed name=some g) (hty:(P.globals[g]?).map (·.type)=some t) (ht:P.underlying t=some (.interface mi)) (h:laidMet P ((name,.iface nm d)::rest) W) :
    ∃ ev T fr,W.heap[g]?=some (.cells #[ev] T fr)∧(ev=.nilIface ∨ ∃ te pe,ev=.iface te pe):=by
  obtain ⟨ps,⟨g',t',cs,fuel,p,q,hg',ht',hvar,hd,_,_⟩,_⟩:=h
  obtain rfl:=Option.some.inj (hg.symm.trans hg')
  obtain rfl:=Option.some.inj (hty.symm.trans ht')
  obtain ⟨u,v,hc⟩:=SK ht hd
  unfold World.var? at hvar
  rw [hg] at hvar
  simp only [Option.bind_some] at hvar
  split at hvar
  · rename_i cs' T fr hb
    cases hvar
    refine ⟨.iface u v,T,fr,?_,.inr ⟨u,v,rfl⟩⟩
    rw [hb]
    congr
    rw [← Array.toList_inj]
    exact hc
  · cases hvar
theorem tX {W:World} (h:laidMetH Tryz.prog Rows.eitherUptoRow.laid W):TabOk (y3 W) W.heap:=by
  have h0:laidMet Tryz.prog Rows.eitherUptoRow.laid W:=by rw [← MakeChecks.laidMetH_plain _ _ _ (by kernel_rfl)]; exact h
  have q1:laidMet Tryz.prog (("internal/strconv.uint64pow10",Lib.tabData .u64 tabL_1)::Rows.eitherUptoRow.laid.drop 3) W:=vA (vA h0)
  have t1:Lib.TabIs Tryz.prog W "internal/strconv.uint64pow10" .u64 tabL_1:=Lib.tabIs_of_head (g:=1) (t:=268) (e:=190) (n:=20) (by kernel_rfl) (by kernel_rfl) (by kernel_rfl) (by kernel_rfl) (by kernel_rfl) (by kernel_rfl) q1
  have g1:∃ T fr,W.heap[1]?=some (.cells (tabL_1.map (Value.int .u64)).toArray T fr):=by
    have e:=t1
    unfold Lib.TabIs World.var? at e
    rw [show Tryz.prog.globalNamed "internal/strconv.uint64pow10"=some 1 by kernel_rfl] at e
    simp only [Option.bind_some] at e
    split at e
    · rename_i cs T fr hc
      cases e
      exact ⟨T,fr,hc⟩
    · cases e
  have g4:∃ ev T fr,W.heap[4]?=some (.cells #[ev] T fr)∧(ev=.nilIface ∨ ∃ te pe,ev=.iface te pe):=CW (name:= "strconv.ErrSyntax") (rest:=Rows.eitherUptoRow.laid.drop 6) (t:=183) (by kernel_rfl) (by kernel_rfl) Tryz.underlying183 (vA (vA (vA (vA (vA h0)))))
  have g5:∃ ev T fr,W.heap[5]?=some (.cells #[ev] T fr)∧(ev=.nilIface ∨ ∃ te pe,ev=.iface te pe):=CW (name:= "strconv.ErrRange") (rest:=Rows.eitherUptoRow.laid.drop 5) (t:=183) (by kernel_rfl) (by kernel_rfl) Tryz.underlying183 (vA (vA (vA (vA h0))))
  refine ⟨fun b k l e=>?_,fun b e=>?_⟩
  rotate_left
  · have e:(bif Nat.beq b 4 then true else (bif Nat.beq b 5 then true else false))=true:=e
    have hlt:∀ b T cs fr,W.heap[b]?=some (.cells cs T fr)→b < W.heap.size:=fun b T cs fr hb=>(Array.getElem?_eq_some_iff.1 hb).1
    cases hb4:Nat.beq b 4 <;> rw [hb4] at e
    rotate_left
    · cases e
      obtain rfl:=Nat.eq_of_beq_eq_true hb4
      obtain ⟨ev,T,fr,hc,hv⟩:=g4
      exact ⟨hlt _ _ _ _ hc,ev,T,fr,hc,hv⟩
    rw [cond_false] at e
    cases hb5:Nat.beq b 5 <;> rw [hb5] at e
    rotate_left
    · cases e
      obtain rfl:=Nat.eq_of_beq_eq_true hb5
      obtain ⟨ev,T,fr,hc,hv⟩:=g5
      exact ⟨hlt _ _ _ _ hc,ev,T,fr,hc,hv⟩
    rw [cond_false] at e
    cases e
  have hlt:∀ b T cs fr,W.heap[b]?=some (.cells cs T fr)→b < W.heap.size:=fun b T cs fr hb=>(Array.getElem?_eq_some_iff.1 hb).1
  have e:(bif Nat.beq b 1 then some (IntKind.u64,tabL_1) else none)=some (k,l):=e
  cases hb1:Nat.beq b 1 <;> rw [hb1] at e
  rotate_left
  · cases e
    obtain rfl:=Nat.eq_of_beq_eq_true hb1
    obtain ⟨T,fr,hc⟩:=g1
    exact ⟨hlt _ _ _ _ hc,⟨T,fr,hc⟩,by simp only [Fits,lo,hi]; decide⟩
  rw [cond_false] at e
  cases e
theorem reads (os:Os) {H:Type} (enc:TypeId × Value→H):∃ places,DataW.whole enc Tryz.prog ((NG os).forCall (fun _ _=>0) ⟨#[],#[.agg #[.slice none 0 0,.slice none 0 0,.slice none 0 0,.slice none 0 0],.string .empty,.slice none 0 0,.slice none 0 0],[]⟩).memory Tryz.f3.params.toList Rows.eitherSpec.vars false (#[.agg #[.slice none 0 0,.slice none 0 0,.slice none 0 0,.slice none 0 0],.string .empty,.slice none 0 0,.slice none 0 0]:Array Value).toList 8=some ([.agg [.nil,.nil,.nil,.nil],.lit (.string []),.nil,.nil],[],places) :=
  ⟨[],by kernel_rfl⟩
set_option maxRecDepth 100000 in
theorem ES (os:Os) (started:os.Started) (H:Type) (enc:TypeId × Value→H) (F:Stop.Interp) :
    ReturnsInHanded {} Tryz.checked os 3 .any ((Rows.OpenSpec.upto Rows.eitherSpec).preRow enc Tryz.prog Tryz.f3 Rows.eitherUptoRow.domain false Rows.eitherUptoRow.laid) (((Rows.OpenSpec.upto Rows.eitherSpec).at F).post enc Tryz.prog Tryz.f3 false true false false):=by
  obtain ⟨places,hx⟩:=reads os enc
  refine returnsInHanded_of_row (C:=Tryz.checked) (s:=Rows.OpenSpec.upto Rows.eitherSpec) own started (by kernel_rfl) Tryz.func3
    (witness_row_atRef (enc:=enc) (C:=Tryz.checked) false (NG os) #[.agg #[.slice none 0 0,.slice none 0 0,.slice none 0 0,.slice none 0 0],.string .empty,.slice none 0 0,.slice none 0 0] (World.laidAll_os _ _ _) (by kernel_rfl) (by kernel_rfl) (by kernel_rfl)
      (OpenSpec.preRow_of_cond 8 hx (by kernel_rfl) (fun k hk=>by cases hk; kernel_rfl) (by kernel_rfl) (wZ os))) ?_
  intro W base args ds gs before hval hW _ hcond _ hL _ _
  have hb:=AV (hcond _ rfl)
  rw [Rh] at hb
  exact tR (tX:=tX hL) (m:=20) (shss:=[L5,[.s],[.l DX],[.l LP]]) rfl (tb:=4) (by kernel_rfl) Tryz.underlying4 (by kernel_rfl) (by kernel_rfl) (by kernel_rfl) (fun ds h=>match ds,h with | [_,_,_,_],_=>rfl)
    (fun rows h1 h2=>PQ rows h1 (by omega)) hval hW (by simp only [dJ]; omega)
end Go.Proofs.YtbcjkdopkcbblaaGreatDoor
