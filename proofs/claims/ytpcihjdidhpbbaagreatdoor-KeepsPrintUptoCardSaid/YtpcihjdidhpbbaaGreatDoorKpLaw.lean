/- What the law's function does, as the row asks: of every input of bulk at most 1048576 the law's function says true, and the input reads as it did. -/
import Derived.Test.YtpcihjdidhpbbaaGreatDoorCards
import Derived.Test.YtpcihjdidhpbbaaGreatDoorTie
import Derived.Deep.DeepHandedRow
import Derived.Lib.LaidTab
import Derived.Lay
import Derived.Shelf.Vars
import Derived.Deep.DeepWitnessRowRef
import Derived.Test.YtpcihjdidhpbbaaGreatDoorKpWk1
import Derived.Test.YtpcihjdidhpbbaaGreatDoorKpWk2
import Derived.Test.YtpcihjdidhpbbaaGreatDoorKpWk3
import Derived.Test.YtpcihjdidhpbbaaGreatDoorKpWk4
import Derived.Test.YtpcihjdidhpbbaaGreatDoorKpWk5
import Derived.Test.YtpcihjdidhpbbaaGreatDoorKpWk6
import Derived.Test.YtpcihjdidhpbbaaGreatDoorKpWk7
import Derived.Test.YtpcihjdidhpbbaaGreatDoorKpWk8
import Derived.Test.YtpcihjdidhpbbaaGreatDoorKpWk9
import Derived.Test.YtpcihjdidhpbbaaGreatDoorKpPm
open List
namespace Go.Proofs.YtpcihjdidhpbbaaGreatDoor
open Go.Vc Go.Md
theorem own:ownKnob Tryz.prog.godebug=none:=by kernel_rfl
mutual
theorem Mr {H:Type}:∀ d:DataW H,Rows.uptoBulk d=ga d
  | .lit l=>by cases l <;> simp only [Rows.uptoBulk,ga]
  | .nil=>by simp only [Rows.uptoBulk,ga]
  | .ptr d=>by simp only [Rows.uptoBulk,ga,Mr d]
  | .slice a b=>by simp only [Rows.uptoBulk,ga,HB a,HB b]
  | .agg a=>by simp only [Rows.uptoBulk,ga,HB a]
  | .iface _ d=>by simp only [Rows.uptoBulk,ga,Mr d]
  | .map es=>by simp only [Rows.uptoBulk,ga,kC es]
  | .held _=>by simp only [Rows.uptoBulk,ga]
theorem HB {H:Type}:∀ d:List (DataW H),Rows.uptoBulkAll d=gP d
  | []=>by simp only [Rows.uptoBulkAll,gP]
  | d::r=>by simp only [Rows.uptoBulkAll,gP,Mr d,HB r]
theorem kC {H:Type}:∀ d:List (Lit × DataW H),Rows.uptoBulkEntries d=i2 d
  | []=>by simp only [Rows.uptoBulkEntries,i2]
  | x::r=>by simp only [Rows.uptoBulkEntries,i2,xj x,kC r]
theorem xj {H:Type}:∀ d:Lit × DataW H,Rows.uptoBulkEntry d=xk d
  | (l,d)=>by cases l <;> simp only [Rows.uptoBulkEntry,xk,Mr d]
end
theorem y3 {H:Type} {l:List (DataW H)} (hk:Rows.uptoSmall H l=true):gP l≤1048576:=by rw [← HB]; exact of_decide_eq_true hk
theorem QZ (m:ak) (h:fQ (zs m)≤1048576):GW m:=by
  simp only [zs,fQ,kO] at h;have l1:=Gy (f:=za) (fun x e=>by simp [za] at e) m.F;have l2:=Gy (f:=ze) (fun x e=>by simp [ze] at e) m.B;have l3:=Gy (f:=za) (fun x e=>by simp [za] at e) m.E;have l4:=Gy (f:=zb) (fun x e=>by simp [zb] at e) m.D;refine ⟨by omega,by omega,by omega,by omega,fun x hx=>?_,fun x hx=>?_,fun x hx=>?_⟩
  · have:=CV (f:=ze) hx
    simp only [ze,fQ,kO] at this;simp only [Sm]; omega
  · have:=CV (f:=za) hx
    simp only [za,fQ,kO] at this;simp only [Sm]; omega
  · have:=CV (f:=zb) hx
    simp only [zb,fQ,kO] at this;simp only [Sm]; omega
theorem Q3 (rows:List (List Dt)) (h:Cr rows [Nx,NI,[.l NQ],[.s]]) (hb:kR rows≤1048576) :
    Does Tryz.prog 3 (kD [true,true,false,false] rows) [] fun r X=>r=.p (.b true)∧X=[]:=by
  rcases rows with _ | ⟨r0,_ | ⟨r1,_ | ⟨r2,_ | ⟨r3,_ | _⟩⟩⟩⟩ <;> simp only [Cr,and_false,and_true] at h
  obtain ⟨h0,h1,h2,h3⟩:=h;obtain ⟨a0,rfl⟩:=l8 r0 h0;obtain ⟨a1,rfl⟩:=Ua r1 h1;rcases r2 with _ | ⟨d2,_ | _⟩ <;> simp only [eT,and_false,and_true] at h2
  cases d2 <;> simp only [eK] at h2
  obtain ⟨a2,rfl⟩:=uj UG h2;obtain ⟨a3,rfl⟩:=Fq r3 h3;simp only [kR] at hb;have h0:fQ (zC a0)≤1048576:=by omega
  have h1:fQ (zs a1)≤1048576:=by omega
  simp only [ex,fQ,kO] at hb;simp only [zC,fQ,kO] at h0;have hh:∀ h ∈ a0.q,h.a.length≤1048576∧h.A.length≤1048576:=fun h hm=>by
    have:=CV (f:=zc) hm;simp only [zc,fQ,kO] at this;exact ⟨by omega,by omega⟩
  refine Uw a0 a1 a2 a3 true (Eu a0 (fun h hm=>?_) (fun h hm=>(hh h hm).2) a1 (QZ a1 h1) a2 (fun b hm=>?_) a3 (by omega))
  · obtain ⟨q1,q2⟩:=hh h hm
    exact ⟨by simp only [Sm]; omega,by simp only [Sm]; omega⟩
  · have hm2:=CV (f:=zk) hm
    have hm3:fQ (zk b)≤1048576:=by omega
    simp only [zk,fQ,kO] at hm3;have l1:=Gy (f:=zj) (fun x e=>by simp [zj] at e) b.T;refine ⟨fun x hx=>?_,by omega,fun c hc=>?_⟩
    · have:=CV (f:=zj) hx
      simp only [zj,fQ,kO] at this;exact ⟨⟨⟨by simp only [Sm]; omega,by simp only [Sm]; omega,by simp only [Sm]; omega⟩,⟨by simp only [Sm]; omega,by simp only [Sm]; omega,by simp only [Sm]; omega⟩,by omega⟩,by simp only [Sm]; omega⟩
    · have:=CV (f:=zi) hc
      simp only [zi,fQ,kO] at this;exact ⟨by simp only [Sm]; omega,by simp only [Sm]; omega,by simp only [Sm]; omega⟩

/-! ### the row -/
noncomputable def O7 (os:Os):World:=World.laidAll Tryz.prog os Rows.keepsPrintUptoRow.laid
theorem wr (os:Os):laidMet Tryz.prog Rows.keepsPrintUptoRow.laid ((O7 os).forCall (fun _ _=>0) ⟨#[],#[.agg #[.slice none 0 0],.agg #[.slice none 0 0,.slice none 0 0,.slice none 0 0,.slice none 0 0],.slice none 0 0,.string .empty],[]⟩).memory :=
  laidMet_laidAll _ (by kernel_rfl) (by kernel_rfl)
theorem lF {P:Program} {W:World} {x:String × DataW Unit} {l:List (String × DataW Unit)} (h:laidMet P (x::l) W):laidMet P l W:=by
  obtain ⟨n,d⟩:=x;obtain ⟨ps,⟨g,t,cs,fuel,p,q,h1,h2,h3,h4,h5,rfl⟩,h6,h7⟩:=h;exact ⟨q,h5,(nodup_append.1 h6).2.1,fun b off hm=>h7 b off (mem_append.2 (.inr hm))⟩
theorem AK {W:World} (h:laidMetH Tryz.prog Rows.keepsPrintUptoRow.laid W) (hsh:W.ShapedOpen Tryz.prog):TabOk (yg W) W.heap:=by
  have h0:laidMet Tryz.prog Rows.keepsPrintUptoRow.laid W:=by rw [← MakeChecks.laidMetH_plain _ _ _ (by kernel_rfl)]; exact h
  have q5:laidMet Tryz.prog (("math/bits.deBruijn64tab",Lib.tabData .u8 tabL_5)::Rows.keepsPrintUptoRow.laid.drop 2) W:=lF h0;have t5:Lib.TabIs Tryz.prog W "math/bits.deBruijn64tab" .u8 tabL_5:=Lib.tabIs_of_head (g:=5) (t:=263) (e:=5) (n:=64) (by kernel_rfl) (by kernel_rfl) (by kernel_rfl) (by kernel_rfl) (by kernel_rfl) (by kernel_rfl) q5;have g5:∃ T fr,W.heap[5]?=some (.cells (tabL_5.map (Value.int .u8)).toArray T fr):=by
    have e:=t5;unfold Lib.TabIs World.var? at e;rw [show Tryz.prog.globalNamed "math/bits.deBruijn64tab"=some 5 by kernel_rfl] at e;simp only [Option.bind_some] at e;split at e
    · rename_i cs T fr hc
      cases e;exact ⟨T,fr,hc⟩
    · cases e
  have g0:∃ c T fr m,W.heap[0]?=some (.cells c T fr)∧c[0]?=some (.int .i64 m):=by
    obtain ⟨m,hm⟩:=cell_of_shapedOpen_int (P:=Tryz.prog) (g:=0) (zero:=#[.int .i64 0]) (t:=3) hsh (of_decide_eq_true (by kernel_rfl)) (by kernel_rfl) rfl (by kernel_rfl) (by kernel_rfl) Tryz.underlying3;unfold World.cell? at hm;split at hm
    · rename_i cs T fr hc
      exact ⟨cs,T,fr,m,hc,hm⟩
    · cases hm
  refine ⟨fun b k l e=>?_,fun b e=>?_,fun b e=>?_⟩;rotate_left
  · have e:false=true:=e
    have hlt:∀ b T cs fr,W.heap[b]?=some (.cells cs T fr)→b < W.heap.size:=fun b T cs fr hb=>(Array.getElem?_eq_some_iff.1 hb).1;cases e
  · have e:(bif Nat.beq b 0 then true else false)=true:=e
    have hlt:∀ b T cs fr,W.heap[b]?=some (.cells cs T fr)→b < W.heap.size:=fun b T cs fr hb=>(Array.getElem?_eq_some_iff.1 hb).1;cases hb0:Nat.beq b 0 <;> rw [hb0] at e
    rotate_left
    · cases e
      obtain rfl:=Nat.eq_of_beq_eq_true hb0;obtain ⟨c,T,fr,m,hc,hv⟩:=g0;exact ⟨hlt _ _ _ _ hc,c,T,fr,m,hc,hv⟩
    rw [cond_false] at e;cases e
  have hlt:∀ b T cs fr,W.heap[b]?=some (.cells cs T fr)→b < W.heap.size:=fun b T cs fr hb=>(Array.getElem?_eq_some_iff.1 hb).1;have e:(bif Nat.beq b 5 then some (IntKind.u8,tabL_5) else none)=some (k,l):=e;cases hb5:Nat.beq b 5 <;> rw [hb5] at e
  rotate_left
  · cases e
    obtain rfl:=Nat.eq_of_beq_eq_true hb5;obtain ⟨T,fr,hc⟩:=g5;exact ⟨hlt _ _ _ _ hc,⟨T,fr,hc⟩,by simp only [Fits,lo,hi]; decide⟩
  rw [cond_false] at e;cases e
theorem reads (os:Os) {H:Type} (enc:TypeId × Value→H):∃ places,DataW.whole enc Tryz.prog ((O7 os).forCall (fun _ _=>0) ⟨#[],#[.agg #[.slice none 0 0],.agg #[.slice none 0 0,.slice none 0 0,.slice none 0 0,.slice none 0 0],.slice none 0 0,.string .empty],[]⟩).memory Tryz.f3.params.toList Rows.keepsPrintSpec.vars false (#[.agg #[.slice none 0 0],.agg #[.slice none 0 0,.slice none 0 0,.slice none 0 0,.slice none 0 0],.slice none 0 0,.string .empty]:Array Value).toList 8=some ([.agg [.nil],.agg [.nil,.nil,.nil,.nil],.nil,.lit (.string [])],[],places) :=
  ⟨[],by kernel_rfl⟩
set_option maxRecDepth 100000 in
theorem Es (os:Os) (started:os.Started) (H:Type) (enc:TypeId × Value→H) (F:Stop.Interp) :
    ReturnsInHanded {} Tryz.checked os 3 .any ((Rows.OpenSpec.upto Rows.keepsPrintSpec).preRow enc Tryz.prog Tryz.f3 Rows.keepsPrintUptoRow.domain false Rows.keepsPrintUptoRow.laid) (((Rows.OpenSpec.upto Rows.keepsPrintSpec).at F).post enc Tryz.prog Tryz.f3 false true false false):=by
  obtain ⟨places,hx⟩:=reads os enc;refine returnsInHanded_of_row (C:=Tryz.checked) (s:=Rows.OpenSpec.upto Rows.keepsPrintSpec) own started (by kernel_rfl) Tryz.func3
    (witness_row_atRef (enc:=enc) (C:=Tryz.checked) false (O7 os) #[.agg #[.slice none 0 0],.agg #[.slice none 0 0,.slice none 0 0,.slice none 0 0,.slice none 0 0],.slice none 0 0,.string .empty] (World.laidAll_os _ _ _) (by kernel_rfl) (by kernel_rfl) (by kernel_rfl)
      (OpenSpec.preRow_of_cond 8 hx (by kernel_rfl) (fun k hk=>by cases hk; kernel_rfl) (by kernel_rfl) (wr os))) ?_
  intro W base args ds gs before hval hW _ hcond _ hL hsh _;have hb:=y3 (hcond _ rfl);rw [SA] at hb;exact tc (AK:=AK hL hsh) (m:=20) (shss:=[Nx,NI,[.l NQ],[.s]]) rfl (tb:=4) (by kernel_rfl) Tryz.underlying4 (by kernel_rfl) (by kernel_rfl) (by kernel_rfl) (fun ds h=>match ds,h with | [_,_,_,_],_=>rfl)
    (fun rows h1 h2=>Q3 rows h1 (by omega)) hval hW (by simp only [eE]; omega)
end Go.Proofs.YtpcihjdidhpbbaaGreatDoor
