/- What the law's function does, as the row asks: of every input of bulk at most 1048576 the law's function says true, and the input reads as it did. -/
import Derived.Test.YteofmaagnphonaaGreatDoorCards
import Derived.Test.YteofmaagnphonaaGreatDoorTie
import Derived.Deep.DeepHandedRow
import Derived.Lib.LaidTab
import Derived.Lay
import Derived.Deep.DeepWitnessRowRef
import Derived.Test.YteofmaagnphonaaGreatDoorKlWk1
import Derived.Test.YteofmaagnphonaaGreatDoorKlWk2
import Derived.Test.YteofmaagnphonaaGreatDoorKlWk3
import Derived.Test.YteofmaagnphonaaGreatDoorKlWk4
import Derived.Test.YteofmaagnphonaaGreatDoorKlWk5
import Derived.Test.YteofmaagnphonaaGreatDoorKlWk6
import Derived.Test.YteofmaagnphonaaGreatDoorKlWk7
import Derived.Test.YteofmaagnphonaaGreatDoorKlWk8
import Derived.Test.YteofmaagnphonaaGreatDoorKlPm
open List
namespace Go.Proofs.YteofmaagnphonaaGreatDoor
open Go.Vc Go.Md
theorem own:ownKnob Tryz.prog.godebug=none:=by kernel_rfl
mutual
theorem TU {H:Type}:∀ d:DataW H,Rows.uptoBulk d=fV d
  | .lit l=>by cases l <;> simp only [Rows.uptoBulk,fV]
  | .nil=>by simp only [Rows.uptoBulk,fV]
  | .ptr d=>by simp only [Rows.uptoBulk,fV,TU d]
  | .slice a b=>by simp only [Rows.uptoBulk,fV,My a,My b]
  | .agg a=>by simp only [Rows.uptoBulk,fV,My a]
  | .iface _ d=>by simp only [Rows.uptoBulk,fV,TU d]
  | .map es=>by simp only [Rows.uptoBulk,fV,kv es]
  | .held _=>by simp only [Rows.uptoBulk,fV]
theorem My {H:Type}:∀ d:List (DataW H),Rows.uptoBulkAll d=gM d
  | []=>by simp only [Rows.uptoBulkAll,gM]
  | d::r=>by simp only [Rows.uptoBulkAll,gM,TU d,My r]
theorem kv {H:Type}:∀ d:List (Lit × DataW H),Rows.uptoBulkEntries d=iZ d
  | []=>by simp only [Rows.uptoBulkEntries,iZ]
  | x::r=>by simp only [Rows.uptoBulkEntries,iZ,wm x,kv r]
theorem wm {H:Type}:∀ d:Lit × DataW H,Rows.uptoBulkEntry d=wn d
  | (l,d)=>by cases l <;> simp only [Rows.uptoBulkEntry,wn,TU d]
end
theorem yb {H:Type} {l:List (DataW H)} (hk:Rows.uptoSmall H l=true):gM l≤1048576:=by rw [← My]; exact of_decide_eq_true hk
theorem Ye (m:aj) (h:fQ (zu m)≤1048576):Bx m:=by
  simp only [zu,fQ,md] at h;have l1:=Lr (f:=za) (fun x e=>by simp [za] at e) m.D;have l2:=Lr (f:=zc) (fun x e=>by simp [zc] at e) m.u;have l3:=Lr (f:=za) (fun x e=>by simp [za] at e) m.B;have l4:=Lr (f:=zb) (fun x e=>by simp [zb] at e) m.A;refine ⟨by omega,by omega,by omega,by omega,fun x hx=>?_,fun x hx=>?_,fun x hx=>?_⟩
  · have:=Ls (f:=zc) hx
    simp only [zc,fQ,md] at this;simp only [Sm]; omega
  · have:=Ls (f:=za) hx
    simp only [za,fQ,md] at this;simp only [Sm]; omega
  · have:=Ls (f:=zb) hx
    simp only [zb,fQ,md] at this;simp only [Sm]; omega
theorem Yi (rows:List (List Dt)) (h:BH rows [UP,[.l U6],LC,[.s]]) (hb:kL rows≤1048576) :
    Does Tryz.prog 3 (kw [true,false,true,false] rows) [] fun r X=>r=.p (.b true)∧X=[]:=by
  rcases rows with _ | ⟨r0,_ | ⟨r1,_ | ⟨r2,_ | ⟨r3,_ | _⟩⟩⟩⟩ <;> simp only [BH,and_false,and_true] at h
  obtain ⟨h0,h1,h2,h3⟩:=h;obtain ⟨a0,rfl⟩:=zm8 r0 h0;rcases r1 with _ | ⟨d1,_ | _⟩ <;> simp only [eN,and_false,and_true] at h1
  cases d1 <;> simp only [eI] at h1
  obtain ⟨a1,rfl⟩:=tq zjv h1;obtain ⟨a2,rfl⟩:=WT r2 h2;obtain ⟨a3,rfl⟩:=Kc r3 h3;simp only [kL] at hb;have h0:fQ (zu a0)≤1048576:=by omega
  have h2:fQ (zd a2)≤1048576:=by omega
  simp only [eu,fQ,md] at hb;refine zlu a0 a1 a2 a3 true (yL a0 (Ye a0 h0) a1 (fun b hm=>?_) a2 ?_ a3 (by omega))
  · have hm2:=Ls (f:=zk) hm
    have hm3:fQ (zk b)≤1048576:=by omega
    simp only [zk,fQ,md] at hm3;have l1:=Lr (f:=zh) (fun x e=>by simp [zh] at e) b.S;refine ⟨fun x hx=>?_,by omega,fun c hc=>?_⟩
    · have:=Ls (f:=zh) hx
      simp only [zh,fQ,md] at this;exact ⟨⟨⟨by simp only [Sm]; omega,by simp only [Sm]; omega,by simp only [Sm]; omega⟩,⟨by simp only [Sm]; omega,by simp only [Sm]; omega,by simp only [Sm]; omega⟩,by omega⟩,by simp only [Sm]; omega⟩
    · have:=Ls (f:=zg) hc
      simp only [zg,fQ,md] at this;exact ⟨by simp only [Sm]; omega,by simp only [Sm]; omega,by simp only [Sm]; omega⟩
  · simp only [zd,fQ,md] at h2
    exact ⟨by simp only [Sm]; omega,by simp only [Sm]; omega⟩

/-! ### the row -/
noncomputable def Wg (os:Os):World:=World.laidAll Tryz.prog os Rows.keepsLookUptoRow.laid
theorem vt (os:Os):laidMet Tryz.prog Rows.keepsLookUptoRow.laid ((Wg os).forCall (fun _ _=>0) ⟨#[],#[.agg #[.slice none 0 0,.slice none 0 0,.slice none 0 0,.slice none 0 0],.slice none 0 0,.agg #[.string .empty,.int .i64 0,.string .empty,.string .empty,.string .empty],.string .empty],[]⟩).memory :=
  laidMet_laidAll _ (by kernel_rfl) (by kernel_rfl)
theorem lu {P:Program} {W:World} {x:String × DataW Unit} {l:List (String × DataW Unit)} (h:laidMet P (x::l) W):laidMet P l W:=by
  obtain ⟨n,d⟩:=x;obtain ⟨ps,⟨g,t,cs,fuel,p,q,h1,h2,h3,h4,h5,rfl⟩,h6,h7⟩:=h;exact ⟨q,h5,(nodup_append.1 h6).2.1,fun b off hm=>h7 b off (mem_append.2 (.inr hm))⟩
theorem yQ {W:World} (h:laidMetH Tryz.prog Rows.keepsLookUptoRow.laid W):TabOk (xp W) W.heap:=by
  have h0:laidMet Tryz.prog Rows.keepsLookUptoRow.laid W:=by rw [← MakeChecks.laidMetH_plain _ _ _ (by kernel_rfl)]; exact h
  have q5:laidMet Tryz.prog (("math/bits.deBruijn64tab",Lib.tabData .u8 tabL_5)::Rows.keepsLookUptoRow.laid.drop 2) W:=lu h0;have t5:Lib.TabIs Tryz.prog W "math/bits.deBruijn64tab" .u8 tabL_5:=Lib.tabIs_of_head (g:=5) (t:=273) (e:=5) (n:=64) (by kernel_rfl) (by kernel_rfl) (by kernel_rfl) (by kernel_rfl) (by kernel_rfl) (by kernel_rfl) q5;have g5:∃ T fr,W.heap[5]?=some (.cells (tabL_5.map (Value.int .u8)).toArray T fr):=by
    have e:=t5;unfold Lib.TabIs World.var? at e;rw [show Tryz.prog.globalNamed "math/bits.deBruijn64tab"=some 5 by kernel_rfl] at e;simp only [Option.bind_some] at e;split at e
    · rename_i cs T fr hc
      cases e;exact ⟨T,fr,hc⟩
    · cases e
  refine ⟨fun b k l e=>?_,fun b e=>?_⟩;rotate_left
  · have e:false=true:=e
    have hlt:∀ b T cs fr,W.heap[b]?=some (.cells cs T fr)→b < W.heap.size:=fun b T cs fr hb=>(Array.getElem?_eq_some_iff.1 hb).1;cases e
  have hlt:∀ b T cs fr,W.heap[b]?=some (.cells cs T fr)→b < W.heap.size:=fun b T cs fr hb=>(Array.getElem?_eq_some_iff.1 hb).1;have e:(bif Nat.beq b 5 then some (IntKind.u8,tabL_5) else none)=some (k,l):=e;cases hb5:Nat.beq b 5 <;> rw [hb5] at e
  rotate_left
  · cases e
    obtain rfl:=Nat.eq_of_beq_eq_true hb5;obtain ⟨T,fr,hc⟩:=g5;exact ⟨hlt _ _ _ _ hc,⟨T,fr,hc⟩,by simp only [Fits,lo,hi]; decide⟩
  rw [cond_false] at e;cases e
theorem reads (os:Os) {H:Type} (enc:TypeId × Value→H):∃ places,DataW.whole enc Tryz.prog ((Wg os).forCall (fun _ _=>0) ⟨#[],#[.agg #[.slice none 0 0,.slice none 0 0,.slice none 0 0,.slice none 0 0],.slice none 0 0,.agg #[.string .empty,.int .i64 0,.string .empty,.string .empty,.string .empty],.string .empty],[]⟩).memory Tryz.f3.params.toList Rows.keepsLookSpec.vars false (#[.agg #[.slice none 0 0,.slice none 0 0,.slice none 0 0,.slice none 0 0],.slice none 0 0,.agg #[.string .empty,.int .i64 0,.string .empty,.string .empty,.string .empty],.string .empty]:Array Value).toList 8=some ([.agg [.nil,.nil,.nil,.nil],.nil,.agg [.lit (.string []),.lit (.int .i64 0),.lit (.string []),.lit (.string []),.lit (.string [])],.lit (.string [])],[],places) :=
  ⟨[],by kernel_rfl⟩
set_option maxRecDepth 100000 in
theorem Hz (os:Os) (started:os.Started) (H:Type) (enc:TypeId × Value→H) (F:Stop.Interp) :
    ReturnsInHanded {} Tryz.checked os 3 .any ((Rows.OpenSpec.upto Rows.keepsLookSpec).preRow enc Tryz.prog Tryz.f3 Rows.keepsLookUptoRow.domain false Rows.keepsLookUptoRow.laid) (((Rows.OpenSpec.upto Rows.keepsLookSpec).at F).post enc Tryz.prog Tryz.f3 false true false false):=by
  obtain ⟨places,hx⟩:=reads os enc;refine returnsInHanded_of_row (C:=Tryz.checked) (s:=Rows.OpenSpec.upto Rows.keepsLookSpec) own started (by kernel_rfl) Tryz.func3
    (witness_row_atRef (enc:=enc) (C:=Tryz.checked) false (Wg os) #[.agg #[.slice none 0 0,.slice none 0 0,.slice none 0 0,.slice none 0 0],.slice none 0 0,.agg #[.string .empty,.int .i64 0,.string .empty,.string .empty,.string .empty],.string .empty] (World.laidAll_os _ _ _) (by kernel_rfl) (by kernel_rfl) (by kernel_rfl)
      (OpenSpec.preRow_of_cond 8 hx (by kernel_rfl) (fun k hk=>by cases hk; kernel_rfl) (by kernel_rfl) (vt os))) ?_
  intro W base args ds gs before hval hW _ hcond _ hL _ _;have hb:=yb (hcond _ rfl);rw [Zj] at hb;exact sf (yQ:=yQ hL) (m:=20) (shss:=[UP,[.l U6],LC,[.s]]) rfl (tb:=4) (by kernel_rfl) Tryz.underlying4 (by kernel_rfl) (by kernel_rfl) (by kernel_rfl) (fun ds h=>match ds,h with | [_,_,_,_],_=>rfl)
    (fun rows h1 h2=>Yi rows h1 (by omega)) hval hW (by simp only [eC]; omega)
end Go.Proofs.YteofmaagnphonaaGreatDoor
