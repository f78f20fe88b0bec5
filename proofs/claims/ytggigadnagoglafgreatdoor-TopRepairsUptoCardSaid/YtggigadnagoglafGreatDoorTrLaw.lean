/- What the law's function does, as the row asks: of every input of bulk at most 1048576 the law's function says true, and the input reads as it did. -/
import Derived.Test.YtggigadnagoglafGreatDoorCards
import Derived.Test.YtggigadnagoglafGreatDoorTie
import Derived.Deep.DeepHandedRow
import Derived.Lib.LaidTab
import Derived.Lay
import Derived.Deep.DeepWitnessRowRef
import Derived.Test.YtggigadnagoglafGreatDoorTrWk1
import Derived.Test.YtggigadnagoglafGreatDoorTrWk2
import Derived.Test.YtggigadnagoglafGreatDoorTrWk3
import Derived.Test.YtggigadnagoglafGreatDoorTrWk4
import Derived.Test.YtggigadnagoglafGreatDoorTrWk5
import Derived.Test.YtggigadnagoglafGreatDoorTrPm
open List
namespace Go.Proofs.YtggigadnagoglafGreatDoor
open Go.Vc Go.Md
theorem own:ownKnob Tryz.prog.godebug=none:=by kernel_rfl
mutual
theorem FM {H:Type}:∀ d:DataW H,Rows.uptoBulk d=fI d
  | .lit l=>by cases l <;> simp only [Rows.uptoBulk,fI]
  | .nil=>by simp only [Rows.uptoBulk,fI]
  | .ptr d=>by simp only [Rows.uptoBulk,fI,FM d]
  | .slice a b=>by simp only [Rows.uptoBulk,fI,CQ a,CQ b]
  | .agg a=>by simp only [Rows.uptoBulk,fI,CQ a]
  | .iface _ d=>by simp only [Rows.uptoBulk,fI,FM d]
  | .map es=>by simp only [Rows.uptoBulk,fI,jK es]
  | .held _=>by simp only [Rows.uptoBulk,fI]
theorem CQ {H:Type}:∀ d:List (DataW H),Rows.uptoBulkAll d=gr d
  | []=>by simp only [Rows.uptoBulkAll,gr]
  | d::r=>by simp only [Rows.uptoBulkAll,gr,FM d,CQ r]
theorem jK {H:Type}:∀ d:List (Lit × DataW H),Rows.uptoBulkEntries d=iK d
  | []=>by simp only [Rows.uptoBulkEntries,iK]
  | x::r=>by simp only [Rows.uptoBulkEntries,iK,uy x,jK r]
theorem uy {H:Type}:∀ d:Lit × DataW H,Rows.uptoBulkEntry d=uz d
  | (l,d)=>by cases l <;> simp only [Rows.uptoBulkEntry,uz,FM d]
end
theorem wi {H:Type} {l:List (DataW H)} (hk:Rows.uptoSmall H l=true):gr l≤1048576:=by
  rw [← CQ]; exact of_decide_eq_true hk
theorem JA (m:aj) (h:fP (zt m)≤1048576):FI m:=by
  simp only [zt,fP,nw] at h
  have l1:=Dm (f:=za) (fun x e=>by simp [za] at e) m.q
  have l2:=Dm (f:=zc) (fun x e=>by simp [zc] at e) m.i
  have l3:=Dm (f:=za) (fun x e=>by simp [za] at e) m.n
  have l4:=Dm (f:=zb) (fun x e=>by simp [zb] at e) m.m
  refine ⟨by omega,by omega,by omega,by omega,fun x hx=>?_,fun x hx=>?_,fun x hx=>?_⟩
  · have:=Dn (f:=zc) hx
    simp only [zc,fP,nw] at this
    simp only [Sm]; omega
  · have:=Dn (f:=za) hx
    simp only [za,fP,nw] at this
    simp only [Sm]; omega
  · have:=Dn (f:=zb) hx
    simp only [zb,fP,nw] at this
    simp only [Sm]; omega
theorem JE (rows:List (List Dt)) (h:yv rows [Gx,[.s],[.l Gk],[.l DA]]) (hb:jW rows≤1048576) :
    Does Tryz.prog 3 (jL [true,false,false,false] rows) [] fun r X=>r=.p (.b true)∧X=[]:=by
  rcases rows with _ | ⟨r0,_ | ⟨r1,_ | ⟨r2,_ | ⟨r3,_ | _⟩⟩⟩⟩ <;> simp only [yv,and_false,and_true] at h
  obtain ⟨h0,h1,h2,h3⟩:=h
  obtain ⟨a0,rfl⟩:=LN r0 h0
  obtain ⟨a1,rfl⟩:=A2 r1 h1
  rcases r2 with _ | ⟨d2,_ | _⟩ <;> simp only [eG,and_false,and_true] at h2
  cases d2 <;> simp only [eD] at h2
  obtain ⟨a2,rfl⟩:=rR kS h2
  rcases r3 with _ | ⟨d3,_ | _⟩ <;> simp only [eG,and_false,and_true] at h3
  cases d3 <;> simp only [eD] at h3
  obtain ⟨a3,rfl⟩:=rR KK h3
  simp only [jW] at hb
  have h0:fP (zt a0)≤1048576:=by omega
  simp only [fP,nw] at hb
  refine Mr a0 a1 a2 a3 true (AA a0 a1 a2 a3 (JA a0 h0) (fun c hc=>?_) (fun c hc=>?_))
  · have:=Dn (f:=zm) hc
    simp only [zm,fP,nw] at this
    exact ⟨⟨by simp only [Sm]; omega,by simp only [Sm]; omega,by simp only [Sm]; omega⟩,by simp only [Sm]; omega⟩
  · have:=Dn (f:=zf) hc
    simp only [zf,fP,nw] at this
    exact ⟨by simp only [Sm]; omega,by simp only [Sm]; omega,by simp only [Sm]; omega⟩

/-! ### the row -/
noncomputable def HY (os:Os):World:=World.laidAll Tryz.prog os Rows.topRepairsUptoRow.laid
theorem tC (os:Os):laidMet Tryz.prog Rows.topRepairsUptoRow.laid ((HY os).forCall (fun _ _=>0) ⟨#[],#[.agg #[.slice none 0 0,.slice none 0 0,.slice none 0 0,.slice none 0 0],.string .empty,.slice none 0 0,.slice none 0 0],[]⟩).memory :=
  laidMet_laidAll _ (by kernel_rfl) (by kernel_rfl)
theorem wS {P:Program} {W:World} {x:String × DataW Unit} {l:List (String × DataW Unit)} (h:laidMet P (x::l) W):laidMet P l W:=by
  obtain ⟨n,d⟩:=x
  obtain ⟨ps,⟨g,t,cs,fuel,p,q,h1,h2,h3,h4,h5,rfl⟩,h6,h7⟩:=h
  exact ⟨q,h5,(nodup_append.1 h6).2.1,fun b off hm=>h7 b off (mem_append.2 (.inr hm))⟩
theorem reads (os:Os) {H:Type} (enc:TypeId × Value→H):∃ places,DataW.whole enc Tryz.prog ((HY os).forCall (fun _ _=>0) ⟨#[],#[.agg #[.slice none 0 0,.slice none 0 0,.slice none 0 0,.slice none 0 0],.string .empty,.slice none 0 0,.slice none 0 0],[]⟩).memory Tryz.f3.params.toList Rows.topRepairsSpec.vars false (#[.agg #[.slice none 0 0,.slice none 0 0,.slice none 0 0,.slice none 0 0],.string .empty,.slice none 0 0,.slice none 0 0]:Array Value).toList 8=some ([.agg [.nil,.nil,.nil,.nil],.lit (.string []),.nil,.nil],[],places) :=
  ⟨[],by kernel_rfl⟩
set_option maxRecDepth 100000 in
theorem Ay (os:Os) (started:os.Started) (H:Type) (enc:TypeId × Value→H) (F:Stop.Interp) :
    ReturnsInHanded {} Tryz.checked os 3 .any ((Rows.OpenSpec.upto Rows.topRepairsSpec).preRow enc Tryz.prog Tryz.f3 Rows.topRepairsUptoRow.domain false Rows.topRepairsUptoRow.laid) (((Rows.OpenSpec.upto Rows.topRepairsSpec).at F).post enc Tryz.prog Tryz.f3 false true false false):=by
  obtain ⟨places,hx⟩:=reads os enc
  refine returnsInHanded_of_row (C:=Tryz.checked) (s:=Rows.OpenSpec.upto Rows.topRepairsSpec) own started (by kernel_rfl) Tryz.func3
    (witness_row_atRef (enc:=enc) (C:=Tryz.checked) false (HY os) #[.agg #[.slice none 0 0,.slice none 0 0,.slice none 0 0,.slice none 0 0],.string .empty,.slice none 0 0,.slice none 0 0] (World.laidAll_os _ _ _) (by kernel_rfl) (by kernel_rfl) (by kernel_rfl)
      (OpenSpec.preRow_of_cond 8 hx (by kernel_rfl) (fun k hk=>by cases hk; kernel_rfl) (by kernel_rfl) (tC os))) ?_
  intro W base args ds gs before hval hW _ hcond _ hL _ _
  have hb:=wi (hcond _ rfl)
  rw [KE] at hb
  exact qH (htab:=⟨fun b k l e=>(by cases e),fun b e=>(by cases e)⟩) (m:=20) (shss:=[Gx,[.s],[.l Gk],[.l DA]]) rfl (tb:=4) (by kernel_rfl) Tryz.underlying4 (by kernel_rfl) (by kernel_rfl) (by kernel_rfl) (fun ds h=>match ds,h with | [_,_,_,_],_=>rfl)
    (fun rows h1 h2=>JE rows h1 (by omega)) hval hW (by simp only [eh]; omega)
end Go.Proofs.YtggigadnagoglafGreatDoor
