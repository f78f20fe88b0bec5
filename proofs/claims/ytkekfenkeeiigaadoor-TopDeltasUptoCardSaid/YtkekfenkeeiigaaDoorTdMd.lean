/- Models of the functions that the statement reaches: what each computes, in plain words. -/
import Derived.Test.YtkekfenkeeiigaaDoorVc3
set_option linter.unusedVariables false
namespace Go.Md
open Go.Vc
instance theTabs:Tabs:=⟨fun b=>none,fun b=>false,fun e=>bif Nat.beq e 138 then some (3,157,2) else none⟩
theorem nest_3:Tabs.nest 3=none:=rfl
attribute [go_sem] nest_3
theorem nest_5:Tabs.nest 5=none:=rfl
attribute [go_sem] nest_5
theorem nest_9:Tabs.nest 9=none:=rfl
attribute [go_sem] nest_9
theorem nest_25:Tabs.nest 25=none:=rfl
attribute [go_sem] nest_25
theorem nest_29:Tabs.nest 29=none:=rfl
attribute [go_sem] nest_29
theorem nest_49:Tabs.nest 49=none:=rfl
attribute [go_sem] nest_49
theorem nest_57:Tabs.nest 57=none:=rfl
attribute [go_sem] nest_57
theorem nest_63:Tabs.nest 63=none:=rfl
attribute [go_sem] nest_63
theorem nest_115:Tabs.nest 115=none:=rfl
attribute [go_sem] nest_115
theorem nest_138:Tabs.nest 138=some (3,157,2):=rfl
attribute [go_sem] nest_138
theorem nest_157:Tabs.nest 157=none:=rfl
attribute [go_sem] nest_157
def ecB (b:Bool):List Dt:=[.b b]
def ecS (x:Str):List Dt:=[.s x]
def ecI_i8 (n:Int):List Dt:=[.i .i8 n]
def ecI_i16 (n:Int):List Dt:=[.i .i16 n]
def ecI_i32 (n:Int):List Dt:=[.i .i32 n]
def ecI_i64 (n:Int):List Dt:=[.i .i64 n]
def ecI_u8 (n:Int):List Dt:=[.i .u8 n]
def ecI_u16 (n:Int):List Dt:=[.i .u16 n]
def ecI_u32 (n:Int):List Dt:=[.i .u32 n]
def ecI_u64 (n:Int):List Dt:=[.i .u64 n]
theorem dec1_s:∀ r,hasR r [.s]→∃ x,r=ecS x:=by
 intro r h
 rcases r with _ | ⟨d,_ | _⟩ <;> simp only [hasR,and_false,and_true] at h
 cases d <;> simp only [hasT] at h
 exact ⟨_,rfl⟩
theorem dec1_i64:∀ r,hasR r [.i .i64]→∃ x,r=ecI_i64 x:=by
 intro r h
 rcases r with _ | ⟨d,_ | _⟩ <;> simp only [hasR,and_false,and_true] at h
 cases d <;> simp only [hasT] at h
 subst h
 exact ⟨_,rfl⟩
theorem dec1_u8:∀ r,hasR r [.i .u8]→∃ x,r=ecI_u8 x:=by
 intro r h
 rcases r with _ | ⟨d,_ | _⟩ <;> simp only [hasR,and_false,and_true] at h
 cases d <;> simp only [hasT] at h
 subst h
 exact ⟨_,rfl⟩
structure delta_edge where
 c:Int
 to:Int
def enc_delta_edge (x:delta_edge):List Dt:=[.i .u8 x.c,.i .i64 x.to]
def sh_delta_edge:List Sh:=[.i .u8,.i .i64]
theorem dec_delta_edge:∀ r,hasR r sh_delta_edge→∃ x:delta_edge,r=enc_delta_edge x:=by
 intro r h
 unfold sh_delta_edge at h
 rcases r with _ | ⟨d0,_ | ⟨d1,_ | _⟩⟩ <;> simp only [hasR,and_false,and_true] at h
 obtain ⟨h0,h1⟩:=h
 cases d0 <;> simp only [hasT] at h0
 subst h0
 cases d1 <;> simp only [hasT] at h1
 subst h1
 exact ⟨⟨_,_⟩,rfl⟩
structure delta_state where
 long:Int
 end_:Int
 link:Int
 edges:List delta_edge
def enc_delta_state (x:delta_state):List Dt:=[.i .i64 x.long,.i .i64 x.end_,.i .i64 x.link,.l (List.map enc_delta_edge x.edges)]
def sh_delta_state:List Sh:=[.i .i64,.i .i64,.i .i64,.l sh_delta_edge]
theorem dec_delta_state:∀ r,hasR r sh_delta_state→∃ x:delta_state,r=enc_delta_state x:=by
 intro r h
 unfold sh_delta_state at h
 rcases r with _ | ⟨d0,_ | ⟨d1,_ | ⟨d2,_ | ⟨d3,_ | _⟩⟩⟩⟩ <;> simp only [hasR,and_false,and_true] at h
 obtain ⟨h0,h1,h2,h3⟩:=h
 cases d0 <;> simp only [hasT] at h0
 subst h0
 cases d1 <;> simp only [hasT] at h1
 subst h1
 cases d2 <;> simp only [hasT] at h2
 subst h2
 cases d3 <;> simp only [hasT] at h3
 obtain ⟨l3,rfl⟩:=hasRs_map dec_delta_edge h3
 exact ⟨⟨_,_,_,_⟩,rfl⟩
structure Arr2_Int where
 a0:Int
 a1:Int
def enc_Arr2_Int (x:Arr2_Int):List Dt:=[.i .i64 x.a0,.i .i64 x.a1]
def sh_Arr2_Int:List Sh:=[.i .i64,.i .i64]
theorem dec_Arr2_Int:∀ r,hasR r sh_Arr2_Int→∃ x:Arr2_Int,r=enc_Arr2_Int x:=by
 intro r h
 unfold sh_Arr2_Int at h
 rcases r with _ | ⟨d0,_ | ⟨d1,_ | _⟩⟩ <;> simp only [hasR,and_false,and_true] at h
 obtain ⟨h0,h1⟩:=h
 cases d0 <;> simp only [hasT] at h0
 subst h0
 cases d1 <;> simp only [hasT] at h1
 subst h1
 exact ⟨⟨_,_⟩,rfl⟩
structure api_Piece where
 At:Int
 Long:Int
 Data:Str
def enc_api_Piece (x:api_Piece):List Dt:=[.i .i64 x.At,.i .i64 x.Long,.s x.Data]
def sh_api_Piece:List Sh:=[.i .i64,.i .i64,.s]
theorem dec_api_Piece:∀ r,hasR r sh_api_Piece→∃ x:api_Piece,r=enc_api_Piece x:=by
 intro r h
 unfold sh_api_Piece at h
 rcases r with _ | ⟨d0,_ | ⟨d1,_ | ⟨d2,_ | _⟩⟩⟩ <;> simp only [hasR,and_false,and_true] at h
 obtain ⟨h0,h1,h2⟩:=h
 cases d0 <;> simp only [hasT] at h0
 subst h0
 cases d1 <;> simp only [hasT] at h1
 subst h1
 cases d2 <;> simp only [hasT] at h2
 exact ⟨⟨_,_,_⟩,rfl⟩
structure api_Delta where
 Old:Int
 New:Int
 OldSum:Str
 NewSum:Str
 Pieces:List api_Piece
def enc_api_Delta (x:api_Delta):List Dt:=[.i .i64 x.Old,.i .i64 x.New,.s x.OldSum,.s x.NewSum,.l (List.map enc_api_Piece x.Pieces)]
def sh_api_Delta:List Sh:=[.i .i64,.i .i64,.s,.s,.l sh_api_Piece]
theorem dec_api_Delta:∀ r,hasR r sh_api_Delta→∃ x:api_Delta,r=enc_api_Delta x:=by
 intro r h
 unfold sh_api_Delta at h
 rcases r with _ | ⟨d0,_ | ⟨d1,_ | ⟨d2,_ | ⟨d3,_ | ⟨d4,_ | _⟩⟩⟩⟩⟩ <;> simp only [hasR,and_false,and_true] at h
 obtain ⟨h0,h1,h2,h3,h4⟩:=h
 cases d0 <;> simp only [hasT] at h0
 subst h0
 cases d1 <;> simp only [hasT] at h1
 subst h1
 cases d2 <;> simp only [hasT] at h2
 cases d3 <;> simp only [hasT] at h3
 cases d4 <;> simp only [hasT] at h4
 obtain ⟨l4,rfl⟩:=hasRs_map dec_api_Piece h4
 exact ⟨⟨_,_,_,_,_⟩,rfl⟩
structure api_Way where
 From:Int
 To:Int
 Cost:Int
def enc_api_Way (x:api_Way):List Dt:=[.i .i64 x.From,.i .i64 x.To,.i .i64 x.Cost]
def sh_api_Way:List Sh:=[.i .i64,.i .i64,.i .i64]
theorem dec_api_Way:∀ r,hasR r sh_api_Way→∃ x:api_Way,r=enc_api_Way x:=by
 intro r h
 unfold sh_api_Way at h
 rcases r with _ | ⟨d0,_ | ⟨d1,_ | ⟨d2,_ | _⟩⟩⟩ <;> simp only [hasR,and_false,and_true] at h
 obtain ⟨h0,h1,h2⟩:=h
 cases d0 <;> simp only [hasT] at h0
 subst h0
 cases d1 <;> simp only [hasT] at h1
 subst h1
 cases d2 <;> simp only [hasT] at h2
 subst h2
 exact ⟨⟨_,_,_⟩,rfl⟩
structure delta_route where
 cost:Int
 list:List Int
 done:Bool
 any:Bool
def enc_delta_route (x:delta_route):List Dt:=[.i .i64 x.cost,.l (List.map ecI_i64 x.list),.b x.done,.b x.any]
def sh_delta_route:List Sh:=[.i .i64,.l [.i .i64],.b,.b]
theorem dec_delta_route:∀ r,hasR r sh_delta_route→∃ x:delta_route,r=enc_delta_route x:=by
 intro r h
 unfold sh_delta_route at h
 rcases r with _ | ⟨d0,_ | ⟨d1,_ | ⟨d2,_ | ⟨d3,_ | _⟩⟩⟩⟩ <;> simp only [hasR,and_false,and_true] at h
 obtain ⟨h0,h1,h2,h3⟩:=h
 cases d0 <;> simp only [hasT] at h0
 subst h0
 cases d1 <;> simp only [hasT] at h1
 obtain ⟨l1,rfl⟩:=hasRs_map dec1_i64 h1
 cases d2 <;> simp only [hasT] at h2
 cases d3 <;> simp only [hasT] at h3
 exact ⟨⟨_,_,_,_⟩,rfl⟩
def eN_enc_delta_state (x:delta_state):List Dt:=[.i .i64 x.long,.i .i64 x.end_,.i .i64 x.link,.b false]
def iN_enc_delta_state (x:delta_state):List (List Dt):=List.map enc_delta_edge x.edges
theorem mrg_138 (l:List delta_state):mrg 3 (List.map eN_enc_delta_state l) (List.map iN_enc_delta_state l)=List.map enc_delta_state l:=mrg_map (fun _=>rfl) l
theorem sz_eN_enc_delta_state:∀ l,szOk (4) (List.map eN_enc_delta_state l)=True:=fun l=>eq_true (by intro r hr; obtain ⟨x,_,rfl⟩:=List.mem_map.1 hr; rfl)
attribute [go_sem] mrg_138 sz_eN_enc_delta_state eN_enc_delta_state iN_enc_delta_state
instance instDec_Arr2_Int:DecidableEq Arr2_Int:=fun a b=>decidable_of_iff (a.a0=b.a0∧a.a1=b.a1) (by cases a; cases b; simp)
def kdk_Arr2_Int (x:Arr2_Int):Dt:=.a (enc_Arr2_Int x)
theorem keq_Arr2_Int (a b:Arr2_Int):keq (kdk_Arr2_Int a) (kdk_Arr2_Int b)=decide (a=b):=by
 rw [Bool.eq_iff_iff]
 obtain ⟨a0,a1⟩:=a
 obtain ⟨b0,b1⟩:=b
 simp only [keq,kdk_Arr2_Int,enc_Arr2_Int,eqRow,Bool.and_true,Bool.and_eq_true,decide_eq_true_eq,Arr2_Int.mk.injEq]
 exact ⟨fun h=>by simp only [h,and_self],fun h=>by simp only [h,and_self]⟩
theorem mkeys_Arr2_Int {V:Type} (e:V→List Dt) (l:List (Arr2_Int × V)):mkeys (.ks [.i .i64,.i .i64]) (encM kdk_Arr2_Int e l)=True:=mkeys_a (kd:=enc_Arr2_Int) (fun x=>by simp [hasKs,enc_Arr2_Int]) e l
attribute [go_sem] mkeys_Arr2_Int
theorem sz_ecB:∀ l,szOk (1) (List.map ecB l)=True:=fun l=>eq_true (by intro r hr; obtain ⟨x,_,rfl⟩:=List.mem_map.1 hr; rfl)
theorem sz_ecS:∀ l,szOk (1) (List.map ecS l)=True:=fun l=>eq_true (by intro r hr; obtain ⟨x,_,rfl⟩:=List.mem_map.1 hr; rfl)
theorem sz_ecI_i64:∀ l,szOk (1) (List.map ecI_i64 l)=True:=fun l=>eq_true (by intro r hr; obtain ⟨x,_,rfl⟩:=List.mem_map.1 hr; rfl)
theorem sz_ecI_u8:∀ l,szOk (1) (List.map ecI_u8 l)=True:=fun l=>eq_true (by intro r hr; obtain ⟨x,_,rfl⟩:=List.mem_map.1 hr; rfl)
theorem sz_ecI_u64:∀ l,szOk (1) (List.map ecI_u64 l)=True:=fun l=>eq_true (by intro r hr; obtain ⟨x,_,rfl⟩:=List.mem_map.1 hr; rfl)
theorem sz_ecI_i32:∀ l,szOk (1) (List.map ecI_i32 l)=True:=fun l=>eq_true (by intro r hr; obtain ⟨x,_,rfl⟩:=List.mem_map.1 hr; rfl)
theorem sz_ecI_u32:∀ l,szOk (1) (List.map ecI_u32 l)=True:=fun l=>eq_true (by intro r hr; obtain ⟨x,_,rfl⟩:=List.mem_map.1 hr; rfl)
theorem sz_enc_delta_edge:∀ l,szOk (2) (List.map enc_delta_edge l)=True:=fun l=>eq_true (by intro r hr; obtain ⟨x,_,rfl⟩:=List.mem_map.1 hr; rfl)
theorem sz_enc_delta_state:∀ l,szOk (4) (List.map enc_delta_state l)=True:=fun l=>eq_true (by intro r hr; obtain ⟨x,_,rfl⟩:=List.mem_map.1 hr; rfl)
theorem sz_enc_Arr2_Int:∀ l,szOk (2) (List.map enc_Arr2_Int l)=True:=fun l=>eq_true (by intro r hr; obtain ⟨x,_,rfl⟩:=List.mem_map.1 hr; rfl)
theorem sz_enc_api_Piece:∀ l,szOk (3) (List.map enc_api_Piece l)=True:=fun l=>eq_true (by intro r hr; obtain ⟨x,_,rfl⟩:=List.mem_map.1 hr; rfl)
theorem sz_enc_api_Delta:∀ l,szOk (5) (List.map enc_api_Delta l)=True:=fun l=>eq_true (by intro r hr; obtain ⟨x,_,rfl⟩:=List.mem_map.1 hr; rfl)
theorem sz_enc_api_Way:∀ l,szOk (3) (List.map enc_api_Way l)=True:=fun l=>eq_true (by intro r hr; obtain ⟨x,_,rfl⟩:=List.mem_map.1 hr; rfl)
theorem sz_enc_delta_route:∀ l,szOk (4) (List.map enc_delta_route l)=True:=fun l=>eq_true (by intro r hr; obtain ⟨x,_,rfl⟩:=List.mem_map.1 hr; rfl)
theorem allB_enc:∀ l:List Int,allB (List.map ecI_u8 l)=True
 | []=>by simp only [List.map_nil,allB]
 | _::l=>by simp only [List.map_cons,ecI_u8,allB,allB_enc l,and_self]
theorem unB_enc:∀ l:List Int,unB (List.map ecI_u8 l)=Go.Vc.strOf l
 | []=>by simp only [List.map_nil,unB,Go.Vc.strOf]
 | _::l=>by simp only [List.map_cons,ecI_u8,unB,unB_enc l,Go.Vc.strOf]
theorem bR_enc (l:Str):bR l=List.map ecI_u8 (bytesOf l):=by simp [bR,bytesOf,ecI_u8]
attribute [go_sem] allB_enc unB_enc bR_enc
attribute [go_sem] ecB ecS ecI_i64 ecI_u8 ecI_u64 ecI_i32 ecI_u32 enc_delta_edge enc_delta_state enc_Arr2_Int enc_api_Piece enc_api_Delta enc_api_Way enc_delta_route sz_ecB sz_ecS sz_ecI_i64 sz_ecI_u8 sz_ecI_u64 sz_ecI_i32 sz_ecI_u32 sz_enc_delta_edge sz_enc_delta_state sz_enc_Arr2_Int sz_enc_api_Piece sz_enc_api_Delta sz_enc_api_Way sz_enc_delta_route
noncomputable def ver_isSmall (c_1:Int):Option Bool :=
 some ((decide (97≤c_1)) && (decide (c_1≤122)))
noncomputable def ver_isDigit (c_1:Int):Option Bool :=
 some ((decide (48≤c_1)) && (decide (c_1≤57)))
noncomputable def ver_IsName_1 (c_1:Int):Option Bool :=
 call (ver_isSmall c_1) fun r_2 =>
 callG (!r_2) (ver_isDigit c_1) false fun r_3 =>
 some (((r_2 || r_3) || (decide (c_1=45))) || (decide (c_1=46)))
noncomputable def ver_each_i1 (s_1:Str) (most_2:Int):Option Bool :=
 jp (S:=Unit) (fun _ =>
  some ((!decide (s_1=[])) && (decide ((s_1.length:Int)≤most_2)))) fun k_12 =>
 forL s_1 0 (fun i_18 c_20 s nx_17 k_16 =>
  call (ver_IsName_1 (c_20.toNat:Int)) fun r_21 =>
  bif !r_21 then
   some false
  else
  nx_17 ()) () (fun _ =>
  k_12 ())
noncomputable def ver_IsName (s_1:Str):Option Bool :=
 call (ver_each_i1 s_1 40) fun r_2 =>
 chk (r_2=true→(0≤0∧0 < (s_1.length:Int))) <|
 callG r_2 (ver_isSmall ((s_1.getD 0 0).toNat:Int)) false fun r_4 =>
 some (r_2 && r_4)
noncomputable def Top_landed :Option Bool :=
 call (ver_IsName ([97]:Str)) fun r_1 =>
 some r_1
noncomputable def slices_Clone_string_string_new (s_1:List Str):Option (List Str) :=
 anyOf (fun b_5:Bool=>b_5=true→s_1=[]) fun b_5 =>
 bif b_5 then
  some []
 else
 chk (([]++s_1).length≤274877906944) <|
 some ([]++s_1)
noncomputable def disk_SumOf (text_1:Str):Option Str :=
 jp (S:=Int) (fun n_10 =>
  jp (S:=List Int) (fun o0_26 =>
   some (Go.Vc.strOf o0_26)) fun k_27 =>
  loopN Fuel (fun s nx_38 k_37 =>
   match s with
   | (t23_32,o0_33) =>
    bif decide (t23_32 < ((List.replicate 16 0).length:Int)) then
     chk (0≤(IntKind.i64.wrap (60 - (IntKind.i64.wrap (4 * t23_32))))) <|
     idxS ([48,49,50,51,52,53,54,55,56,57,97,98,99,100,101,102]:Str) (bitsI .and .u64 (Int.fdiv n_10 (2 ^ (shI .u64 (IntKind.i64.wrap (60 - (IntKind.i64.wrap (4 * t23_32))))))) 15) fun c_40 =>
     chk (0≤t23_32∧t23_32 < (o0_33.length:Int)) <|
     nx_38 (IntKind.i64.wrap (t23_32+1),List.set o0_33 t23_32.toNat c_40)
    else
    k_37 (t23_32,o0_33)) (0,List.replicate 16 0) (fun s=>match s with
   | (t23_32,o0_33) =>
    k_27 o0_33)) fun k_11 =>
 forL text_1 0 (fun i_47 c_49 n_42 nx_46 k_45 =>
  nx_46 (IntKind.u64.wrap ((bitsI .xor .u64 n_42 (IntKind.u64.wrap (c_49.toNat:Int))) * 1099511628211))) 14695981039346656037 (fun n_42 =>
  k_11 n_42)
noncomputable def delta_state_next_i1 (s_1:delta_state) (c_2:Int):Option Int :=
 jp (S:=Unit) (fun _ =>
  some (-1)) fun k_10 =>
 forL s_1.edges 0 (fun i_15 e_17 s nx_14 k_13 =>
  bif decide (e_17.c=c_2) then
   some e_17.to
  else
  nx_14 ()) () (fun _ =>
  k_10 ())
noncomputable def delta_state_set_i1 (s_1:Nat) (c_2:Int) (to_3:Int) (o0_4:List delta_state):Option (List delta_state) :=
 chk (s_1 < o0_4.length) <|
 jp (S:=Unit) (fun _ =>
  chk ((((o0_4.getD s_1 (delta_state.mk 0 0 0 [])).edges)++[(delta_edge.mk c_2 to_3)]).length≤274877906944) <|
  letv (List.set o0_4 s_1 (delta_state.mk ((o0_4.getD s_1 (delta_state.mk 0 0 0 [])).long) ((o0_4.getD s_1 (delta_state.mk 0 0 0 [])).end_) ((o0_4.getD s_1 (delta_state.mk 0 0 0 [])).link) (((o0_4.getD s_1 (delta_state.mk 0 0 0 [])).edges)++[(delta_edge.mk c_2 to_3)]))) fun v_97 =>
  some v_97) fun k_94 =>
 loopN Fuel (fun t12_103 nx_116 k_115 =>
  bif decide (t12_103 < (((o0_4.getD s_1 (delta_state.mk 0 0 0 [])).edges).length:Int)) then
   chk (0≤t12_103∧t12_103 < (((o0_4.getD s_1 (delta_state.mk 0 0 0 [])).edges).length:Int)) <|
   bif decide (((((o0_4.getD s_1 (delta_state.mk 0 0 0 [])).edges).getD t12_103.toNat (delta_edge.mk 0 0)).c)=c_2) then
    chk (0≤t12_103∧t12_103 < (((o0_4.getD s_1 (delta_state.mk 0 0 0 [])).edges).length:Int)) <|
    letv (List.set o0_4 s_1 (delta_state.mk ((o0_4.getD s_1 (delta_state.mk 0 0 0 [])).long) ((o0_4.getD s_1 (delta_state.mk 0 0 0 [])).end_) ((o0_4.getD s_1 (delta_state.mk 0 0 0 [])).link) (List.set ((o0_4.getD s_1 (delta_state.mk 0 0 0 [])).edges) t12_103.toNat (delta_edge.mk ((((o0_4.getD s_1 (delta_state.mk 0 0 0 [])).edges).getD t12_103.toNat (delta_edge.mk 0 0)).c) to_3)))) fun v_123 =>
    some v_123
   else
   nx_116 (IntKind.i64.wrap (t12_103+1))
  else
  k_115 t12_103) 0 (fun t12_103 =>
  k_94 ())
noncomputable def delta_automaton_add_i1 (c_1:Int) (end_2:Int) (o0_1_3:Int) (o1_4:List delta_state):Option (Int × List delta_state) :=
 chk ((o1_4++[(delta_state.mk end_2 end_2 0 [])]).length≤274877906944) <|
 letv (o1_4++[(delta_state.mk end_2 end_2 0 [])]) fun v_212 =>
 jp (S:=Int × List delta_state) (fun s=>match s with
  | (p_255,o1_256) =>
   bif decide (p_255 < 0) then
    some ((o1_4.length:Int),o1_256)
   else
   chk (0≤p_255∧p_255 < (o1_256.length:Int)) <|
   call (delta_state_next_i1 (o1_256.getD p_255.toNat (delta_state.mk 0 0 0 [])) c_1) fun r_259 =>
   chk (0≤r_259∧r_259 < (o1_256.length:Int)) <|
   chk (0≤p_255∧p_255 < (o1_256.length:Int)) <|
   bif decide (((o1_256.getD r_259.toNat (delta_state.mk 0 0 0 [])).long)=(IntKind.i64.wrap (((o1_256.getD p_255.toNat (delta_state.mk 0 0 0 [])).long)+1))) then
    chk (0≤(o1_4.length:Int)∧(o1_4.length:Int) < (o1_256.length:Int)) <|
    letv (List.set o1_256 o1_4.length (delta_state.mk ((o1_256.getD o1_4.length (delta_state.mk 0 0 0 [])).long) ((o1_256.getD o1_4.length (delta_state.mk 0 0 0 [])).end_) r_259 ((o1_256.getD o1_4.length (delta_state.mk 0 0 0 [])).edges))) fun v_268 =>
    some ((o1_4.length:Int),v_268)
   else
   chk (0≤r_259∧r_259 < (o1_256.length:Int)) <|
   chk (0≤p_255∧p_255 < (o1_256.length:Int)) <|
   chk (([]++((o1_256.getD r_259.toNat (delta_state.mk 0 0 0 [])).edges)).length≤274877906944) <|
   chk ((o1_256++[(delta_state.mk (IntKind.i64.wrap (((o1_256.getD p_255.toNat (delta_state.mk 0 0 0 [])).long)+1)) ((o1_256.getD r_259.toNat (delta_state.mk 0 0 0 [])).end_) ((o1_256.getD r_259.toNat (delta_state.mk 0 0 0 [])).link) ([]++((o1_256.getD r_259.toNat (delta_state.mk 0 0 0 [])).edges)))]).length≤274877906944) <|
   letv (o1_256++[(delta_state.mk (IntKind.i64.wrap (((o1_256.getD p_255.toNat (delta_state.mk 0 0 0 [])).long)+1)) ((o1_256.getD r_259.toNat (delta_state.mk 0 0 0 [])).end_) ((o1_256.getD r_259.toNat (delta_state.mk 0 0 0 [])).link) ([]++((o1_256.getD r_259.toNat (delta_state.mk 0 0 0 [])).edges)))]) fun v_276 =>
   jp (S:=List delta_state) (fun o1_321 =>
    chk (0≤r_259∧r_259 < (o1_321.length:Int)) <|
    letv (List.set o1_321 r_259.toNat (delta_state.mk ((o1_321.getD r_259.toNat (delta_state.mk 0 0 0 [])).long) ((o1_321.getD r_259.toNat (delta_state.mk 0 0 0 [])).end_) (o1_256.length:Int) ((o1_321.getD r_259.toNat (delta_state.mk 0 0 0 [])).edges))) fun v_326 =>
    chk (0≤(o1_4.length:Int)∧(o1_4.length:Int) < (v_326.length:Int)) <|
    letv (List.set v_326 o1_4.length (delta_state.mk ((v_326.getD o1_4.length (delta_state.mk 0 0 0 [])).long) ((v_326.getD o1_4.length (delta_state.mk 0 0 0 [])).end_) (o1_256.length:Int) ((v_326.getD o1_4.length (delta_state.mk 0 0 0 [])).edges))) fun v_331 =>
    some ((o1_4.length:Int),v_331)) fun k_322 =>
   loopN Fuel (fun s nx_363 k_362 =>
    match s with
    | (p_348,o1_349) =>
     chk ((decide (0≤p_348))=true→(0≤p_348∧p_348 < (o1_349.length:Int))) <|
     callG (decide (0≤p_348)) (delta_state_next_i1 (o1_349.getD p_348.toNat (delta_state.mk 0 0 0 [])) c_1) 0 fun r_365 =>
     bif ((decide (0≤p_348)) && (decide (r_365=r_259))) then
      chk (0≤p_348∧p_348 < (o1_349.length:Int)) <|
      call (delta_state_set_i1 p_348.toNat c_1 (o1_256.length:Int) o1_349) fun r_373 =>
      chk (0≤p_348∧p_348 < (r_373.length:Int)) <|
      nx_363 ((r_373.getD p_348.toNat (delta_state.mk 0 0 0 [])).link,r_373)
     else
     k_362 (p_348,o1_349)) (p_255,v_276) (fun s=>match s with
    | (p_348,o1_349) =>
     k_322 o1_349)) fun k_257 =>
 loopN Fuel (fun s nx_404 k_403 =>
  match s with
  | (p_389,o1_390) =>
   chk ((decide (0≤p_389))=true→(0≤p_389∧p_389 < (o1_390.length:Int))) <|
   callG (decide (0≤p_389)) (delta_state_next_i1 (o1_390.getD p_389.toNat (delta_state.mk 0 0 0 [])) c_1) 0 fun r_406 =>
   bif ((decide (0≤p_389)) && (decide (r_406 < 0))) then
    chk (0≤p_389∧p_389 < (o1_390.length:Int)) <|
    call (delta_state_set_i1 p_389.toNat c_1 (o1_4.length:Int) o1_390) fun r_414 =>
    chk (0≤p_389∧p_389 < (r_414.length:Int)) <|
    nx_404 ((r_414.getD p_389.toNat (delta_state.mk 0 0 0 [])).link,r_414)
   else
   k_403 (p_389,o1_390)) (o0_1_3,v_212) (fun s=>match s with
  | (p_389,o1_390) =>
   k_257 (p_389,o1_390))
noncomputable def delta_newAutomaton (text_1:Str):Option (List delta_state × Int) :=
 letv ([(delta_state.mk 0 0 (-1) [])]) fun v_35 =>
 jp (S:=List delta_state × Int) (fun s=>match s with
  | (o0_51,o2_1_52) =>
   some (o0_51,o2_1_52)) fun k_53 =>
 forL text_1 0 (fun i_64 c_66 s nx_63 k_62 =>
  match s with
  | (o0_58,o2_1_59) =>
   call (delta_automaton_add_i1 (c_66.toNat:Int) (IntKind.i64.wrap ((i_64:Int)+1)) o2_1_59 o0_58) fun r_67 =>
   nx_63 (r_67.2,r_67.1)) (v_35,0) (fun s=>match s with
  | (o0_58,o2_1_59) =>
   k_53 (o0_58,o2_1_59))
noncomputable def delta_automaton_longest_i1 (text_1:Str) (o0_1_2:Int) (o1_3:List delta_state):Option (Int × Int) :=
 jp (S:=Int × Int) (fun s=>match s with
  | (long_45,s_46) =>
   chk (0≤s_46∧s_46 < (o1_3.length:Int)) <|
   some (IntKind.i64.wrap (((o1_3.getD s_46.toNat (delta_state.mk 0 0 0 [])).end_) - long_45),long_45)) fun k_47 =>
 loopN Fuel (fun s nx_57 k_56 =>
  match s with
  | (long_50,s_51) =>
   bif decide (long_50 < (text_1.length:Int)) then
    chk (0≤s_51∧s_51 < (o1_3.length:Int)) <|
    idxS text_1 long_50 fun c_59 =>
    call (delta_state_next_i1 (o1_3.getD s_51.toNat (delta_state.mk 0 0 0 [])) c_59) fun r_60 =>
    bif decide (r_60 < 0) then
     k_56 (long_50,s_51)
    else
    nx_57 (IntKind.i64.wrap (long_50+1),r_60)
   else
   k_56 (long_50,s_51)) (0,0) (fun s=>match s with
  | (long_50,s_51) =>
   k_47 (long_50,s_51))
noncomputable def delta_Make (a_1:Str) (b_2:Str):Option (api_Delta × Int) :=
 bif ((decide (65536 < (a_1.length:Int))) || (decide (65536 < (b_2.length:Int)))) then
  some ((api_Delta.mk 0 0 [] [] []),4)
 else
 call (disk_SumOf a_1) fun r_3 =>
 call (disk_SumOf b_2) fun r_4 =>
 call (delta_newAutomaton a_1) fun r_5 =>
 jp (S:=Int × List api_Piece) (fun s=>match s with
  | (from_53,o5_54) =>
   jp (S:=List api_Piece) (fun o5_58 =>
    bif decide (5000 < (o5_58.length:Int)) then
     some ((api_Delta.mk 0 0 [] [] []),4)
    else
    some ((api_Delta.mk (a_1.length:Int) (b_2.length:Int) r_3 r_4 o5_58),0)) fun k_59 =>
   bif decide (from_53 < (b_2.length:Int)) then
    chk (0≤from_53∧from_53≤(b_2.length:Int)) <|
    chk ((o5_54++[(api_Piece.mk 0 0 (List.drop from_53.toNat b_2))]).length≤274877906944) <|
    k_59 (o5_54++[(api_Piece.mk 0 0 (List.drop from_53.toNat b_2))])
   else
   k_59 o5_54) fun k_55 =>
 loopN Fuel (fun s nx_99 k_98 =>
  match s with
  | (from_86,at_87,o5_88) =>
   bif decide (at_87 < (b_2.length:Int)) then
    chk (0≤at_87∧at_87≤(b_2.length:Int)) <|
    call (delta_automaton_longest_i1 (List.drop at_87.toNat b_2) r_5.2 r_5.1) fun r_101 =>
    bif decide (r_101.2 < 8) then
     nx_99 (from_86,IntKind.i64.wrap (at_87+1),o5_88)
    else
    jp (S:=List api_Piece) (fun o5_104 =>
     chk ((o5_104++[(api_Piece.mk r_101.1 r_101.2 [])]).length≤274877906944) <|
     nx_99 (IntKind.i64.wrap (at_87+r_101.2),IntKind.i64.wrap (at_87+r_101.2),o5_104++[(api_Piece.mk r_101.1 r_101.2 [])])) fun k_105 =>
    bif decide (from_86 < at_87) then
     chk (0≤from_86∧from_86≤(b_2.length:Int)∧0≤at_87∧at_87≤(b_2.length:Int)∧from_86≤at_87) <|
     chk ((o5_88++[(api_Piece.mk 0 0 (List.take (at_87.toNat - from_86.toNat) (List.drop from_86.toNat b_2)))]).length≤274877906944) <|
     k_105 (o5_88++[(api_Piece.mk 0 0 (List.take (at_87.toNat - from_86.toNat) (List.drop from_86.toNat b_2)))])
    else
    k_105 o5_88
   else
   k_98 (from_86,at_87,o5_88)) (0,0,[]) (fun s=>match s with
  | (from_86,at_87,o5_88) =>
   k_55 (from_86,o5_88))
noncomputable def delta_outside (n_1:Int) (low_2:Int) (high_3:Int):Option Bool :=
 some ((decide (n_1 < low_2)) || (decide (high_3 < n_1)))
noncomputable def delta_isSum (s_1:Str):Option Bool :=
 jp (S:=Unit) (fun _ =>
  some (decide ((s_1.length:Int)=16))) fun k_9 =>
 forL s_1 0 (fun i_14 c_16 s nx_13 k_12 =>
  bif !(((decide (48≤(c_16.toNat:Int))) && (decide ((c_16.toNat:Int)≤57))) || ((decide (97≤(c_16.toNat:Int))) && (decide ((c_16.toNat:Int)≤102)))) then
   some false
  else
  nx_13 ()) () (fun _ =>
  k_9 ())
noncomputable def delta_CheckSteps (l_1:List api_Piece) (old_2:Int):Option (Int × Int) :=
 call (delta_outside old_2 0 65536) fun r_3 =>
 bif r_3 then
  some (0,3)
 else
 bif decide (5000 < (l_1.length:Int)) then
  some (0,4)
 else
 jp (S:=Int) (fun size_12 =>
  bif decide (65536 < size_12) then
   some (0,4)
  else
  some (size_12,0)) fun k_13 =>
 forL l_1 0 (fun i_19 p_21 size_14 nx_18 k_17 =>
  bif !decide (p_21.Data=[]) then
   bif ((!decide (p_21.At=0)) || (!decide (p_21.Long=0))) then
    some (0,2)
   else
   nx_18 (IntKind.i64.wrap (size_14+(p_21.Data.length:Int)))
  else
  bif ((((decide (p_21.At < 0)) || (decide (p_21.Long < 1))) || (decide (old_2 < p_21.Long))) || (decide ((IntKind.i64.wrap (old_2 - p_21.Long)) < p_21.At))) then
   some (0,3)
  else
  nx_18 (IntKind.i64.wrap (size_14+p_21.Long))) 0 (fun size_14 =>
  k_13 size_14)
noncomputable def delta_Check (d_1:api_Delta):Option Int :=
 call (delta_outside d_1.Old 0 65536) fun r_2 =>
 callG (!r_2) (delta_outside d_1.New 0 65536) false fun r_3 =>
 bif (r_2 || r_3) then
  some 3
 else
 call (delta_isSum d_1.OldSum) fun r_4 =>
 callG (!(!r_4)) (delta_isSum d_1.NewSum) false fun r_5 =>
 bif ((!r_4) || (!r_5)) then
  some 2
 else
 call (delta_CheckSteps d_1.Pieces d_1.Old) fun r_6 =>
 bif ((decide (r_6.2=0)) && (!decide (r_6.1=d_1.New))) then
  some 11
 else
 some r_6.2
noncomputable def delta_putNumber_i1 (n_1:Int) (o0_2:List Int):Option (List Int) :=
 jp (S:=Int × List Int) (fun s=>match s with
  | (n_31,o0_32) =>
   chk ((o0_32++[IntKind.u8.wrap n_31]).length≤274877906944) <|
   some (o0_32++[IntKind.u8.wrap n_31])) fun k_33 =>
 loopN Fuel (fun s nx_41 k_40 =>
  match s with
  | (n_37,o0_38) =>
   bif decide (128≤n_37) then
    chk ((o0_38++[IntKind.u8.wrap (bitsI .or .i64 (bitsI .and .i64 n_37 127) 128)]).length≤274877906944) <|
    nx_41 (Int.fdiv n_37 (2 ^ (shI .i64 7)),o0_38++[IntKind.u8.wrap (bitsI .or .i64 (bitsI .and .i64 n_37 127) 128)])
   else
   k_40 (n_37,o0_38)) (n_1,o0_2) (fun s=>match s with
  | (n_37,o0_38) =>
   k_33 (n_37,o0_38))
noncomputable def internal_strconv_lower (c_1:Int):Option Int :=
 some (bitsI .or .u8 c_1 32)
noncomputable def internal_strconv_underscoreOK (s_1:Str):Option Bool :=
 jp (S:=Str) (fun s_5 =>
  jp (S:=Int × Int × Bool) (fun s=>match s with
   | (saw_16,i_17,hex_18) =>
    jp (S:=Int) (fun saw_30 =>
     some (!decide (saw_30=95))) fun k_31 =>
    loopN Fuel (fun s nx_38 k_37 =>
     match s with
     | (saw_32,i_33) =>
      bif decide (i_33 < (s_5.length:Int)) then
       idxS s_5 i_33 fun c_39 =>
       callG ((!((decide (48≤c_39)) && (decide (c_39≤57)))) && hex_18) (internal_strconv_lower c_39) 0 fun r_40 =>
       callG ((!((decide (48≤c_39)) && (decide (c_39≤57)))) && (hex_18 && (decide (97≤r_40)))) (internal_strconv_lower c_39) 0 fun r_41 =>
       bif (((decide (48≤c_39)) && (decide (c_39≤57))) || ((hex_18 && (decide (97≤r_40))) && (decide (r_41≤102)))) then
        nx_38 (48,IntKind.i64.wrap (i_33+1))
       else
       bif decide (c_39=95) then
        bif !decide (saw_32=48) then
         some false
        else
        nx_38 (95,IntKind.i64.wrap (i_33+1))
       else
       bif decide (saw_32=95) then
        some false
       else
       nx_38 (33,IntKind.i64.wrap (i_33+1))
      else
      k_37 (saw_32,i_33)) (saw_16,i_17) (fun s=>match s with
     | (saw_32,i_33) =>
      k_31 saw_32)) fun k_19 =>
  chk ((decide (2≤(s_5.length:Int)))=true→(0≤0∧0 < (s_5.length:Int))) <|
  chk (((decide (2≤(s_5.length:Int))) && (decide (((s_5.getD 0 0).toNat:Int)=48)))=true→(0≤1∧1 < (s_5.length:Int))) <|
  callG ((decide (2≤(s_5.length:Int))) && (decide (((s_5.getD 0 0).toNat:Int)=48))) (internal_strconv_lower ((s_5.getD 1 0).toNat:Int)) 0 fun r_44 =>
  chk ((((decide (2≤(s_5.length:Int))) && (decide (((s_5.getD 0 0).toNat:Int)=48))) && (!(decide (r_44=98))))=true→(0≤1∧1 < (s_5.length:Int))) <|
  callG (((decide (2≤(s_5.length:Int))) && (decide (((s_5.getD 0 0).toNat:Int)=48))) && (!(decide (r_44=98)))) (internal_strconv_lower ((s_5.getD 1 0).toNat:Int)) 0 fun r_46 =>
  chk ((((decide (2≤(s_5.length:Int))) && (decide (((s_5.getD 0 0).toNat:Int)=48))) && (!((decide (r_44=98)) || (decide (r_46=111)))))=true→(0≤1∧1 < (s_5.length:Int))) <|
  callG (((decide (2≤(s_5.length:Int))) && (decide (((s_5.getD 0 0).toNat:Int)=48))) && (!((decide (r_44=98)) || (decide (r_46=111))))) (internal_strconv_lower ((s_5.getD 1 0).toNat:Int)) 0 fun r_48 =>
  bif (((decide (2≤(s_5.length:Int))) && (decide (((s_5.getD 0 0).toNat:Int)=48))) && (((decide (r_44=98)) || (decide (r_46=111))) || (decide (r_48=120)))) then
   idxS s_5 1 fun c_49 =>
   call (internal_strconv_lower c_49) fun r_50 =>
   k_19 (48,2,decide (r_50=120))
  else
  k_19 (94,0,false)) fun k_6 =>
 chk ((decide (1≤(s_1.length:Int)))=true→(0≤0∧0 < (s_1.length:Int))) <|
 chk (((decide (1≤(s_1.length:Int))) && (!(decide (((s_1.getD 0 0).toNat:Int)=45))))=true→(0≤0∧0 < (s_1.length:Int))) <|
 bif ((decide (1≤(s_1.length:Int))) && ((decide (((s_1.getD 0 0).toNat:Int)=45)) || (decide (((s_1.getD 0 0).toNat:Int)=43)))) then
  chk (0≤1∧1≤(s_1.length:Int)) <|
  k_6 (List.drop 1 s_1)
 else
 k_6 s_1
noncomputable def internal_strconv_ParseUint (s_1:Str) (base_2:Int) (bitSize_3:Int):Option Int :=
 bif decide (s_1=[]) then
  none
 else
 jp (S:=Str × Int) (fun s=>match s with
  | (s_105,base_106) =>
   jp (S:=Int) (fun bitSize_108 =>
    jp (S:=Int) (fun cutoff_111 =>
     chk (0≤(IntKind.u64.wrap bitSize_108)) <|
     jp (S:=Bool × Int) (fun s=>match s with
      | (underscores_141,n_142) =>
       callG underscores_141 (internal_strconv_underscoreOK s_1) false fun r_144 =>
       bif (underscores_141 && (!r_144)) then
        none
       else
       some n_142) fun k_143 =>
     forC s_105.length 0 (fun i_160 s nx_159 k_158 =>
      match s with
      | (underscores_145,n_146) =>
       jp (S:=Int) (fun d_167 =>
        bif decide ((IntKind.u8.wrap base_106)≤d_167) then
         none
        else
        bif decide (cutoff_111≤n_146) then
         none
        else
        bif ((decide ((IntKind.u64.wrap ((IntKind.u64.wrap (n_146 * (IntKind.u64.wrap base_106)))+(IntKind.u64.wrap d_167))) < (IntKind.u64.wrap (n_146 * (IntKind.u64.wrap base_106))))) || (decide ((IntKind.u64.wrap ((IntKind.u64.wrap (1 * 2 ^ (shI .u64 (IntKind.u64.wrap bitSize_108)))) - 1)) < (IntKind.u64.wrap ((IntKind.u64.wrap (n_146 * (IntKind.u64.wrap base_106)))+(IntKind.u64.wrap d_167)))))) then
         none
        else
        nx_159 (underscores_145,IntKind.u64.wrap ((IntKind.u64.wrap (n_146 * (IntKind.u64.wrap base_106)))+(IntKind.u64.wrap d_167)))) fun k_168 =>
       bif ((decide (((bytesOf s_105).getD i_160 0)=95)) && (decide (base_2=0))) then
        nx_159 (true,n_146)
       else
       bif ((decide (48≤((bytesOf s_105).getD i_160 0))) && (decide (((bytesOf s_105).getD i_160 0)≤57))) then
        k_168 (IntKind.u8.wrap (((bytesOf s_105).getD i_160 0) - 48))
       else
       call (internal_strconv_lower ((bytesOf s_105).getD i_160 0)) fun r_169 =>
       callG (decide (97≤r_169)) (internal_strconv_lower ((bytesOf s_105).getD i_160 0)) 0 fun r_170 =>
       bif ((decide (97≤r_169)) && (decide (r_170≤122))) then
        call (internal_strconv_lower ((bytesOf s_105).getD i_160 0)) fun r_171 =>
        k_168 (IntKind.u8.wrap ((IntKind.u8.wrap (r_171 - 97))+10))
       else
       none) (false,0) (fun s=>match s with
      | (underscores_145,n_146) =>
       k_143 (underscores_145,n_146))) fun k_112 =>
    bif decide (base_106=10) then
     k_112 1844674407370955162
    else
    bif decide (base_106=16) then
     k_112 1152921504606846976
    else
    chk (¬ (IntKind.u64.wrap base_106)=0) <|
    k_112 (IntKind.u64.wrap ((IntKind.u64.wrap (Int.tdiv 18446744073709551615 (IntKind.u64.wrap base_106)))+1))) fun k_109 =>
   bif decide (bitSize_3=0) then
    k_109 64
   else
   bif ((decide (bitSize_3 < 0)) || (decide (64 < bitSize_3))) then
    none
   else
   k_109 bitSize_3) fun k_107 =>
 bif ((decide (2≤base_2)) && (decide (base_2≤36))) then
  k_107 (s_1,base_2)
 else
 bif decide (base_2=0) then
  idxS s_1 0 fun c_173 =>
  bif decide (c_173=48) then
   chk ((decide (3≤(s_1.length:Int)))=true→(0≤1∧1 < (s_1.length:Int))) <|
   callG (decide (3≤(s_1.length:Int))) (internal_strconv_lower ((s_1.getD 1 0).toNat:Int)) 0 fun r_175 =>
   bif ((decide (3≤(s_1.length:Int))) && (decide (r_175=98))) then
    chk (0≤2∧2≤(s_1.length:Int)) <|
    k_107 (List.drop 2 s_1,2)
   else
   chk ((decide (3≤(s_1.length:Int)))=true→(0≤1∧1 < (s_1.length:Int))) <|
   callG (decide (3≤(s_1.length:Int))) (internal_strconv_lower ((s_1.getD 1 0).toNat:Int)) 0 fun r_178 =>
   bif ((decide (3≤(s_1.length:Int))) && (decide (r_178=111))) then
    chk (0≤2∧2≤(s_1.length:Int)) <|
    k_107 (List.drop 2 s_1,8)
   else
   chk ((decide (3≤(s_1.length:Int)))=true→(0≤1∧1 < (s_1.length:Int))) <|
   callG (decide (3≤(s_1.length:Int))) (internal_strconv_lower ((s_1.getD 1 0).toNat:Int)) 0 fun r_181 =>
   bif ((decide (3≤(s_1.length:Int))) && (decide (r_181=120))) then
    chk (0≤2∧2≤(s_1.length:Int)) <|
    k_107 (List.drop 2 s_1,16)
   else
   chk (0≤1∧1≤(s_1.length:Int)) <|
   k_107 (List.drop 1 s_1,8)
  else
  k_107 (s_1,10)
 else
 none
noncomputable def strconv_ParseUint (s_1:Str) (base_2:Int) (bitSize_3:Int):Option Int :=
 call (internal_strconv_ParseUint s_1 base_2 bitSize_3) fun r_5 =>
 some r_5
noncomputable def delta_putSum_i1 (s_1:Str) (o0_2:List Int):Option (List Int) :=
 call (strconv_ParseUint s_1 16 64) fun r_29 =>
 jp (S:=Unit) (fun _ =>
  jp (S:=List Int) (fun o0_42 =>
   some o0_42) fun k_43 =>
  loopN Fuel (fun s nx_52 k_51 =>
   match s with
   | (i_47,o0_48) =>
    bif decide (0≤i_47) then
     chk (0≤i_47) <|
     chk ((o0_48++[IntKind.u8.wrap (Int.fdiv r_29 (2 ^ (shI .u64 i_47)))]).length≤274877906944) <|
     nx_52 (IntKind.i64.wrap (i_47 - 8),o0_48++[IntKind.u8.wrap (Int.fdiv r_29 (2 ^ (shI .u64 i_47)))])
    else
    k_51 (i_47,o0_48)) (56,o0_2) (fun s=>match s with
   | (i_47,o0_48) =>
    k_43 o0_48)) fun k_30 =>
 k_30 ()
noncomputable def delta_Print (d_1:api_Delta):Option (Str × Int) :=
 call (delta_Check d_1) fun r_2 =>
 bif !decide (r_2=0) then
  some ([],r_2)
 else
 chk (0 < [79,70,68,49].length) <|
 call (delta_putNumber_i1 d_1.Old [79,70,68,49]) fun r_9 =>
 call (delta_putNumber_i1 d_1.New r_9) fun r_10 =>
 call (delta_putSum_i1 d_1.OldSum r_10) fun r_17 =>
 call (delta_putSum_i1 d_1.NewSum r_17) fun r_18 =>
 call (delta_putNumber_i1 (d_1.Pieces.length:Int) r_18) fun r_19 =>
 jp (S:=List Int) (fun o1_55 =>
  call (disk_SumOf (Go.Vc.strOf o1_55)) fun r_57 =>
  call (delta_putSum_i1 r_57 o1_55) fun r_58 =>
  some (Go.Vc.strOf r_58,0)) fun k_56 =>
 forL d_1.Pieces 0 (fun i_78 p_80 o1_68 nx_77 k_76 =>
  bif !decide (p_80.Data=[]) then
   chk ((o1_68++[1]).length≤274877906944) <|
   call (delta_putNumber_i1 (p_80.Data.length:Int) (o1_68++[1])) fun r_82 =>
   chk ((r_82++(bytesOf p_80.Data)).length≤274877906944) <|
   nx_77 (r_82++(bytesOf p_80.Data))
  else
  chk ((o1_68++[0]).length≤274877906944) <|
  call (delta_putNumber_i1 p_80.At (o1_68++[0])) fun r_85 =>
  call (delta_putNumber_i1 p_80.Long r_85) fun r_86 =>
  nx_77 r_86) r_19 (fun o1_68 =>
  k_56 o1_68)
noncomputable def delta_Cost (d_1:api_Delta):Option (Int × Int) :=
 call (delta_Print d_1) fun r_2 =>
 some ((r_2.1.length:Int),r_2.2)
noncomputable def delta_CheckWays (l_1:List api_Way) (sizes_2:List Int):Option Int :=
 bif ((decide (1000 < (l_1.length:Int))) || (decide (200 < (sizes_2.length:Int)))) then
  some 4
 else
 jp (S:=Unit) (fun _ =>
  jp (S:=Unit) (fun _ =>
   some 0) fun k_26 =>
  forL l_1 0 (fun i_34 w_36 s nx_33 k_32 =>
   call (delta_outside w_36.From 0 (IntKind.i64.wrap ((sizes_2.length:Int) - 1))) fun r_37 =>
   callG (!r_37) (delta_outside w_36.To 0 (IntKind.i64.wrap ((sizes_2.length:Int) - 1))) false fun r_38 =>
   bif (r_37 || r_38) then
    some 10
   else
   bif decide (w_36.From=w_36.To) then
    some 2
   else
   call (delta_outside w_36.Cost 0 1000000000) fun r_39 =>
   bif r_39 then
    some 3
   else
   nx_33 ()) () (fun _ =>
   k_26 ())) fun k_12 =>
 forL sizes_2 0 (fun i_45 n_47 s nx_44 k_43 =>
  call (delta_outside n_47 0 1000000000) fun r_48 =>
  bif r_48 then
   some 3
  else
  nx_44 ()) () (fun _ =>
  k_12 ())
noncomputable def cmp_isNaN_int (x_1:Int):Option Bool :=
 some (!decide (x_1=x_1))
noncomputable def cmp_Compare_int (x_1:Int) (y_2:Int):Option Int :=
 call (cmp_isNaN_int x_1) fun r_3 =>
 call (cmp_isNaN_int y_2) fun r_4 =>
 bif r_3 then
  bif r_4 then
   some 0
  else
  some (-1)
 else
 bif r_4 then
  some 1
 else
 bif decide (x_1 < y_2) then
  some (-1)
 else
 bif decide (y_2 < x_1) then
  some 1
 else
 some 0
noncomputable def slices_Compare_int_int (s1_1:List Int) (s2_2:List Int):Option Int :=
 jp (S:=Unit) (fun _ =>
  bif decide ((s1_1.length:Int) < (s2_2.length:Int)) then
   some (-1)
  else
  some 0) fun k_14 =>
 forL s1_1 0 (fun i_21 n_23 s nx_20 k_19 =>
  bif decide ((s2_2.length:Int)≤(i_21:Int)) then
   some 1
  else
  idx s2_2 (i_21:Int) fun n_24 =>
  call (cmp_Compare_int n_23 n_24) fun r_25 =>
  bif !decide (r_25=0) then
   some r_25
  else
  nx_20 ()) () (fun _ =>
  k_14 ())
noncomputable def cmp_Or_int (vals_1:List Int):Option Int :=
 jp (S:=Unit) (fun _ =>
  some 0) fun k_9 =>
 forL vals_1 0 (fun i_14 n_16 s nx_13 k_12 =>
  bif !decide (n_16=0) then
   some n_16
  else
  nx_13 ()) () (fun _ =>
  k_9 ())
noncomputable def delta_compareRoutes (a_1:delta_route) (b_2:delta_route):Option Int :=
 call (cmp_Compare_int a_1.cost b_2.cost) fun r_3 =>
 call (cmp_Compare_int (a_1.list.length:Int) (b_2.list.length:Int)) fun r_4 =>
 call (slices_Compare_int_int a_1.list b_2.list) fun r_5 =>
 call (cmp_Or_int [r_3,r_4,r_5]) fun r_6 =>
 some r_6
noncomputable def delta_Best_1_i1 (v_1:Int) (r_2:delta_route) (o1_3:List delta_route):Option (List delta_route) :=
 chk (0≤v_1∧v_1 < (o1_3.length:Int)) <|
 chk ((!(!((o1_3.getD v_1.toNat (delta_route.mk 0 [] false false)).any)))=true→(0≤v_1∧v_1 < (o1_3.length:Int))) <|
 callG (!(!((o1_3.getD v_1.toNat (delta_route.mk 0 [] false false)).any))) (delta_compareRoutes r_2 (delta_route.mk ((o1_3.getD v_1.toNat (delta_route.mk 0 [] false false)).cost) ((o1_3.getD v_1.toNat (delta_route.mk 0 [] false false)).list) ((o1_3.getD v_1.toNat (delta_route.mk 0 [] false false)).done) ((o1_3.getD v_1.toNat (delta_route.mk 0 [] false false)).any))) 0 fun r_16 =>
 bif ((!((o1_3.getD v_1.toNat (delta_route.mk 0 [] false false)).any)) || (decide (r_16 < 0))) then
  chk (0≤v_1∧v_1 < (o1_3.length:Int)) <|
  some (List.set o1_3 v_1.toNat r_2)
 else
 some o1_3
noncomputable def delta_Best_2_1_i1 (v_1:Int) (cost_2:Int) (o0_0_3:Int) (o2_4:List delta_route) (o4_0_5:Int) (o4_1_6:List Int) (o4_2_7:Bool) (o4_3_8:Bool):Option (List delta_route) :=
 chk ((!decide (v_1=o0_0_3))=true→(0≤v_1∧v_1 < (o2_4.length:Int))) <|
 bif ((!decide (v_1=o0_0_3)) && (!((o2_4.getD v_1.toNat (delta_route.mk 0 [] false false)).done))) then
  chk (0≤(o4_1_6.length:Int)∧(o4_1_6.length:Int)≤(o4_1_6.length:Int)) <|
  chk (((List.take o4_1_6.length o4_1_6)++[v_1]).length≤274877906944∧0 < [v_1].length) <|
  call (delta_Best_1_i1 v_1 (delta_route.mk (IntKind.i64.wrap (o4_0_5+cost_2)) ((List.take o4_1_6.length o4_1_6)++[v_1]) false true) o2_4) fun r_33 =>
  some r_33
 else
 some o2_4
noncomputable def delta_Best_2_i1 (at_1:Int) (r_2:delta_route) (o1_3:List delta_route) (o3_0_4:List Int) (o4_0_5:List api_Way):Option (List delta_route) :=
 jp (S:=List delta_route) (fun o1_60 =>
  forL o4_0_5 0 (fun i_71 w_73 o1_66 nx_70 k_69 =>
   bif decide (w_73.From=at_1) then
    call (delta_Best_2_1_i1 w_73.To w_73.Cost at_1 o1_66 r_2.cost r_2.list r_2.done r_2.any) fun r_74 =>
    nx_70 r_74
   else
   nx_70 o1_66) o1_60 (fun o1_66 =>
   some o1_66)) fun k_61 =>
 forL o3_0_4 0 (fun i_84 n_86 o1_79 nx_83 k_82 =>
  call (delta_Best_2_1_i1 (i_84:Int) n_86 at_1 o1_79 r_2.cost r_2.list r_2.done r_2.any) fun r_87 =>
  nx_83 r_87) o1_3 (fun o1_79 =>
  k_61 o1_79)
noncomputable def delta_Best (l_1:List api_Way) (sizes_2:List Int) (from_3:Int) (to_4:Int):Option (List Int × Int × Int) :=
 call (delta_CheckWays l_1 sizes_2) fun r_5 =>
 bif !decide (r_5=0) then
  some ([],0,r_5)
 else
 letv (IntKind.i64.wrap ((sizes_2.length:Int) - 1)) fun v_6 =>
 call (delta_outside to_4 0 v_6) fun r_8 =>
 callG (!r_8) (delta_outside from_3 (-1) v_6) false fun r_9 =>
 bif (r_8 || r_9) then
  some ([],0,10)
 else
 chk (0≤(sizes_2.length:Int)∧(sizes_2.length:Int)≤(sizes_2.length:Int)∧(sizes_2.length:Int)≤274877906944) <|
 letv (List.replicate sizes_2.length (delta_route.mk 0 [] false false)) fun v_11 =>
 jp (S:=List delta_route) (fun o2_18 =>
  loopN Fuel (fun o2_160 nx_302 k_301 =>
   jp (S:=Int) (fun best_363 =>
    bif ((decide (best_363 < 0)) || (decide (best_363=to_4))) then
     chk (0≤to_4∧to_4 < (o2_160.length:Int)) <|
     letv ((o2_160.getD to_4.toNat (delta_route.mk 0 [] false false)).list) fun v_366 =>
     chk (0≤to_4∧to_4 < (o2_160.length:Int)) <|
     letv ((o2_160.getD to_4.toNat (delta_route.mk 0 [] false false)).cost) fun v_369 =>
     some (v_366,v_369,0)
    else
    chk (0≤best_363∧best_363 < (o2_160.length:Int)) <|
    letv (List.set o2_160 best_363.toNat (delta_route.mk ((o2_160.getD best_363.toNat (delta_route.mk 0 [] false false)).cost) ((o2_160.getD best_363.toNat (delta_route.mk 0 [] false false)).list) true ((o2_160.getD best_363.toNat (delta_route.mk 0 [] false false)).any))) fun v_373 =>
    chk (0≤best_363∧best_363 < (v_373.length:Int)) <|
    letv ((v_373.getD best_363.toNat (delta_route.mk 0 [] false false)).cost) fun v_377 =>
    letv ((v_373.getD best_363.toNat (delta_route.mk 0 [] false false)).list) fun v_379 =>
    call (delta_Best_2_i1 best_363 (delta_route.mk v_377 v_379 ((v_373.getD best_363.toNat (delta_route.mk 0 [] false false)).done) ((v_373.getD best_363.toNat (delta_route.mk 0 [] false false)).any)) v_373 sizes_2 l_1) fun r_381 =>
    nx_302 r_381) fun k_364 =>
   forC o2_160.length 0 (fun i_414 best_383 nx_413 k_412 =>
    letv ((o2_160.getD i_414 (delta_route.mk 0 [] false false)).cost) fun v_417 =>
    letv ((o2_160.getD i_414 (delta_route.mk 0 [] false false)).list) fun v_419 =>
    chk (((((o2_160.getD i_414 (delta_route.mk 0 [] false false)).any) && (!((o2_160.getD i_414 (delta_route.mk 0 [] false false)).done))) && (!(decide (best_383 < 0))))=true→(0≤best_383∧best_383 < (o2_160.length:Int))) <|
    letv ((o2_160.getD best_383.toNat (delta_route.mk 0 [] false false)).cost) fun v_423 =>
    letv ((o2_160.getD best_383.toNat (delta_route.mk 0 [] false false)).list) fun v_425 =>
    callG ((((o2_160.getD i_414 (delta_route.mk 0 [] false false)).any) && (!((o2_160.getD i_414 (delta_route.mk 0 [] false false)).done))) && (!(decide (best_383 < 0)))) (delta_compareRoutes (delta_route.mk v_417 v_419 ((o2_160.getD i_414 (delta_route.mk 0 [] false false)).done) ((o2_160.getD i_414 (delta_route.mk 0 [] false false)).any)) (delta_route.mk v_423 v_425 ((o2_160.getD best_383.toNat (delta_route.mk 0 [] false false)).done) ((o2_160.getD best_383.toNat (delta_route.mk 0 [] false false)).any))) 0 fun r_427 =>
    bif ((((o2_160.getD i_414 (delta_route.mk 0 [] false false)).any) && (!((o2_160.getD i_414 (delta_route.mk 0 [] false false)).done))) && ((decide (best_383 < 0)) || (decide (r_427 < 0)))) then
     nx_413 (i_414:Int)
    else
    nx_413 best_383) (-1) (fun best_383 =>
    k_364 best_383)) o2_18 (fun o2_160 =>
   none)) fun k_19 =>
 bif decide (from_3 < 0) then
  call (delta_Best_2_i1 (-1) (delta_route.mk 0 [] false false) v_11 sizes_2 l_1) fun r_443 =>
  k_19 r_443
 else
 chk (0≤from_3∧from_3 < (v_11.length:Int)) <|
 letv (List.set v_11 from_3.toNat (delta_route.mk ((v_11.getD from_3.toNat (delta_route.mk 0 [] false false)).cost) ((v_11.getD from_3.toNat (delta_route.mk 0 [] false false)).list) ((v_11.getD from_3.toNat (delta_route.mk 0 [] false false)).done) true)) fun v_445 =>
 k_19 v_445
noncomputable def strings_Builder_copyCheck_i1 (o1_1:Str):Option Unit :=
 some ()
noncomputable def strings_Builder_copyCheck_i2 (o1_1:Str):Option Unit :=
 some ()
noncomputable def strings_Builder_copyCheck_np (o0:Str):Option Unit:=some ()
noncomputable def strings_Builder_WriteString_i1 (s_1:Str) (o1_2:Str):Option (Int × Str) :=
 call (strings_Builder_copyCheck_np o1_2) fun r_5 =>
 chk ((o1_2++s_1).length≤274877906944) <|
 some ((s_1.length:Int),o1_2++s_1)
noncomputable def strings_Builder_String_i1 (o1_1:Str):Option Str :=
 some o1_1
noncomputable def delta_Apply (a_1:Str) (d_2:api_Delta):Option (Str × Int) :=
 call (delta_Check d_2) fun r_3 =>
 bif !decide (r_3=0) then
  some ([],r_3)
 else
 callG (!(!decide ((a_1.length:Int)=d_2.Old))) (disk_SumOf a_1) [] fun r_4 =>
 bif ((!decide ((a_1.length:Int)=d_2.Old)) || (!decide (r_4=d_2.OldSum))) then
  some ([],14)
 else
 jp (S:=Str) (fun o2_24 =>
  call (strings_Builder_String_i1 o2_24) fun r_27 =>
  call (disk_SumOf r_27) fun r_28 =>
  bif !decide (r_28=d_2.NewSum) then
   some ([],14)
  else
  call (strings_Builder_String_i1 o2_24) fun r_29 =>
  some (r_29,0)) fun k_25 =>
 forL d_2.Pieces 0 (fun i_43 p_45 o2_36 nx_42 k_41 =>
  bif !decide (p_45.Data=[]) then
   call (strings_Builder_WriteString_i1 p_45.Data o2_36) fun r_46 =>
   nx_42 r_46.2
  else
  chk (0≤p_45.At∧p_45.At≤(a_1.length:Int)∧0≤IntKind.i64.wrap (p_45.At+p_45.Long)∧IntKind.i64.wrap (p_45.At+p_45.Long)≤(a_1.length:Int)∧p_45.At≤IntKind.i64.wrap (p_45.At+p_45.Long)) <|
  call (strings_Builder_WriteString_i1 (List.take ((IntKind.i64.wrap (p_45.At+p_45.Long)).toNat - p_45.At.toNat) (List.drop p_45.At.toNat a_1)) o2_36) fun r_48 =>
  nx_42 r_48.2) [] (fun o2_36 =>
  k_25 o2_36)
noncomputable def Top_TopDeltas (versions_1:List Str) (from_2:Int) (to_3:Int):Option Bool :=
 call (Top_landed) fun r_4 =>
 bif !r_4 then
  some false
 else
 chk (0≤min (versions_1.length:Int) 5∧min (versions_1.length:Int) 5≤(versions_1.length:Int)) <|
 call (slices_Clone_string_string_new (List.take ((min (versions_1.length:Int) 5).toNat) versions_1)) fun r_6 =>
 bif decide ((r_6.length:Int)=0) then
  some true
 else
 chk (¬ (r_6.length:Int)=0) <|
 chk (¬ (r_6.length:Int)=0) <|
 chk (¬ (r_6.length:Int)=0) <|
 chk (¬ (r_6.length:Int)=0) <|
 jp (S:=List Str × List Int) (fun s=>match s with
  | (o0_41,o2_42) =>
   jp (S:=(List (Arr2_Int × api_Delta)) × List api_Way) (fun s=>match s with
    | (m1_246,o3_247) =>
     call (delta_Best o3_247 o2_42 (Int.tmod (IntKind.i64.wrap ((Int.tmod from_2 (r_6.length:Int))+(r_6.length:Int))) (r_6.length:Int)) (Int.tmod (IntKind.i64.wrap ((Int.tmod to_3 (r_6.length:Int))+(r_6.length:Int))) (r_6.length:Int))) fun r_249 =>
     bif !decide (r_249.2.2=0) then
      some false
     else
     chk (0≤Int.tmod (IntKind.i64.wrap ((Int.tmod from_2 (r_6.length:Int))+(r_6.length:Int))) (r_6.length:Int)∧Int.tmod (IntKind.i64.wrap ((Int.tmod from_2 (r_6.length:Int))+(r_6.length:Int))) (r_6.length:Int) < (o0_41.length:Int)) <|
     jp (S:=Str × Int × Int) (fun s=>match s with
      | (text_280,at_281,sum_282) =>
       chk (0≤Int.tmod (IntKind.i64.wrap ((Int.tmod to_3 (r_6.length:Int))+(r_6.length:Int))) (r_6.length:Int)∧Int.tmod (IntKind.i64.wrap ((Int.tmod to_3 (r_6.length:Int))+(r_6.length:Int))) (r_6.length:Int) < (o0_41.length:Int)) <|
       some (((decide (text_280=(o0_41.getD ((Int.tmod (IntKind.i64.wrap ((Int.tmod to_3 (r_6.length:Int))+(r_6.length:Int))) (r_6.length:Int)).toNat) []))) && (decide (at_281=(Int.tmod (IntKind.i64.wrap ((Int.tmod to_3 (r_6.length:Int))+(r_6.length:Int))) (r_6.length:Int))))) && (decide (sum_282=r_249.2.1)))) fun k_283 =>
     forL r_249.1 0 (fun i_302 n_304 s nx_301 k_300 =>
      match s with
      | (text_286,at_287,sum_288) =>
       letv (alook m1_246 (Arr2_Int.mk at_287 n_304)) fun q_305 =>
       call (delta_Cost (q_305.getD (api_Delta.mk 0 0 [] [] []))) fun r_307 =>
       bif !decide (r_307.2=0) then
        some false
       else
       idx o2_42 n_304 fun n_308 =>
       bif decide (r_307.1≤n_308) then
        letv (alook m1_246 (Arr2_Int.mk at_287 n_304)) fun q_309 =>
        call (delta_Apply text_286 (q_309.getD (api_Delta.mk 0 0 [] [] []))) fun r_311 =>
        bif !decide (r_311.2=0) then
         some false
        else
        nx_301 (r_311.1,n_304,IntKind.i64.wrap (sum_288+r_307.1))
       else
       chk (0≤n_304∧n_304 < (o0_41.length:Int)) <|
       nx_301 ((o0_41.getD n_304.toNat []),n_304,IntKind.i64.wrap (sum_288+n_308))) ((o0_41.getD ((Int.tmod (IntKind.i64.wrap ((Int.tmod from_2 (r_6.length:Int))+(r_6.length:Int))) (r_6.length:Int)).toNat) []),Int.tmod (IntKind.i64.wrap ((Int.tmod from_2 (r_6.length:Int))+(r_6.length:Int))) (r_6.length:Int),0) (fun s=>match s with
      | (text_286,at_287,sum_288) =>
       k_283 (text_286,at_287,sum_288))) fun k_248 =>
   forC o0_41.length 0 (fun i_450 s nx_449 k_448 =>
    match s with
    | (m1_381,o3_382) =>
     jp (S:=(List (Arr2_Int × api_Delta)) × List api_Way) (fun s=>match s with
      | (m1_483,o3_484) =>
       nx_449 (m1_483,o3_484)) fun k_485 =>
     forC o0_41.length 0 (fun i_507 s nx_506 k_505 =>
      match s with
      | (m1_496,o3_497) =>
       bif decide ((i_450:Int)=(i_507:Int)) then
        nx_506 (m1_496,o3_497)
       else
       call (delta_Make (o0_41.getD i_450 []) (o0_41.getD i_507 [])) fun r_511 =>
       call (delta_Cost r_511.1) fun r_512 =>
       bif ((!decide (r_511.2=0)) || (!decide (r_512.2=0))) then
        some false
       else
       chk ((aset m1_496 (Arr2_Int.mk (i_450:Int) (i_507:Int)) r_511.1).length≤274877906944) <|
       chk ((o3_497++[(api_Way.mk (i_450:Int) (i_507:Int) r_512.1)]).length≤274877906944) <|
       nx_506 (aset m1_496 (Arr2_Int.mk (i_450:Int) (i_507:Int)) r_511.1,o3_497++[(api_Way.mk (i_450:Int) (i_507:Int) r_512.1)])) (m1_381,o3_382) (fun s=>match s with
      | (m1_496,o3_497) =>
       k_485 (m1_496,o3_497))) ([],[]) (fun s=>match s with
    | (m1_381,o3_382) =>
     k_248 (m1_381,o3_382))) fun k_43 =>
 loopN Fuel (fun s nx_537 k_536 =>
  match s with
  | (t59_525,o0_526,o2_527) =>
   bif decide (t59_525 < (r_6.length:Int)) then
    chk (0≤t59_525∧t59_525 < (o0_526.length:Int)) <|
    chk (0≤t59_525∧t59_525 < (o0_526.length:Int)) <|
    chk (0≤min ((o0_526.getD t59_525.toNat []).length:Int) 400∧min ((o0_526.getD t59_525.toNat []).length:Int) 400≤((o0_526.getD t59_525.toNat []).length:Int)) <|
    chk (0≤t59_525∧t59_525 < (o0_526.length:Int)) <|
    chk (0≤t59_525∧t59_525 < ((List.set o0_526 t59_525.toNat (List.take ((min ((o0_526.getD t59_525.toNat []).length:Int) 400).toNat) (o0_526.getD t59_525.toNat []))).length:Int)) <|
    chk ((o2_527++[IntKind.i64.wrap ((((List.set o0_526 t59_525.toNat (List.take ((min ((o0_526.getD t59_525.toNat []).length:Int) 400).toNat) (o0_526.getD t59_525.toNat []))).getD t59_525.toNat []).length:Int)+40)]).length≤274877906944) <|
    nx_537 (IntKind.i64.wrap (t59_525+1),List.set o0_526 t59_525.toNat (List.take ((min ((o0_526.getD t59_525.toNat []).length:Int) 400).toNat) (o0_526.getD t59_525.toNat [])),o2_527++[IntKind.i64.wrap ((((List.set o0_526 t59_525.toNat (List.take ((min ((o0_526.getD t59_525.toNat []).length:Int) 400).toNat) (o0_526.getD t59_525.toNat []))).getD t59_525.toNat []).length:Int)+40)])
   else
   k_536 (t59_525,o0_526,o2_527)) (0,r_6,[]) (fun s=>match s with
  | (t59_525,o0_526,o2_527) =>
   k_43 (o0_526,o2_527))
theorem set_ecS (l:List Str) (i:Nat) (x:Str):List.set (List.map ecS l) i [Dt.s x]=List.map ecS (List.set l i x):=by rw [List.map_set]; rfl
end Go.Md
