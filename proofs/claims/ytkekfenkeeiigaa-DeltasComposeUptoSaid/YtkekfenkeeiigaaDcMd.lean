/- Models of the functions that the statement reaches: what each computes, in plain words. -/
import Derived.Test.YtkekfenkeeiigaaVc3
set_option linter.unusedVariables false
namespace Go.Md
open Go.Vc
instance theTabs:Tabs:=⟨fun b=>none,fun b=>false,fun e=>bif Nat.beq e 69 then some (3,82,2) else none⟩
theorem nest_5:Tabs.nest 5=none:=rfl
attribute [go_sem] nest_5
theorem nest_9:Tabs.nest 9=none:=rfl
attribute [go_sem] nest_9
theorem nest_27:Tabs.nest 27=none:=rfl
attribute [go_sem] nest_27
theorem nest_42:Tabs.nest 42=none:=rfl
attribute [go_sem] nest_42
theorem nest_54:Tabs.nest 54=none:=rfl
attribute [go_sem] nest_54
theorem nest_69:Tabs.nest 69=some (3,82,2):=rfl
attribute [go_sem] nest_69
theorem nest_82:Tabs.nest 82=none:=rfl
attribute [go_sem] nest_82
def ecB (b:Bool):List Dt:=[.b b]
def ecS (x:Str):List Dt:=[.s x]
def ecI_i8 (n:Int):List Dt:=[.i .i8 n]
def ecI_i16 (n:Int):List Dt:=[.i .i16 n]
def ecI_i32 (n:Int):List Dt:=[.i .i32 n]
def ecI_i64 (n:Int):List Dt:=[.i .i64 n]
def ecI_u8 (n:Int):List Dt:=[.i .u8 n]
def ecI_u16 (n:Int):List Dt:=[.i .u16 n]
def ecI_u32 (n:Int):List Dt:=[.i .u32 n]
def ecI_u64 (n:Int):List Dt:=[.i .u64 n]
theorem dec1_s:∀ r,hasR r [.s]→∃ x,r=ecS x:=by
 intro r h
 rcases r with _ | ⟨d,_ | _⟩ <;> simp only [hasR,and_false,and_true] at h
 cases d <;> simp only [hasT] at h
 exact ⟨_,rfl⟩
theorem dec1_i64:∀ r,hasR r [.i .i64]→∃ x,r=ecI_i64 x:=by
 intro r h
 rcases r with _ | ⟨d,_ | _⟩ <;> simp only [hasR,and_false,and_true] at h
 cases d <;> simp only [hasT] at h
 subst h
 exact ⟨_,rfl⟩
theorem dec1_u8:∀ r,hasR r [.i .u8]→∃ x,r=ecI_u8 x:=by
 intro r h
 rcases r with _ | ⟨d,_ | _⟩ <;> simp only [hasR,and_false,and_true] at h
 cases d <;> simp only [hasT] at h
 subst h
 exact ⟨_,rfl⟩
structure api_Piece where
 At:Int
 Long:Int
 Data:Str
def enc_api_Piece (x:api_Piece):List Dt:=[.i .i64 x.At,.i .i64 x.Long,.s x.Data]
def sh_api_Piece:List Sh:=[.i .i64,.i .i64,.s]
theorem dec_api_Piece:∀ r,hasR r sh_api_Piece→∃ x:api_Piece,r=enc_api_Piece x:=by
 intro r h
 unfold sh_api_Piece at h
 rcases r with _ | ⟨d0,_ | ⟨d1,_ | ⟨d2,_ | _⟩⟩⟩ <;> simp only [hasR,and_false,and_true] at h
 obtain ⟨h0,h1,h2⟩:=h
 cases d0 <;> simp only [hasT] at h0
 subst h0
 cases d1 <;> simp only [hasT] at h1
 subst h1
 cases d2 <;> simp only [hasT] at h2
 exact ⟨⟨_,_,_⟩,rfl⟩
structure api_Delta where
 Old:Int
 New:Int
 OldSum:Str
 NewSum:Str
 Pieces:List api_Piece
def enc_api_Delta (x:api_Delta):List Dt:=[.i .i64 x.Old,.i .i64 x.New,.s x.OldSum,.s x.NewSum,.l (List.map enc_api_Piece x.Pieces)]
def sh_api_Delta:List Sh:=[.i .i64,.i .i64,.s,.s,.l sh_api_Piece]
theorem dec_api_Delta:∀ r,hasR r sh_api_Delta→∃ x:api_Delta,r=enc_api_Delta x:=by
 intro r h
 unfold sh_api_Delta at h
 rcases r with _ | ⟨d0,_ | ⟨d1,_ | ⟨d2,_ | ⟨d3,_ | ⟨d4,_ | _⟩⟩⟩⟩⟩ <;> simp only [hasR,and_false,and_true] at h
 obtain ⟨h0,h1,h2,h3,h4⟩:=h
 cases d0 <;> simp only [hasT] at h0
 subst h0
 cases d1 <;> simp only [hasT] at h1
 subst h1
 cases d2 <;> simp only [hasT] at h2
 cases d3 <;> simp only [hasT] at h3
 cases d4 <;> simp only [hasT] at h4
 obtain ⟨l4,rfl⟩:=hasRs_map dec_api_Piece h4
 exact ⟨⟨_,_,_,_,_⟩,rfl⟩
structure delta_edge where
 c:Int
 to:Int
def enc_delta_edge (x:delta_edge):List Dt:=[.i .u8 x.c,.i .i64 x.to]
def sh_delta_edge:List Sh:=[.i .u8,.i .i64]
theorem dec_delta_edge:∀ r,hasR r sh_delta_edge→∃ x:delta_edge,r=enc_delta_edge x:=by
 intro r h
 unfold sh_delta_edge at h
 rcases r with _ | ⟨d0,_ | ⟨d1,_ | _⟩⟩ <;> simp only [hasR,and_false,and_true] at h
 obtain ⟨h0,h1⟩:=h
 cases d0 <;> simp only [hasT] at h0
 subst h0
 cases d1 <;> simp only [hasT] at h1
 subst h1
 exact ⟨⟨_,_⟩,rfl⟩
structure delta_state where
 long:Int
 end_:Int
 link:Int
 edges:List delta_edge
def enc_delta_state (x:delta_state):List Dt:=[.i .i64 x.long,.i .i64 x.end_,.i .i64 x.link,.l (List.map enc_delta_edge x.edges)]
def sh_delta_state:List Sh:=[.i .i64,.i .i64,.i .i64,.l sh_delta_edge]
theorem dec_delta_state:∀ r,hasR r sh_delta_state→∃ x:delta_state,r=enc_delta_state x:=by
 intro r h
 unfold sh_delta_state at h
 rcases r with _ | ⟨d0,_ | ⟨d1,_ | ⟨d2,_ | ⟨d3,_ | _⟩⟩⟩⟩ <;> simp only [hasR,and_false,and_true] at h
 obtain ⟨h0,h1,h2,h3⟩:=h
 cases d0 <;> simp only [hasT] at h0
 subst h0
 cases d1 <;> simp only [hasT] at h1
 subst h1
 cases d2 <;> simp only [hasT] at h2
 subst h2
 cases d3 <;> simp only [hasT] at h3
 obtain ⟨l3,rfl⟩:=hasRs_map dec_delta_edge h3
 exact ⟨⟨_,_,_,_⟩,rfl⟩
structure outref1_origin where
 at_:Int
 data:Str
def enc_outref1_origin (x:outref1_origin):List Dt:=[.i .i64 x.at_,.s x.data]
def sh_outref1_origin:List Sh:=[.i .i64,.s]
theorem dec_outref1_origin:∀ r,hasR r sh_outref1_origin→∃ x:outref1_origin,r=enc_outref1_origin x:=by
 intro r h
 unfold sh_outref1_origin at h
 rcases r with _ | ⟨d0,_ | ⟨d1,_ | _⟩⟩ <;> simp only [hasR,and_false,and_true] at h
 obtain ⟨h0,h1⟩:=h
 cases d0 <;> simp only [hasT] at h0
 subst h0
 cases d1 <;> simp only [hasT] at h1
 exact ⟨⟨_,_⟩,rfl⟩
def eN_enc_delta_state (x:delta_state):List Dt:=[.i .i64 x.long,.i .i64 x.end_,.i .i64 x.link,.b false]
def iN_enc_delta_state (x:delta_state):List (List Dt):=List.map enc_delta_edge x.edges
theorem mrg_69 (l:List delta_state):mrg 3 (List.map eN_enc_delta_state l) (List.map iN_enc_delta_state l)=List.map enc_delta_state l:=mrg_map (fun _=>rfl) l
theorem sz_eN_enc_delta_state:∀ l,szOk (4) (List.map eN_enc_delta_state l)=True:=fun l=>eq_true (by intro r hr; obtain ⟨x,_,rfl⟩:=List.mem_map.1 hr; rfl)
attribute [go_sem] mrg_69 sz_eN_enc_delta_state eN_enc_delta_state iN_enc_delta_state
theorem sz_ecB:∀ l,szOk (1) (List.map ecB l)=True:=fun l=>eq_true (by intro r hr; obtain ⟨x,_,rfl⟩:=List.mem_map.1 hr; rfl)
theorem sz_ecS:∀ l,szOk (1) (List.map ecS l)=True:=fun l=>eq_true (by intro r hr; obtain ⟨x,_,rfl⟩:=List.mem_map.1 hr; rfl)
theorem sz_ecI_i64:∀ l,szOk (1) (List.map ecI_i64 l)=True:=fun l=>eq_true (by intro r hr; obtain ⟨x,_,rfl⟩:=List.mem_map.1 hr; rfl)
theorem sz_ecI_u8:∀ l,szOk (1) (List.map ecI_u8 l)=True:=fun l=>eq_true (by intro r hr; obtain ⟨x,_,rfl⟩:=List.mem_map.1 hr; rfl)
theorem sz_ecI_u64:∀ l,szOk (1) (List.map ecI_u64 l)=True:=fun l=>eq_true (by intro r hr; obtain ⟨x,_,rfl⟩:=List.mem_map.1 hr; rfl)
theorem sz_ecI_i32:∀ l,szOk (1) (List.map ecI_i32 l)=True:=fun l=>eq_true (by intro r hr; obtain ⟨x,_,rfl⟩:=List.mem_map.1 hr; rfl)
theorem sz_ecI_u32:∀ l,szOk (1) (List.map ecI_u32 l)=True:=fun l=>eq_true (by intro r hr; obtain ⟨x,_,rfl⟩:=List.mem_map.1 hr; rfl)
theorem sz_enc_api_Piece:∀ l,szOk (3) (List.map enc_api_Piece l)=True:=fun l=>eq_true (by intro r hr; obtain ⟨x,_,rfl⟩:=List.mem_map.1 hr; rfl)
theorem sz_enc_api_Delta:∀ l,szOk (5) (List.map enc_api_Delta l)=True:=fun l=>eq_true (by intro r hr; obtain ⟨x,_,rfl⟩:=List.mem_map.1 hr; rfl)
theorem sz_enc_delta_edge:∀ l,szOk (2) (List.map enc_delta_edge l)=True:=fun l=>eq_true (by intro r hr; obtain ⟨x,_,rfl⟩:=List.mem_map.1 hr; rfl)
theorem sz_enc_delta_state:∀ l,szOk (4) (List.map enc_delta_state l)=True:=fun l=>eq_true (by intro r hr; obtain ⟨x,_,rfl⟩:=List.mem_map.1 hr; rfl)
theorem sz_enc_outref1_origin:∀ l,szOk (2) (List.map enc_outref1_origin l)=True:=fun l=>eq_true (by intro r hr; obtain ⟨x,_,rfl⟩:=List.mem_map.1 hr; rfl)
theorem allB_enc:∀ l:List Int,allB (List.map ecI_u8 l)=True
 | []=>by simp only [List.map_nil,allB]
 | _::l=>by simp only [List.map_cons,ecI_u8,allB,allB_enc l,and_self]
theorem unB_enc:∀ l:List Int,unB (List.map ecI_u8 l)=Go.Vc.strOf l
 | []=>by simp only [List.map_nil,unB,Go.Vc.strOf]
 | _::l=>by simp only [List.map_cons,ecI_u8,unB,unB_enc l,Go.Vc.strOf]
theorem bR_enc (l:Str):bR l=List.map ecI_u8 (bytesOf l):=by simp [bR,bytesOf,ecI_u8]
attribute [go_sem] allB_enc unB_enc bR_enc
attribute [go_sem] ecB ecS ecI_i64 ecI_u8 ecI_u64 ecI_i32 ecI_u32 enc_api_Piece enc_api_Delta enc_delta_edge enc_delta_state enc_outref1_origin sz_ecB sz_ecS sz_ecI_i64 sz_ecI_u8 sz_ecI_u64 sz_ecI_i32 sz_ecI_u32 sz_enc_api_Piece sz_enc_api_Delta sz_enc_delta_edge sz_enc_delta_state sz_enc_outref1_origin
noncomputable def ver_isSmall (c_1:Int):Option Bool :=
 some ((decide (97≤c_1)) && (decide (c_1≤122)))
noncomputable def ver_isDigit (c_1:Int):Option Bool :=
 some ((decide (48≤c_1)) && (decide (c_1≤57)))
noncomputable def ver_IsName_1 (c_1:Int):Option Bool :=
 call (ver_isSmall c_1) fun r_2 =>
 callG (!r_2) (ver_isDigit c_1) false fun r_3 =>
 some (((r_2 || r_3) || (decide (c_1=45))) || (decide (c_1=46)))
noncomputable def ver_each_i1 (s_1:Str) (most_2:Int):Option Bool :=
 jp (S:=Unit) (fun _ =>
  some ((!decide (s_1=[])) && (decide ((s_1.length:Int)≤most_2)))) fun k_12 =>
 forL s_1 0 (fun i_18 c_20 s nx_17 k_16 =>
  call (ver_IsName_1 (c_20.toNat:Int)) fun r_21 =>
  bif !r_21 then
   some false
  else
  nx_17 ()) () (fun _ =>
  k_12 ())
noncomputable def ver_IsName (s_1:Str):Option Bool :=
 call (ver_each_i1 s_1 40) fun r_2 =>
 chk (r_2=true→(0≤0∧0 < (s_1.length:Int))) <|
 callG r_2 (ver_isSmall ((s_1.getD 0 0).toNat:Int)) false fun r_4 =>
 some (r_2 && r_4)
noncomputable def Law_landed :Option Bool :=
 call (ver_IsName ([97]:Str)) fun r_1 =>
 some r_1
noncomputable def Law_short (s_1:Str):Option Str :=
 chk (0≤min (s_1.length:Int) 600∧min (s_1.length:Int) 600≤(s_1.length:Int)) <|
 some (List.take ((min (s_1.length:Int) 600).toNat) s_1)
noncomputable def disk_SumOf (text_1:Str):Option Str :=
 jp (S:=Int) (fun n_10 =>
  jp (S:=List Int) (fun o0_26 =>
   some (Go.Vc.strOf o0_26)) fun k_27 =>
  loopN Fuel (fun s nx_38 k_37 =>
   match s with
   | (t23_32,o0_33) =>
    bif decide (t23_32 < ((List.replicate 16 0).length:Int)) then
     chk (0≤(IntKind.i64.wrap (60 - (IntKind.i64.wrap (4 * t23_32))))) <|
     idxS ([48,49,50,51,52,53,54,55,56,57,97,98,99,100,101,102]:Str) (bitsI .and .u64 (Int.fdiv n_10 (2 ^ (shI .u64 (IntKind.i64.wrap (60 - (IntKind.i64.wrap (4 * t23_32))))))) 15) fun c_40 =>
     chk (0≤t23_32∧t23_32 < (o0_33.length:Int)) <|
     nx_38 (IntKind.i64.wrap (t23_32+1),List.set o0_33 t23_32.toNat c_40)
    else
    k_37 (t23_32,o0_33)) (0,List.replicate 16 0) (fun s=>match s with
   | (t23_32,o0_33) =>
    k_27 o0_33)) fun k_11 =>
 forL text_1 0 (fun i_47 c_49 n_42 nx_46 k_45 =>
  nx_46 (IntKind.u64.wrap ((bitsI .xor .u64 n_42 (IntKind.u64.wrap (c_49.toNat:Int))) * 1099511628211))) 14695981039346656037 (fun n_42 =>
  k_11 n_42)
noncomputable def delta_state_next_i1 (s_1:delta_state) (c_2:Int):Option Int :=
 jp (S:=Unit) (fun _ =>
  some (-1)) fun k_10 =>
 forL s_1.edges 0 (fun i_15 e_17 s nx_14 k_13 =>
  bif decide (e_17.c=c_2) then
   some e_17.to
  else
  nx_14 ()) () (fun _ =>
  k_10 ())
noncomputable def delta_state_set_i1 (s_1:Nat) (c_2:Int) (to_3:Int) (o0_4:List delta_state):Option (List delta_state) :=
 chk (s_1 < o0_4.length) <|
 jp (S:=Unit) (fun _ =>
  chk ((((o0_4.getD s_1 (delta_state.mk 0 0 0 [])).edges)++[(delta_edge.mk c_2 to_3)]).length≤274877906944) <|
  letv (List.set o0_4 s_1 (delta_state.mk ((o0_4.getD s_1 (delta_state.mk 0 0 0 [])).long) ((o0_4.getD s_1 (delta_state.mk 0 0 0 [])).end_) ((o0_4.getD s_1 (delta_state.mk 0 0 0 [])).link) (((o0_4.getD s_1 (delta_state.mk 0 0 0 [])).edges)++[(delta_edge.mk c_2 to_3)]))) fun v_97 =>
  some v_97) fun k_94 =>
 loopN Fuel (fun t12_103 nx_116 k_115 =>
  bif decide (t12_103 < (((o0_4.getD s_1 (delta_state.mk 0 0 0 [])).edges).length:Int)) then
   chk (0≤t12_103∧t12_103 < (((o0_4.getD s_1 (delta_state.mk 0 0 0 [])).edges).length:Int)) <|
   bif decide (((((o0_4.getD s_1 (delta_state.mk 0 0 0 [])).edges).getD t12_103.toNat (delta_edge.mk 0 0)).c)=c_2) then
    chk (0≤t12_103∧t12_103 < (((o0_4.getD s_1 (delta_state.mk 0 0 0 [])).edges).length:Int)) <|
    letv (List.set o0_4 s_1 (delta_state.mk ((o0_4.getD s_1 (delta_state.mk 0 0 0 [])).long) ((o0_4.getD s_1 (delta_state.mk 0 0 0 [])).end_) ((o0_4.getD s_1 (delta_state.mk 0 0 0 [])).link) (List.set ((o0_4.getD s_1 (delta_state.mk 0 0 0 [])).edges) t12_103.toNat (delta_edge.mk ((((o0_4.getD s_1 (delta_state.mk 0 0 0 [])).edges).getD t12_103.toNat (delta_edge.mk 0 0)).c) to_3)))) fun v_123 =>
    some v_123
   else
   nx_116 (IntKind.i64.wrap (t12_103+1))
  else
  k_115 t12_103) 0 (fun t12_103 =>
  k_94 ())
noncomputable def delta_automaton_add_i1 (c_1:Int) (end_2:Int) (o0_1_3:Int) (o1_4:List delta_state):Option (Int × List delta_state) :=
 chk ((o1_4++[(delta_state.mk end_2 end_2 0 [])]).length≤274877906944) <|
 letv (o1_4++[(delta_state.mk end_2 end_2 0 [])]) fun v_212 =>
 jp (S:=Int × List delta_state) (fun s=>match s with
  | (p_255,o1_256) =>
   bif decide (p_255 < 0) then
    some ((o1_4.length:Int),o1_256)
   else
   chk (0≤p_255∧p_255 < (o1_256.length:Int)) <|
   call (delta_state_next_i1 (o1_256.getD p_255.toNat (delta_state.mk 0 0 0 [])) c_1) fun r_259 =>
   chk (0≤r_259∧r_259 < (o1_256.length:Int)) <|
   chk (0≤p_255∧p_255 < (o1_256.length:Int)) <|
   bif decide (((o1_256.getD r_259.toNat (delta_state.mk 0 0 0 [])).long)=(IntKind.i64.wrap (((o1_256.getD p_255.toNat (delta_state.mk 0 0 0 [])).long)+1))) then
    chk (0≤(o1_4.length:Int)∧(o1_4.length:Int) < (o1_256.length:Int)) <|
    letv (List.set o1_256 o1_4.length (delta_state.mk ((o1_256.getD o1_4.length (delta_state.mk 0 0 0 [])).long) ((o1_256.getD o1_4.length (delta_state.mk 0 0 0 [])).end_) r_259 ((o1_256.getD o1_4.length (delta_state.mk 0 0 0 [])).edges))) fun v_268 =>
    some ((o1_4.length:Int),v_268)
   else
   chk (0≤r_259∧r_259 < (o1_256.length:Int)) <|
   chk (0≤p_255∧p_255 < (o1_256.length:Int)) <|
   chk (([]++((o1_256.getD r_259.toNat (delta_state.mk 0 0 0 [])).edges)).length≤274877906944) <|
   chk ((o1_256++[(delta_state.mk (IntKind.i64.wrap (((o1_256.getD p_255.toNat (delta_state.mk 0 0 0 [])).long)+1)) ((o1_256.getD r_259.toNat (delta_state.mk 0 0 0 [])).end_) ((o1_256.getD r_259.toNat (delta_state.mk 0 0 0 [])).link) ([]++((o1_256.getD r_259.toNat (delta_state.mk 0 0 0 [])).edges)))]).length≤274877906944) <|
   letv (o1_256++[(delta_state.mk (IntKind.i64.wrap (((o1_256.getD p_255.toNat (delta_state.mk 0 0 0 [])).long)+1)) ((o1_256.getD r_259.toNat (delta_state.mk 0 0 0 [])).end_) ((o1_256.getD r_259.toNat (delta_state.mk 0 0 0 [])).link) ([]++((o1_256.getD r_259.toNat (delta_state.mk 0 0 0 [])).edges)))]) fun v_276 =>
   jp (S:=List delta_state) (fun o1_321 =>
    chk (0≤r_259∧r_259 < (o1_321.length:Int)) <|
    letv (List.set o1_321 r_259.toNat (delta_state.mk ((o1_321.getD r_259.toNat (delta_state.mk 0 0 0 [])).long) ((o1_321.getD r_259.toNat (delta_state.mk 0 0 0 [])).end_) (o1_256.length:Int) ((o1_321.getD r_259.toNat (delta_state.mk 0 0 0 [])).edges))) fun v_326 =>
    chk (0≤(o1_4.length:Int)∧(o1_4.length:Int) < (v_326.length:Int)) <|
    letv (List.set v_326 o1_4.length (delta_state.mk ((v_326.getD o1_4.length (delta_state.mk 0 0 0 [])).long) ((v_326.getD o1_4.length (delta_state.mk 0 0 0 [])).end_) (o1_256.length:Int) ((v_326.getD o1_4.length (delta_state.mk 0 0 0 [])).edges))) fun v_331 =>
    some ((o1_4.length:Int),v_331)) fun k_322 =>
   loopN Fuel (fun s nx_363 k_362 =>
    match s with
    | (p_348,o1_349) =>
     chk ((decide (0≤p_348))=true→(0≤p_348∧p_348 < (o1_349.length:Int))) <|
     callG (decide (0≤p_348)) (delta_state_next_i1 (o1_349.getD p_348.toNat (delta_state.mk 0 0 0 [])) c_1) 0 fun r_365 =>
     bif ((decide (0≤p_348)) && (decide (r_365=r_259))) then
      chk (0≤p_348∧p_348 < (o1_349.length:Int)) <|
      call (delta_state_set_i1 p_348.toNat c_1 (o1_256.length:Int) o1_349) fun r_373 =>
      chk (0≤p_348∧p_348 < (r_373.length:Int)) <|
      nx_363 ((r_373.getD p_348.toNat (delta_state.mk 0 0 0 [])).link,r_373)
     else
     k_362 (p_348,o1_349)) (p_255,v_276) (fun s=>match s with
    | (p_348,o1_349) =>
     k_322 o1_349)) fun k_257 =>
 loopN Fuel (fun s nx_404 k_403 =>
  match s with
  | (p_389,o1_390) =>
   chk ((decide (0≤p_389))=true→(0≤p_389∧p_389 < (o1_390.length:Int))) <|
   callG (decide (0≤p_389)) (delta_state_next_i1 (o1_390.getD p_389.toNat (delta_state.mk 0 0 0 [])) c_1) 0 fun r_406 =>
   bif ((decide (0≤p_389)) && (decide (r_406 < 0))) then
    chk (0≤p_389∧p_389 < (o1_390.length:Int)) <|
    call (delta_state_set_i1 p_389.toNat c_1 (o1_4.length:Int) o1_390) fun r_414 =>
    chk (0≤p_389∧p_389 < (r_414.length:Int)) <|
    nx_404 ((r_414.getD p_389.toNat (delta_state.mk 0 0 0 [])).link,r_414)
   else
   k_403 (p_389,o1_390)) (o0_1_3,v_212) (fun s=>match s with
  | (p_389,o1_390) =>
   k_257 (p_389,o1_390))
noncomputable def delta_newAutomaton (text_1:Str):Option (List delta_state × Int) :=
 letv ([(delta_state.mk 0 0 (-1) [])]) fun v_35 =>
 jp (S:=List delta_state × Int) (fun s=>match s with
  | (o0_51,o2_1_52) =>
   some (o0_51,o2_1_52)) fun k_53 =>
 forL text_1 0 (fun i_64 c_66 s nx_63 k_62 =>
  match s with
  | (o0_58,o2_1_59) =>
   call (delta_automaton_add_i1 (c_66.toNat:Int) (IntKind.i64.wrap ((i_64:Int)+1)) o2_1_59 o0_58) fun r_67 =>
   nx_63 (r_67.2,r_67.1)) (v_35,0) (fun s=>match s with
  | (o0_58,o2_1_59) =>
   k_53 (o0_58,o2_1_59))
noncomputable def delta_automaton_longest_i1 (text_1:Str) (o0_1_2:Int) (o1_3:List delta_state):Option (Int × Int) :=
 jp (S:=Int × Int) (fun s=>match s with
  | (long_45,s_46) =>
   chk (0≤s_46∧s_46 < (o1_3.length:Int)) <|
   some (IntKind.i64.wrap (((o1_3.getD s_46.toNat (delta_state.mk 0 0 0 [])).end_) - long_45),long_45)) fun k_47 =>
 loopN Fuel (fun s nx_57 k_56 =>
  match s with
  | (long_50,s_51) =>
   bif decide (long_50 < (text_1.length:Int)) then
    chk (0≤s_51∧s_51 < (o1_3.length:Int)) <|
    idxS text_1 long_50 fun c_59 =>
    call (delta_state_next_i1 (o1_3.getD s_51.toNat (delta_state.mk 0 0 0 [])) c_59) fun r_60 =>
    bif decide (r_60 < 0) then
     k_56 (long_50,s_51)
    else
    nx_57 (IntKind.i64.wrap (long_50+1),r_60)
   else
   k_56 (long_50,s_51)) (0,0) (fun s=>match s with
  | (long_50,s_51) =>
   k_47 (long_50,s_51))
noncomputable def delta_Make (a_1:Str) (b_2:Str):Option (api_Delta × Int) :=
 bif ((decide (65536 < (a_1.length:Int))) || (decide (65536 < (b_2.length:Int)))) then
  some ((api_Delta.mk 0 0 [] [] []),4)
 else
 call (disk_SumOf a_1) fun r_3 =>
 call (disk_SumOf b_2) fun r_4 =>
 call (delta_newAutomaton a_1) fun r_5 =>
 jp (S:=Int × List api_Piece) (fun s=>match s with
  | (from_53,o5_54) =>
   jp (S:=List api_Piece) (fun o5_58 =>
    bif decide (5000 < (o5_58.length:Int)) then
     some ((api_Delta.mk 0 0 [] [] []),4)
    else
    some ((api_Delta.mk (a_1.length:Int) (b_2.length:Int) r_3 r_4 o5_58),0)) fun k_59 =>
   bif decide (from_53 < (b_2.length:Int)) then
    chk (0≤from_53∧from_53≤(b_2.length:Int)) <|
    chk ((o5_54++[(api_Piece.mk 0 0 (List.drop from_53.toNat b_2))]).length≤274877906944) <|
    k_59 (o5_54++[(api_Piece.mk 0 0 (List.drop from_53.toNat b_2))])
   else
   k_59 o5_54) fun k_55 =>
 loopN Fuel (fun s nx_99 k_98 =>
  match s with
  | (from_86,at_87,o5_88) =>
   bif decide (at_87 < (b_2.length:Int)) then
    chk (0≤at_87∧at_87≤(b_2.length:Int)) <|
    call (delta_automaton_longest_i1 (List.drop at_87.toNat b_2) r_5.2 r_5.1) fun r_101 =>
    bif decide (r_101.2 < 8) then
     nx_99 (from_86,IntKind.i64.wrap (at_87+1),o5_88)
    else
    jp (S:=List api_Piece) (fun o5_104 =>
     chk ((o5_104++[(api_Piece.mk r_101.1 r_101.2 [])]).length≤274877906944) <|
     nx_99 (IntKind.i64.wrap (at_87+r_101.2),IntKind.i64.wrap (at_87+r_101.2),o5_104++[(api_Piece.mk r_101.1 r_101.2 [])])) fun k_105 =>
    bif decide (from_86 < at_87) then
     chk (0≤from_86∧from_86≤(b_2.length:Int)∧0≤at_87∧at_87≤(b_2.length:Int)∧from_86≤at_87) <|
     chk ((o5_88++[(api_Piece.mk 0 0 (List.take (at_87.toNat - from_86.toNat) (List.drop from_86.toNat b_2)))]).length≤274877906944) <|
     k_105 (o5_88++[(api_Piece.mk 0 0 (List.take (at_87.toNat - from_86.toNat) (List.drop from_86.toNat b_2)))])
    else
    k_105 o5_88
   else
   k_98 (from_86,at_87,o5_88)) (0,0,[]) (fun s=>match s with
  | (from_86,at_87,o5_88) =>
   k_55 (from_86,o5_88))
noncomputable def delta_outside (n_1:Int) (low_2:Int) (high_3:Int):Option Bool :=
 some ((decide (n_1 < low_2)) || (decide (high_3 < n_1)))
noncomputable def delta_isSum (s_1:Str):Option Bool :=
 jp (S:=Unit) (fun _ =>
  some (decide ((s_1.length:Int)=16))) fun k_9 =>
 forL s_1 0 (fun i_14 c_16 s nx_13 k_12 =>
  bif !(((decide (48≤(c_16.toNat:Int))) && (decide ((c_16.toNat:Int)≤57))) || ((decide (97≤(c_16.toNat:Int))) && (decide ((c_16.toNat:Int)≤102)))) then
   some false
  else
  nx_13 ()) () (fun _ =>
  k_9 ())
noncomputable def delta_CheckSteps (l_1:List api_Piece) (old_2:Int):Option (Int × Int) :=
 call (delta_outside old_2 0 65536) fun r_3 =>
 bif r_3 then
  some (0,3)
 else
 bif decide (5000 < (l_1.length:Int)) then
  some (0,4)
 else
 jp (S:=Int) (fun size_12 =>
  bif decide (65536 < size_12) then
   some (0,4)
  else
  some (size_12,0)) fun k_13 =>
 forL l_1 0 (fun i_19 p_21 size_14 nx_18 k_17 =>
  bif !decide (p_21.Data=[]) then
   bif ((!decide (p_21.At=0)) || (!decide (p_21.Long=0))) then
    some (0,2)
   else
   nx_18 (IntKind.i64.wrap (size_14+(p_21.Data.length:Int)))
  else
  bif ((((decide (p_21.At < 0)) || (decide (p_21.Long < 1))) || (decide (old_2 < p_21.Long))) || (decide ((IntKind.i64.wrap (old_2 - p_21.Long)) < p_21.At))) then
   some (0,3)
  else
  nx_18 (IntKind.i64.wrap (size_14+p_21.Long))) 0 (fun size_14 =>
  k_13 size_14)
noncomputable def delta_Check (d_1:api_Delta):Option Int :=
 call (delta_outside d_1.Old 0 65536) fun r_2 =>
 callG (!r_2) (delta_outside d_1.New 0 65536) false fun r_3 =>
 bif (r_2 || r_3) then
  some 3
 else
 call (delta_isSum d_1.OldSum) fun r_4 =>
 callG (!(!r_4)) (delta_isSum d_1.NewSum) false fun r_5 =>
 bif ((!r_4) || (!r_5)) then
  some 2
 else
 call (delta_CheckSteps d_1.Pieces d_1.Old) fun r_6 =>
 bif ((decide (r_6.2=0)) && (!decide (r_6.1=d_1.New))) then
  some 11
 else
 some r_6.2
noncomputable def delta_size (p_1:api_Piece):Option Int :=
 bif !decide (p_1.Data=[]) then
  some (p_1.Data.length:Int)
 else
 some p_1.Long
noncomputable def delta_part (p_1:api_Piece) (from_2:Int) (to_3:Int):Option api_Piece :=
 bif !decide (p_1.Data=[]) then
  chk (0≤from_2∧from_2≤(p_1.Data.length:Int)∧0≤to_3∧to_3≤(p_1.Data.length:Int)∧from_2≤to_3) <|
  some (api_Piece.mk 0 0 (List.take (to_3.toNat - from_2.toNat) (List.drop from_2.toNat p_1.Data)))
 else
 some (api_Piece.mk (IntKind.i64.wrap (p_1.At+from_2)) (IntKind.i64.wrap (to_3 - from_2)) [])
noncomputable def strings_Builder_Grow (n:Int) (o0:Str):Option Unit:=chk (0≤n∧n≤274877906944) <| some ()
noncomputable def strings_Builder_copyCheck_i1 (o1_1:Str):Option Unit :=
 some ()
noncomputable def strings_Builder_copyCheck_i2 (o1_1:Str):Option Unit :=
 some ()
noncomputable def strings_Builder_copyCheck_np (o0:Str):Option Unit:=some ()
noncomputable def strings_Builder_WriteString_i1 (s_1:Str) (o1_2:Str):Option (Int × Str) :=
 call (strings_Builder_copyCheck_np o1_2) fun r_5 =>
 chk ((o1_2++s_1).length≤274877906944) <|
 some ((s_1.length:Int),o1_2++s_1)
noncomputable def strings_Builder_String_i1 (o1_1:Str):Option Str :=
 some o1_1
noncomputable def strings_Join (elems_1:List Str) (sep_2:Str):Option Str :=
 bif decide ((elems_1.length:Int)=0) then
  some []
 else
 bif decide ((elems_1.length:Int)=1) then
  idx elems_1 0 fun s_3 =>
  some s_3
 else
 jp (S:=Int) (fun n_5 =>
  jp (S:=Int) (fun n_15 =>
   call (strings_Builder_Grow n_15 []) fun r_17 =>
   idx elems_1 0 fun s_18 =>
   call (strings_Builder_WriteString_i1 s_18 []) fun r_19 =>
   jp (S:=Str) (fun o1_37 =>
    call (strings_Builder_String_i1 o1_37) fun r_39 =>
    some r_39) fun k_38 =>
   chk (0≤1∧1≤(elems_1.length:Int)) <|
   forL (List.drop 1 elems_1) 0 (fun i_52 s_54 o1_46 nx_51 k_50 =>
    call (strings_Builder_WriteString_i1 sep_2 o1_46) fun r_55 =>
    call (strings_Builder_WriteString_i1 s_54 r_55.2) fun r_56 =>
    nx_51 r_56.2) r_19.2 (fun o1_46 =>
    k_38 o1_46)) fun k_16 =>
  forL elems_1 0 (fun i_62 s_64 n_57 nx_61 k_60 =>
   bif decide ((IntKind.i64.wrap (9223372036854775807 - n_57)) < (s_64.length:Int)) then
    none
   else
   nx_61 (IntKind.i64.wrap (n_57+(s_64.length:Int)))) n_5 (fun n_57 =>
   k_16 n_57)) fun k_6 =>
 bif decide (0 < (sep_2.length:Int)) then
  chk (¬ (IntKind.i64.wrap ((elems_1.length:Int) - 1))=0) <|
  bif decide ((IntKind.i64.wrap (Int.tdiv 9223372036854775807 (IntKind.i64.wrap ((elems_1.length:Int) - 1))))≤(sep_2.length:Int)) then
   none
  else
  k_6 (IntKind.i64.wrap (0+(IntKind.i64.wrap ((sep_2.length:Int) * (IntKind.i64.wrap ((elems_1.length:Int) - 1))))))
 else
 k_6 0
noncomputable def delta_joined (l_1:List api_Piece):Option (List api_Piece) :=
 jp (S:=List api_Piece) (fun o0_106 =>
  some o0_106) fun k_107 =>
 loopN Fuel (fun s nx_178 k_177 =>
  match s with
  | (i_142,o0_143) =>
   bif decide (i_142 < (l_1.length:Int)) then
    idx l_1 i_142 fun p_179 =>
    jp (S:=Int × Int × List Str) (fun s=>match s with
     | (i_192,o1_1_193,o2_194) =>
      bif decide (0 < (o2_194.length:Int)) then
       call (strings_Join o2_194 []) fun r_196 =>
       chk ((p_179.Data++r_196).length≤274877906944) <|
       chk ((o0_143++[(api_Piece.mk p_179.At o1_1_193 (p_179.Data++r_196))]).length≤274877906944) <|
       nx_178 (i_192,o0_143++[(api_Piece.mk p_179.At o1_1_193 (p_179.Data++r_196))])
      else
      chk ((o0_143++[(api_Piece.mk p_179.At o1_1_193 p_179.Data)]).length≤274877906944) <|
      nx_178 (i_192,o0_143++[(api_Piece.mk p_179.At o1_1_193 p_179.Data)])) fun k_195 =>
    loopN Fuel (fun s nx_209 k_208 =>
     match s with
     | (i_203,o1_1_204,o2_205) =>
      bif decide (i_203 < (l_1.length:Int)) then
       idx l_1 i_203 fun p_210 =>
       bif (((decide (p_179.Data=[])) && (decide (p_210.Data=[]))) && (decide (p_210.At=(IntKind.i64.wrap (p_179.At+o1_1_204))))) then
        nx_209 (IntKind.i64.wrap (i_203+1),IntKind.i64.wrap (o1_1_204+p_210.Long),o2_205)
       else
       bif ((!decide (p_179.Data=[])) && (!decide (p_210.Data=[]))) then
        chk ((o2_205++[p_210.Data]).length≤274877906944) <|
        nx_209 (IntKind.i64.wrap (i_203+1),o1_1_204,o2_205++[p_210.Data])
       else
       k_208 (i_203,o1_1_204,o2_205)
      else
      k_208 (i_203,o1_1_204,o2_205)) (IntKind.i64.wrap (i_142+1),p_179.Long,[]) (fun s=>match s with
     | (i_203,o1_1_204,o2_205) =>
      k_195 (i_203,o1_1_204,o2_205))
   else
   k_177 (i_142,o0_143)) (0,[]) (fun s=>match s with
  | (i_142,o0_143) =>
   k_107 o0_143)
noncomputable def delta_Compose (d_1:api_Delta) (e_2:api_Delta):Option (api_Delta × Int) :=
 jp (S:=Unit) (fun _ =>
  bif ((!decide (d_1.New=e_2.Old)) || (!decide (d_1.NewSum=e_2.OldSum))) then
   some ((api_Delta.mk 0 0 [] [] []),11)
  else
  jp (S:=List api_Piece) (fun o3_216 =>
   call (delta_joined o3_216) fun r_219 =>
   bif decide (5000 < (r_219.length:Int)) then
    some ((api_Delta.mk 0 0 [] [] []),4)
   else
   some ((api_Delta.mk d_1.Old e_2.New d_1.OldSum e_2.NewSum r_219),0)) fun k_217 =>
  forL e_2.Pieces 0 (fun i_321 p_323 o3_270 nx_320 k_319 =>
   jp (S:=List api_Piece) (fun o3_346 =>
    nx_320 o3_346) fun k_347 =>
   bif !decide (p_323.Data=[]) then
    chk ((o3_270++[p_323]).length≤274877906944) <|
    k_347 (o3_270++[p_323])
   else
   forL d_1.Pieces 0 (fun i_364 p_366 s nx_363 k_362 =>
    match s with
    | (begin_355,o3_357) =>
     call (delta_size p_366) fun r_367 =>
     bif decide ((max (IntKind.i64.wrap (p_323.At - begin_355)) 0) < (min (IntKind.i64.wrap ((IntKind.i64.wrap (p_323.At+p_323.Long)) - begin_355)) r_367)) then
      call (delta_part p_366 (max (IntKind.i64.wrap (p_323.At - begin_355)) 0) (min (IntKind.i64.wrap ((IntKind.i64.wrap (p_323.At+p_323.Long)) - begin_355)) r_367)) fun r_368 =>
      chk ((o3_357++[r_368]).length≤274877906944) <|
      nx_363 (IntKind.i64.wrap (begin_355+r_367),o3_357++[r_368])
     else
     nx_363 (IntKind.i64.wrap (begin_355+r_367),o3_357)) (0,o3_270) (fun s=>match s with
    | (begin_355,o3_357) =>
     k_347 o3_357)) [] (fun o3_270 =>
   k_217 o3_270)) fun k_65 =>
 call (delta_Check d_1) fun r_430 =>
 bif !decide (r_430=0) then
  some ((api_Delta.mk 0 0 [] [] []),r_430)
 else
 call (delta_Check e_2) fun r_431 =>
 bif !decide (r_431=0) then
  some ((api_Delta.mk 0 0 [] [] []),r_431)
 else
 k_65 ()
noncomputable def R_IsSum (s_1:Str):Option Bool :=
 jp (S:=Unit) (fun _ =>
  some (decide ((s_1.length:Int)=16))) fun k_9 =>
 forL s_1 0 (fun i_14 c_16 s nx_13 k_12 =>
  bif (((decide ((c_16.toNat:Int) < 48)) || (decide (57 < (c_16.toNat:Int)))) && ((decide ((c_16.toNat:Int) < 97)) || (decide (102 < (c_16.toNat:Int))))) then
   some false
  else
  nx_13 ()) () (fun _ =>
  k_9 ())
noncomputable def R_PiecesError (l_1:List api_Piece) (old_2:Int):Option (Int × Int) :=
 bif ((decide (old_2 < 0)) || (decide (65536 < old_2))) then
  some (0,3)
 else
 bif decide (5000 < (l_1.length:Int)) then
  some (0,4)
 else
 jp (S:=Int) (fun n_11 =>
  bif decide (65536 < n_11) then
   some (0,4)
  else
  some (n_11,0)) fun k_12 =>
 forL l_1 0 (fun i_18 p_20 n_13 nx_17 k_16 =>
  bif !decide (p_20.Data=[]) then
   bif ((!decide (p_20.At=0)) || (!decide (p_20.Long=0))) then
    some (0,2)
   else
   nx_17 (IntKind.i64.wrap (n_13+(p_20.Data.length:Int)))
  else
  bif ((((decide (p_20.At < 0)) || (decide (p_20.Long < 1))) || (decide (old_2 < p_20.At))) || (decide ((IntKind.i64.wrap (old_2 - p_20.At)) < p_20.Long))) then
   some (0,3)
  else
  nx_17 (IntKind.i64.wrap (n_13+p_20.Long))) 0 (fun n_13 =>
  k_12 n_13)
noncomputable def R_when (bad_1:Bool) (e_2:Int):Option Int :=
 bif bad_1 then
  some e_2
 else
 some 0
noncomputable def R_first (l_1:List Int):Option Int :=
 jp (S:=Unit) (fun _ =>
  some 0) fun k_9 =>
 forL l_1 0 (fun i_14 e_16 s nx_13 k_12 =>
  bif !decide (e_16=0) then
   some e_16
  else
  nx_13 ()) () (fun _ =>
  k_9 ())
noncomputable def R_DeltaError (d_1:api_Delta):Option Int :=
 bif ((((decide (d_1.Old < 0)) || (decide (65536 < d_1.Old))) || (decide (d_1.New < 0))) || (decide (65536 < d_1.New))) then
  some 3
 else
 call (R_IsSum d_1.OldSum) fun r_2 =>
 callG (!(!r_2)) (R_IsSum d_1.NewSum) false fun r_3 =>
 bif ((!r_2) || (!r_3)) then
  some 2
 else
 call (R_PiecesError d_1.Pieces d_1.Old) fun r_4 =>
 call (R_when (!decide (r_4.1=d_1.New)) 11) fun r_5 =>
 call (R_first [r_4.2,r_5]) fun r_6 =>
 some r_6
noncomputable def slices_Equal_api_Piece_api_Piece (s1_1:List api_Piece) (s2_2:List api_Piece):Option Bool :=
 bif !decide ((s1_1.length:Int)=(s2_2.length:Int)) then
  some false
 else
 jp (S:=Unit) (fun _ =>
  some true) fun k_12 =>
 forL s1_1 0 (fun i_18 p_20 s nx_17 k_16 =>
  idx s2_2 (i_18:Int) fun p_21 =>
  bif !((decide (p_20.At=p_21.At)) && ((decide (p_20.Long=p_21.Long)) && (decide (p_20.Data=p_21.Data)))) then
   some false
  else
  nx_17 ()) () (fun _ =>
  k_12 ())
noncomputable def Law_sameDelta (a_1:api_Delta) (b_2:api_Delta):Option Bool :=
 callG ((((decide (a_1.Old=b_2.Old)) && (decide (a_1.New=b_2.New))) && (decide (a_1.OldSum=b_2.OldSum))) && (decide (a_1.NewSum=b_2.NewSum))) (slices_Equal_api_Piece_api_Piece a_1.Pieces b_2.Pieces) false fun r_3 =>
 some (((((decide (a_1.Old=b_2.Old)) && (decide (a_1.New=b_2.New))) && (decide (a_1.OldSum=b_2.OldSum))) && (decide (a_1.NewSum=b_2.NewSum))) && r_3)
noncomputable def R_Joined (l_1:List api_Piece):Option (List api_Piece) :=
 jp (S:=List api_Piece) (fun o0_144 =>
  some o0_144) fun k_145 =>
 forL l_1 0 (fun i_241 p_243 o0_193 nx_240 k_239 =>
  chk (((decide (0≤(IntKind.i64.wrap ((o0_193.length:Int) - 1)))) && (!decide (p_243.Data=[])))=true→(0≤IntKind.i64.wrap ((o0_193.length:Int) - 1)∧IntKind.i64.wrap ((o0_193.length:Int) - 1) < (o0_193.length:Int))) <|
  bif (((decide (0≤(IntKind.i64.wrap ((o0_193.length:Int) - 1)))) && (!decide (p_243.Data=[]))) && (!decide (((o0_193.getD ((IntKind.i64.wrap ((o0_193.length:Int) - 1)).toNat) (api_Piece.mk 0 0 [])).Data)=[]))) then
   chk (0≤IntKind.i64.wrap ((o0_193.length:Int) - 1)∧IntKind.i64.wrap ((o0_193.length:Int) - 1) < (o0_193.length:Int)) <|
   chk ((((o0_193.getD ((IntKind.i64.wrap ((o0_193.length:Int) - 1)).toNat) (api_Piece.mk 0 0 [])).Data)++p_243.Data).length≤274877906944) <|
   chk (0≤IntKind.i64.wrap ((o0_193.length:Int) - 1)∧IntKind.i64.wrap ((o0_193.length:Int) - 1) < (o0_193.length:Int)) <|
   nx_240 (List.set o0_193 ((IntKind.i64.wrap ((o0_193.length:Int) - 1)).toNat) (api_Piece.mk ((o0_193.getD ((IntKind.i64.wrap ((o0_193.length:Int) - 1)).toNat) (api_Piece.mk 0 0 [])).At) ((o0_193.getD ((IntKind.i64.wrap ((o0_193.length:Int) - 1)).toNat) (api_Piece.mk 0 0 [])).Long) (((o0_193.getD ((IntKind.i64.wrap ((o0_193.length:Int) - 1)).toNat) (api_Piece.mk 0 0 [])).Data)++p_243.Data)))
  else
  chk (((decide (0≤(IntKind.i64.wrap ((o0_193.length:Int) - 1)))) && (decide (p_243.Data=[])))=true→(0≤IntKind.i64.wrap ((o0_193.length:Int) - 1)∧IntKind.i64.wrap ((o0_193.length:Int) - 1) < (o0_193.length:Int))) <|
  chk ((((decide (0≤(IntKind.i64.wrap ((o0_193.length:Int) - 1)))) && (decide (p_243.Data=[]))) && (decide (((o0_193.getD ((IntKind.i64.wrap ((o0_193.length:Int) - 1)).toNat) (api_Piece.mk 0 0 [])).Data)=[])))=true→(0≤IntKind.i64.wrap ((o0_193.length:Int) - 1)∧IntKind.i64.wrap ((o0_193.length:Int) - 1) < (o0_193.length:Int))) <|
  chk ((((decide (0≤(IntKind.i64.wrap ((o0_193.length:Int) - 1)))) && (decide (p_243.Data=[]))) && (decide (((o0_193.getD ((IntKind.i64.wrap ((o0_193.length:Int) - 1)).toNat) (api_Piece.mk 0 0 [])).Data)=[])))=true→(0≤IntKind.i64.wrap ((o0_193.length:Int) - 1)∧IntKind.i64.wrap ((o0_193.length:Int) - 1) < (o0_193.length:Int))) <|
  bif ((((decide (0≤(IntKind.i64.wrap ((o0_193.length:Int) - 1)))) && (decide (p_243.Data=[]))) && (decide (((o0_193.getD ((IntKind.i64.wrap ((o0_193.length:Int) - 1)).toNat) (api_Piece.mk 0 0 [])).Data)=[]))) && (decide ((IntKind.i64.wrap (((o0_193.getD ((IntKind.i64.wrap ((o0_193.length:Int) - 1)).toNat) (api_Piece.mk 0 0 [])).At)+((o0_193.getD ((IntKind.i64.wrap ((o0_193.length:Int) - 1)).toNat) (api_Piece.mk 0 0 [])).Long)))=p_243.At))) then
   chk (0≤IntKind.i64.wrap ((o0_193.length:Int) - 1)∧IntKind.i64.wrap ((o0_193.length:Int) - 1) < (o0_193.length:Int)) <|
   chk (0≤IntKind.i64.wrap ((o0_193.length:Int) - 1)∧IntKind.i64.wrap ((o0_193.length:Int) - 1) < (o0_193.length:Int)) <|
   nx_240 (List.set o0_193 ((IntKind.i64.wrap ((o0_193.length:Int) - 1)).toNat) (api_Piece.mk ((o0_193.getD ((IntKind.i64.wrap ((o0_193.length:Int) - 1)).toNat) (api_Piece.mk 0 0 [])).At) (IntKind.i64.wrap (((o0_193.getD ((IntKind.i64.wrap ((o0_193.length:Int) - 1)).toNat) (api_Piece.mk 0 0 [])).Long)+p_243.Long)) ((o0_193.getD ((IntKind.i64.wrap ((o0_193.length:Int) - 1)).toNat) (api_Piece.mk 0 0 [])).Data)))
  else
  chk ((o0_193++[p_243]).length≤274877906944) <|
  nx_240 (o0_193++[p_243])) [] (fun o0_193 =>
  k_145 o0_193)
noncomputable def R_Composed (d_1:api_Delta) (e_2:api_Delta):Option (api_Delta × Int) :=
 bif ((!decide (d_1.New=e_2.Old)) || (!decide (d_1.NewSum=e_2.OldSum))) then
  some ((api_Delta.mk 0 0 [] [] []),11)
 else
 jp (S:=List outref1_origin) (fun o3_213 =>
  jp (S:=List api_Piece) (fun o4_401 =>
   call (R_Joined o4_401) fun r_403 =>
   bif decide (5000 < (r_403.length:Int)) then
    some ((api_Delta.mk 0 0 [] [] []),4)
   else
   some ((api_Delta.mk d_1.Old e_2.New d_1.OldSum e_2.NewSum r_403),0)) fun k_402 =>
  forL e_2.Pieces 0 (fun i_549 p_551 o4_506 nx_548 k_547 =>
   jp (S:=List api_Piece) (fun o4_570 =>
    nx_548 o4_570) fun k_571 =>
   bif !decide (p_551.Data=[]) then
    chk ((o4_506++[p_551]).length≤274877906944) <|
    k_571 (o4_506++[p_551])
   else
   chk (0≤p_551.At∧p_551.At≤(o3_213.length:Int)∧0≤IntKind.i64.wrap (p_551.At+p_551.Long)∧IntKind.i64.wrap (p_551.At+p_551.Long)≤(o3_213.length:Int)∧p_551.At≤IntKind.i64.wrap (p_551.At+p_551.Long)) <|
   forL (List.take ((IntKind.i64.wrap (p_551.At+p_551.Long)).toNat - p_551.At.toNat) (List.drop p_551.At.toNat o3_213)) 0 (fun i_585 o_587 o4_579 nx_584 k_583 =>
    bif decide (o_587.at_ < 0) then
     chk ((o4_579++[(api_Piece.mk 0 0 o_587.data)]).length≤274877906944) <|
     nx_584 (o4_579++[(api_Piece.mk 0 0 o_587.data)])
    else
    chk ((o4_579++[(api_Piece.mk o_587.at_ 1 [])]).length≤274877906944) <|
    nx_584 (o4_579++[(api_Piece.mk o_587.at_ 1 [])])) o4_506 (fun o4_579 =>
    k_571 o4_579)) [] (fun o4_506 =>
   k_402 o4_506)) fun k_214 =>
 forL d_1.Pieces 0 (fun i_731 p_733 o3_660 nx_730 k_729 =>
  jp (S:=List outref1_origin) (fun o3_766 =>
   nx_730 o3_766) fun k_767 =>
  jp (S:=List outref1_origin) (fun o3_779 =>
   loopN Fuel (fun s nx_787 k_786 =>
    match s with
    | (t55_783,o3_784) =>
     bif decide (t55_783 < p_733.Long) then
      chk ((o3_784++[(outref1_origin.mk (IntKind.i64.wrap (p_733.At+t55_783)) [])]).length≤274877906944) <|
      nx_787 (IntKind.i64.wrap (t55_783+1),o3_784++[(outref1_origin.mk (IntKind.i64.wrap (p_733.At+t55_783)) [])])
     else
     k_786 (t55_783,o3_784)) (0,o3_779) (fun s=>match s with
    | (t55_783,o3_784) =>
     k_767 o3_784)) fun k_780 =>
  loopN Fuel (fun s nx_797 k_796 =>
   match s with
   | (t39_792,o3_793) =>
    bif decide (t39_792 < (p_733.Data.length:Int)) then
     chk (0≤t39_792∧t39_792≤(p_733.Data.length:Int)∧0≤IntKind.i64.wrap (t39_792+1)∧IntKind.i64.wrap (t39_792+1)≤(p_733.Data.length:Int)∧t39_792≤IntKind.i64.wrap (t39_792+1)) <|
     chk ((o3_793++[(outref1_origin.mk (-1) (List.take ((IntKind.i64.wrap (t39_792+1)).toNat - t39_792.toNat) (List.drop t39_792.toNat p_733.Data)))]).length≤274877906944) <|
     nx_797 (IntKind.i64.wrap (t39_792+1),o3_793++[(outref1_origin.mk (-1) (List.take ((IntKind.i64.wrap (t39_792+1)).toNat - t39_792.toNat) (List.drop t39_792.toNat p_733.Data)))])
    else
    k_796 (t39_792,o3_793)) (0,o3_660) (fun s=>match s with
   | (t39_792,o3_793) =>
    k_780 o3_793)) [] (fun o3_660 =>
  k_214 o3_660)
noncomputable def delta_Apply (a_1:Str) (d_2:api_Delta):Option (Str × Int) :=
 call (delta_Check d_2) fun r_3 =>
 bif !decide (r_3=0) then
  some ([],r_3)
 else
 callG (!(!decide ((a_1.length:Int)=d_2.Old))) (disk_SumOf a_1) [] fun r_4 =>
 bif ((!decide ((a_1.length:Int)=d_2.Old)) || (!decide (r_4=d_2.OldSum))) then
  some ([],14)
 else
 jp (S:=Str) (fun o2_24 =>
  call (strings_Builder_String_i1 o2_24) fun r_27 =>
  call (disk_SumOf r_27) fun r_28 =>
  bif !decide (r_28=d_2.NewSum) then
   some ([],14)
  else
  call (strings_Builder_String_i1 o2_24) fun r_29 =>
  some (r_29,0)) fun k_25 =>
 forL d_2.Pieces 0 (fun i_43 p_45 o2_36 nx_42 k_41 =>
  bif !decide (p_45.Data=[]) then
   call (strings_Builder_WriteString_i1 p_45.Data o2_36) fun r_46 =>
   nx_42 r_46.2
  else
  chk (0≤p_45.At∧p_45.At≤(a_1.length:Int)∧0≤IntKind.i64.wrap (p_45.At+p_45.Long)∧IntKind.i64.wrap (p_45.At+p_45.Long)≤(a_1.length:Int)∧p_45.At≤IntKind.i64.wrap (p_45.At+p_45.Long)) <|
  call (strings_Builder_WriteString_i1 (List.take ((IntKind.i64.wrap (p_45.At+p_45.Long)).toNat - p_45.At.toNat) (List.drop p_45.At.toNat a_1)) o2_36) fun r_48 =>
  nx_42 r_48.2) [] (fun o2_36 =>
  k_25 o2_36)
noncomputable def Law_DeltasCompose (a_1:Str) (b_2:Str) (c_3:Str) (other_4:api_Delta) (mixed_5:Bool):Option Bool :=
 call (Law_landed) fun r_6 =>
 bif !r_6 then
  some false
 else
 call (Law_short a_1) fun r_7 =>
 call (Law_short b_2) fun r_8 =>
 call (Law_short c_3) fun r_9 =>
 call (delta_Make r_7 r_8) fun r_10 =>
 call (delta_Make r_8 r_9) fun r_11 =>
 bif ((!decide (r_10.2=0)) || (!decide (r_11.2=0))) then
  some false
 else
 jp (S:=Int × Int × Str × Str × List api_Piece) (fun s=>match s with
  | (o2_0_12,o2_1_13,o2_2_14,o2_3_15,o2_4_16) =>
   call (delta_Compose r_10.1 (api_Delta.mk o2_0_12 o2_1_13 o2_2_14 o2_3_15 o2_4_16)) fun r_18 =>
   call (R_DeltaError (api_Delta.mk o2_0_12 o2_1_13 o2_2_14 o2_3_15 o2_4_16)) fun r_19 =>
   bif !decide (r_19=0) then
    callG (decide (r_18.2=r_19)) (Law_sameDelta r_18.1 (api_Delta.mk 0 0 [] [] [])) false fun r_20 =>
    some ((decide (r_18.2=r_19)) && r_20)
   else
   call (R_Composed r_10.1 (api_Delta.mk o2_0_12 o2_1_13 o2_2_14 o2_3_15 o2_4_16)) fun r_21 =>
   callG (!(!decide (r_18.2=r_21.2))) (Law_sameDelta r_18.1 r_21.1) false fun r_22 =>
   bif ((!decide (r_18.2=r_21.2)) || (!r_22)) then
    some false
   else
   bif ((!decide (r_18.2=0)) || mixed_5) then
    some true
   else
   call (delta_Apply r_7 r_18.1) fun r_23 =>
   some ((decide (r_23.2=0)) && (decide (r_23.1=r_9)))) fun k_17 =>
 bif mixed_5 then
  k_17 (other_4.Old,other_4.New,other_4.OldSum,other_4.NewSum,other_4.Pieces)
 else
 k_17 (r_11.1.Old,r_11.1.New,r_11.1.OldSum,r_11.1.NewSum,r_11.1.Pieces)
end Go.Md
