/- Models of the functions that the statement reaches: what each computes, in plain words. -/
import Derived.Test.YtkekfenkeeiigaaDoorVc3
set_option linter.unusedVariables false
namespace Go.Md
open Go.Vc
def tabL_7:List Int:=[0,1,56,2,57,49,28,3,61,58,42,50,38,29,17,4,62,47,59,36,45,43,51,22,53,39,33,30,24,18,12,5,63,55,48,27,60,41,37,16,46,35,44,21,52,32,23,11,54,26,40,15,34,20,31,10,25,14,19,9,13,8,7,6]
theorem tabL_7_len:tabL_7.length=64:=rfl
instance theTabs:Tabs:=⟨fun b=>bif Nat.beq b 7 then some (.u8,tabL_7) else none,fun b=>false,fun e=>bif Nat.beq e 138 then some (3,157,2) else none⟩
theorem nest_3:Tabs.nest 3=none:=rfl
attribute [go_sem] nest_3
theorem nest_5:Tabs.nest 5=none:=rfl
attribute [go_sem] nest_5
theorem nest_9:Tabs.nest 9=none:=rfl
attribute [go_sem] nest_9
theorem nest_25:Tabs.nest 25=none:=rfl
attribute [go_sem] nest_25
theorem nest_29:Tabs.nest 29=none:=rfl
attribute [go_sem] nest_29
theorem nest_49:Tabs.nest 49=none:=rfl
attribute [go_sem] nest_49
theorem nest_57:Tabs.nest 57=none:=rfl
attribute [go_sem] nest_57
theorem nest_63:Tabs.nest 63=none:=rfl
attribute [go_sem] nest_63
theorem nest_115:Tabs.nest 115=none:=rfl
attribute [go_sem] nest_115
theorem nest_138:Tabs.nest 138=some (3,157,2):=rfl
attribute [go_sem] nest_138
theorem nest_157:Tabs.nest 157=none:=rfl
attribute [go_sem] nest_157
theorem tab_7:Tabs.tab 7=some (.u8,tabL_7):=rfl
attribute [go_sem] tab_7 tabL_7_len
def ecB (b:Bool):List Dt:=[.b b]
def ecS (x:Str):List Dt:=[.s x]
def ecI_i8 (n:Int):List Dt:=[.i .i8 n]
def ecI_i16 (n:Int):List Dt:=[.i .i16 n]
def ecI_i32 (n:Int):List Dt:=[.i .i32 n]
def ecI_i64 (n:Int):List Dt:=[.i .i64 n]
def ecI_u8 (n:Int):List Dt:=[.i .u8 n]
def ecI_u16 (n:Int):List Dt:=[.i .u16 n]
def ecI_u32 (n:Int):List Dt:=[.i .u32 n]
def ecI_u64 (n:Int):List Dt:=[.i .u64 n]
theorem dec1_s:∀ r,hasR r [.s]→∃ x,r=ecS x:=by
 intro r h
 rcases r with _ | ⟨d,_ | _⟩ <;> simp only [hasR,and_false,and_true] at h
 cases d <;> simp only [hasT] at h
 exact ⟨_,rfl⟩
theorem dec1_i64:∀ r,hasR r [.i .i64]→∃ x,r=ecI_i64 x:=by
 intro r h
 rcases r with _ | ⟨d,_ | _⟩ <;> simp only [hasR,and_false,and_true] at h
 cases d <;> simp only [hasT] at h
 subst h
 exact ⟨_,rfl⟩
theorem dec1_u8:∀ r,hasR r [.i .u8]→∃ x,r=ecI_u8 x:=by
 intro r h
 rcases r with _ | ⟨d,_ | _⟩ <;> simp only [hasR,and_false,and_true] at h
 cases d <;> simp only [hasT] at h
 subst h
 exact ⟨_,rfl⟩
structure delta_edge where
 c:Int
 to:Int
def enc_delta_edge (x:delta_edge):List Dt:=[.i .u8 x.c,.i .i64 x.to]
def sh_delta_edge:List Sh:=[.i .u8,.i .i64]
theorem dec_delta_edge:∀ r,hasR r sh_delta_edge→∃ x:delta_edge,r=enc_delta_edge x:=by
 intro r h
 unfold sh_delta_edge at h
 rcases r with _ | ⟨d0,_ | ⟨d1,_ | _⟩⟩ <;> simp only [hasR,and_false,and_true] at h
 obtain ⟨h0,h1⟩:=h
 cases d0 <;> simp only [hasT] at h0
 subst h0
 cases d1 <;> simp only [hasT] at h1
 subst h1
 exact ⟨⟨_,_⟩,rfl⟩
structure delta_state where
 long:Int
 end_:Int
 link:Int
 edges:List delta_edge
def enc_delta_state (x:delta_state):List Dt:=[.i .i64 x.long,.i .i64 x.end_,.i .i64 x.link,.l (List.map enc_delta_edge x.edges)]
def sh_delta_state:List Sh:=[.i .i64,.i .i64,.i .i64,.l sh_delta_edge]
theorem dec_delta_state:∀ r,hasR r sh_delta_state→∃ x:delta_state,r=enc_delta_state x:=by
 intro r h
 unfold sh_delta_state at h
 rcases r with _ | ⟨d0,_ | ⟨d1,_ | ⟨d2,_ | ⟨d3,_ | _⟩⟩⟩⟩ <;> simp only [hasR,and_false,and_true] at h
 obtain ⟨h0,h1,h2,h3⟩:=h
 cases d0 <;> simp only [hasT] at h0
 subst h0
 cases d1 <;> simp only [hasT] at h1
 subst h1
 cases d2 <;> simp only [hasT] at h2
 subst h2
 cases d3 <;> simp only [hasT] at h3
 obtain ⟨l3,rfl⟩:=hasRs_map dec_delta_edge h3
 exact ⟨⟨_,_,_,_⟩,rfl⟩
structure api_Piece where
 At:Int
 Long:Int
 Data:Str
def enc_api_Piece (x:api_Piece):List Dt:=[.i .i64 x.At,.i .i64 x.Long,.s x.Data]
def sh_api_Piece:List Sh:=[.i .i64,.i .i64,.s]
theorem dec_api_Piece:∀ r,hasR r sh_api_Piece→∃ x:api_Piece,r=enc_api_Piece x:=by
 intro r h
 unfold sh_api_Piece at h
 rcases r with _ | ⟨d0,_ | ⟨d1,_ | ⟨d2,_ | _⟩⟩⟩ <;> simp only [hasR,and_false,and_true] at h
 obtain ⟨h0,h1,h2⟩:=h
 cases d0 <;> simp only [hasT] at h0
 subst h0
 cases d1 <;> simp only [hasT] at h1
 subst h1
 cases d2 <;> simp only [hasT] at h2
 exact ⟨⟨_,_,_⟩,rfl⟩
structure api_Delta where
 Old:Int
 New:Int
 OldSum:Str
 NewSum:Str
 Pieces:List api_Piece
def enc_api_Delta (x:api_Delta):List Dt:=[.i .i64 x.Old,.i .i64 x.New,.s x.OldSum,.s x.NewSum,.l (List.map enc_api_Piece x.Pieces)]
def sh_api_Delta:List Sh:=[.i .i64,.i .i64,.s,.s,.l sh_api_Piece]
theorem dec_api_Delta:∀ r,hasR r sh_api_Delta→∃ x:api_Delta,r=enc_api_Delta x:=by
 intro r h
 unfold sh_api_Delta at h
 rcases r with _ | ⟨d0,_ | ⟨d1,_ | ⟨d2,_ | ⟨d3,_ | ⟨d4,_ | _⟩⟩⟩⟩⟩ <;> simp only [hasR,and_false,and_true] at h
 obtain ⟨h0,h1,h2,h3,h4⟩:=h
 cases d0 <;> simp only [hasT] at h0
 subst h0
 cases d1 <;> simp only [hasT] at h1
 subst h1
 cases d2 <;> simp only [hasT] at h2
 cases d3 <;> simp only [hasT] at h3
 cases d4 <;> simp only [hasT] at h4
 obtain ⟨l4,rfl⟩:=hasRs_map dec_api_Piece h4
 exact ⟨⟨_,_,_,_,_⟩,rfl⟩
def eN_enc_delta_state (x:delta_state):List Dt:=[.i .i64 x.long,.i .i64 x.end_,.i .i64 x.link,.b false]
def iN_enc_delta_state (x:delta_state):List (List Dt):=List.map enc_delta_edge x.edges
theorem mrg_138 (l:List delta_state):mrg 3 (List.map eN_enc_delta_state l) (List.map iN_enc_delta_state l)=List.map enc_delta_state l:=mrg_map (fun _=>rfl) l
theorem sz_eN_enc_delta_state:∀ l,szOk (4) (List.map eN_enc_delta_state l)=True:=fun l=>eq_true (by intro r hr; obtain ⟨x,_,rfl⟩:=List.mem_map.1 hr; rfl)
attribute [go_sem] mrg_138 sz_eN_enc_delta_state eN_enc_delta_state iN_enc_delta_state
theorem sz_ecB:∀ l,szOk (1) (List.map ecB l)=True:=fun l=>eq_true (by intro r hr; obtain ⟨x,_,rfl⟩:=List.mem_map.1 hr; rfl)
theorem sz_ecS:∀ l,szOk (1) (List.map ecS l)=True:=fun l=>eq_true (by intro r hr; obtain ⟨x,_,rfl⟩:=List.mem_map.1 hr; rfl)
theorem sz_ecI_i64:∀ l,szOk (1) (List.map ecI_i64 l)=True:=fun l=>eq_true (by intro r hr; obtain ⟨x,_,rfl⟩:=List.mem_map.1 hr; rfl)
theorem sz_ecI_u8:∀ l,szOk (1) (List.map ecI_u8 l)=True:=fun l=>eq_true (by intro r hr; obtain ⟨x,_,rfl⟩:=List.mem_map.1 hr; rfl)
theorem sz_ecI_u64:∀ l,szOk (1) (List.map ecI_u64 l)=True:=fun l=>eq_true (by intro r hr; obtain ⟨x,_,rfl⟩:=List.mem_map.1 hr; rfl)
theorem sz_ecI_i32:∀ l,szOk (1) (List.map ecI_i32 l)=True:=fun l=>eq_true (by intro r hr; obtain ⟨x,_,rfl⟩:=List.mem_map.1 hr; rfl)
theorem sz_ecI_u32:∀ l,szOk (1) (List.map ecI_u32 l)=True:=fun l=>eq_true (by intro r hr; obtain ⟨x,_,rfl⟩:=List.mem_map.1 hr; rfl)
theorem sz_enc_delta_edge:∀ l,szOk (2) (List.map enc_delta_edge l)=True:=fun l=>eq_true (by intro r hr; obtain ⟨x,_,rfl⟩:=List.mem_map.1 hr; rfl)
theorem sz_enc_delta_state:∀ l,szOk (4) (List.map enc_delta_state l)=True:=fun l=>eq_true (by intro r hr; obtain ⟨x,_,rfl⟩:=List.mem_map.1 hr; rfl)
theorem sz_enc_api_Piece:∀ l,szOk (3) (List.map enc_api_Piece l)=True:=fun l=>eq_true (by intro r hr; obtain ⟨x,_,rfl⟩:=List.mem_map.1 hr; rfl)
theorem sz_enc_api_Delta:∀ l,szOk (5) (List.map enc_api_Delta l)=True:=fun l=>eq_true (by intro r hr; obtain ⟨x,_,rfl⟩:=List.mem_map.1 hr; rfl)
theorem allB_enc:∀ l:List Int,allB (List.map ecI_u8 l)=True
 | []=>by simp only [List.map_nil,allB]
 | _::l=>by simp only [List.map_cons,ecI_u8,allB,allB_enc l,and_self]
theorem unB_enc:∀ l:List Int,unB (List.map ecI_u8 l)=Go.Vc.strOf l
 | []=>by simp only [List.map_nil,unB,Go.Vc.strOf]
 | _::l=>by simp only [List.map_cons,ecI_u8,unB,unB_enc l,Go.Vc.strOf]
theorem bR_enc (l:Str):bR l=List.map ecI_u8 (bytesOf l):=by simp [bR,bytesOf,ecI_u8]
attribute [go_sem] allB_enc unB_enc bR_enc
attribute [go_sem] ecB ecS ecI_i64 ecI_u8 ecI_u64 ecI_i32 ecI_u32 enc_delta_edge enc_delta_state enc_api_Piece enc_api_Delta sz_ecB sz_ecS sz_ecI_i64 sz_ecI_u8 sz_ecI_u64 sz_ecI_i32 sz_ecI_u32 sz_enc_delta_edge sz_enc_delta_state sz_enc_api_Piece sz_enc_api_Delta
noncomputable def ver_isSmall (c_1:Int):Option Bool :=
 some ((decide (97≤c_1)) && (decide (c_1≤122)))
noncomputable def ver_isDigit (c_1:Int):Option Bool :=
 some ((decide (48≤c_1)) && (decide (c_1≤57)))
noncomputable def ver_IsName_1 (c_1:Int):Option Bool :=
 call (ver_isSmall c_1) fun r_2 =>
 callG (!r_2) (ver_isDigit c_1) false fun r_3 =>
 some (((r_2 || r_3) || (decide (c_1=45))) || (decide (c_1=46)))
noncomputable def ver_each_i1 (s_1:Str) (most_2:Int):Option Bool :=
 jp (S:=Unit) (fun _ =>
  some ((!decide (s_1=[])) && (decide ((s_1.length:Int)≤most_2)))) fun k_12 =>
 forL s_1 0 (fun i_18 c_20 s nx_17 k_16 =>
  call (ver_IsName_1 (c_20.toNat:Int)) fun r_21 =>
  bif !r_21 then
   some false
  else
  nx_17 ()) () (fun _ =>
  k_12 ())
noncomputable def ver_IsName (s_1:Str):Option Bool :=
 call (ver_each_i1 s_1 40) fun r_2 =>
 chk (r_2=true→(0≤0∧0 < (s_1.length:Int))) <|
 callG r_2 (ver_isSmall ((s_1.getD 0 0).toNat:Int)) false fun r_4 =>
 some (r_2 && r_4)
noncomputable def Law_landed :Option Bool :=
 call (ver_IsName ([97]:Str)) fun r_1 =>
 some r_1
noncomputable def Law_short (s_1:Str):Option Str :=
 chk (0≤min (s_1.length:Int) 600∧min (s_1.length:Int) 600≤(s_1.length:Int)) <|
 some (List.take ((min (s_1.length:Int) 600).toNat) s_1)
noncomputable def disk_SumOf (text_1:Str):Option Str :=
 jp (S:=Int) (fun n_10 =>
  jp (S:=List Int) (fun o0_26 =>
   some (Go.Vc.strOf o0_26)) fun k_27 =>
  loopN Fuel (fun s nx_38 k_37 =>
   match s with
   | (t23_32,o0_33) =>
    bif decide (t23_32 < ((List.replicate 16 0).length:Int)) then
     chk (0≤(IntKind.i64.wrap (60 - (IntKind.i64.wrap (4 * t23_32))))) <|
     idxS ([48,49,50,51,52,53,54,55,56,57,97,98,99,100,101,102]:Str) (bitsI .and .u64 (Int.fdiv n_10 (2 ^ (shI .u64 (IntKind.i64.wrap (60 - (IntKind.i64.wrap (4 * t23_32))))))) 15) fun c_40 =>
     chk (0≤t23_32∧t23_32 < (o0_33.length:Int)) <|
     nx_38 (IntKind.i64.wrap (t23_32+1),List.set o0_33 t23_32.toNat c_40)
    else
    k_37 (t23_32,o0_33)) (0,List.replicate 16 0) (fun s=>match s with
   | (t23_32,o0_33) =>
    k_27 o0_33)) fun k_11 =>
 forL text_1 0 (fun i_47 c_49 n_42 nx_46 k_45 =>
  nx_46 (IntKind.u64.wrap ((bitsI .xor .u64 n_42 (IntKind.u64.wrap (c_49.toNat:Int))) * 1099511628211))) 14695981039346656037 (fun n_42 =>
  k_11 n_42)
noncomputable def delta_state_next_i1 (s_1:delta_state) (c_2:Int):Option Int :=
 jp (S:=Unit) (fun _ =>
  some (-1)) fun k_10 =>
 forL s_1.edges 0 (fun i_15 e_17 s nx_14 k_13 =>
  bif decide (e_17.c=c_2) then
   some e_17.to
  else
  nx_14 ()) () (fun _ =>
  k_10 ())
noncomputable def delta_state_set_i1 (s_1:Nat) (c_2:Int) (to_3:Int) (o0_4:List delta_state):Option (List delta_state) :=
 chk (s_1 < o0_4.length) <|
 jp (S:=Unit) (fun _ =>
  chk ((((o0_4.getD s_1 (delta_state.mk 0 0 0 [])).edges)++[(delta_edge.mk c_2 to_3)]).length≤274877906944) <|
  letv (List.set o0_4 s_1 (delta_state.mk ((o0_4.getD s_1 (delta_state.mk 0 0 0 [])).long) ((o0_4.getD s_1 (delta_state.mk 0 0 0 [])).end_) ((o0_4.getD s_1 (delta_state.mk 0 0 0 [])).link) (((o0_4.getD s_1 (delta_state.mk 0 0 0 [])).edges)++[(delta_edge.mk c_2 to_3)]))) fun v_97 =>
  some v_97) fun k_94 =>
 loopN Fuel (fun t12_103 nx_116 k_115 =>
  bif decide (t12_103 < (((o0_4.getD s_1 (delta_state.mk 0 0 0 [])).edges).length:Int)) then
   chk (0≤t12_103∧t12_103 < (((o0_4.getD s_1 (delta_state.mk 0 0 0 [])).edges).length:Int)) <|
   bif decide (((((o0_4.getD s_1 (delta_state.mk 0 0 0 [])).edges).getD t12_103.toNat (delta_edge.mk 0 0)).c)=c_2) then
    chk (0≤t12_103∧t12_103 < (((o0_4.getD s_1 (delta_state.mk 0 0 0 [])).edges).length:Int)) <|
    letv (List.set o0_4 s_1 (delta_state.mk ((o0_4.getD s_1 (delta_state.mk 0 0 0 [])).long) ((o0_4.getD s_1 (delta_state.mk 0 0 0 [])).end_) ((o0_4.getD s_1 (delta_state.mk 0 0 0 [])).link) (List.set ((o0_4.getD s_1 (delta_state.mk 0 0 0 [])).edges) t12_103.toNat (delta_edge.mk ((((o0_4.getD s_1 (delta_state.mk 0 0 0 [])).edges).getD t12_103.toNat (delta_edge.mk 0 0)).c) to_3)))) fun v_123 =>
    some v_123
   else
   nx_116 (IntKind.i64.wrap (t12_103+1))
  else
  k_115 t12_103) 0 (fun t12_103 =>
  k_94 ())
noncomputable def delta_automaton_add_i1 (c_1:Int) (end_2:Int) (o0_1_3:Int) (o1_4:List delta_state):Option (Int × List delta_state) :=
 chk ((o1_4++[(delta_state.mk end_2 end_2 0 [])]).length≤274877906944) <|
 letv (o1_4++[(delta_state.mk end_2 end_2 0 [])]) fun v_212 =>
 jp (S:=Int × List delta_state) (fun s=>match s with
  | (p_255,o1_256) =>
   bif decide (p_255 < 0) then
    some ((o1_4.length:Int),o1_256)
   else
   chk (0≤p_255∧p_255 < (o1_256.length:Int)) <|
   call (delta_state_next_i1 (o1_256.getD p_255.toNat (delta_state.mk 0 0 0 [])) c_1) fun r_259 =>
   chk (0≤r_259∧r_259 < (o1_256.length:Int)) <|
   chk (0≤p_255∧p_255 < (o1_256.length:Int)) <|
   bif decide (((o1_256.getD r_259.toNat (delta_state.mk 0 0 0 [])).long)=(IntKind.i64.wrap (((o1_256.getD p_255.toNat (delta_state.mk 0 0 0 [])).long)+1))) then
    chk (0≤(o1_4.length:Int)∧(o1_4.length:Int) < (o1_256.length:Int)) <|
    letv (List.set o1_256 o1_4.length (delta_state.mk ((o1_256.getD o1_4.length (delta_state.mk 0 0 0 [])).long) ((o1_256.getD o1_4.length (delta_state.mk 0 0 0 [])).end_) r_259 ((o1_256.getD o1_4.length (delta_state.mk 0 0 0 [])).edges))) fun v_268 =>
    some ((o1_4.length:Int),v_268)
   else
   chk (0≤r_259∧r_259 < (o1_256.length:Int)) <|
   chk (0≤p_255∧p_255 < (o1_256.length:Int)) <|
   chk (([]++((o1_256.getD r_259.toNat (delta_state.mk 0 0 0 [])).edges)).length≤274877906944) <|
   chk ((o1_256++[(delta_state.mk (IntKind.i64.wrap (((o1_256.getD p_255.toNat (delta_state.mk 0 0 0 [])).long)+1)) ((o1_256.getD r_259.toNat (delta_state.mk 0 0 0 [])).end_) ((o1_256.getD r_259.toNat (delta_state.mk 0 0 0 [])).link) ([]++((o1_256.getD r_259.toNat (delta_state.mk 0 0 0 [])).edges)))]).length≤274877906944) <|
   letv (o1_256++[(delta_state.mk (IntKind.i64.wrap (((o1_256.getD p_255.toNat (delta_state.mk 0 0 0 [])).long)+1)) ((o1_256.getD r_259.toNat (delta_state.mk 0 0 0 [])).end_) ((o1_256.getD r_259.toNat (delta_state.mk 0 0 0 [])).link) ([]++((o1_256.getD r_259.toNat (delta_state.mk 0 0 0 [])).edges)))]) fun v_276 =>
   jp (S:=List delta_state) (fun o1_321 =>
    chk (0≤r_259∧r_259 < (o1_321.length:Int)) <|
    letv (List.set o1_321 r_259.toNat (delta_state.mk ((o1_321.getD r_259.toNat (delta_state.mk 0 0 0 [])).long) ((o1_321.getD r_259.toNat (delta_state.mk 0 0 0 [])).end_) (o1_256.length:Int) ((o1_321.getD r_259.toNat (delta_state.mk 0 0 0 [])).edges))) fun v_326 =>
    chk (0≤(o1_4.length:Int)∧(o1_4.length:Int) < (v_326.length:Int)) <|
    letv (List.set v_326 o1_4.length (delta_state.mk ((v_326.getD o1_4.length (delta_state.mk 0 0 0 [])).long) ((v_326.getD o1_4.length (delta_state.mk 0 0 0 [])).end_) (o1_256.length:Int) ((v_326.getD o1_4.length (delta_state.mk 0 0 0 [])).edges))) fun v_331 =>
    some ((o1_4.length:Int),v_331)) fun k_322 =>
   loopN Fuel (fun s nx_363 k_362 =>
    match s with
    | (p_348,o1_349) =>
     chk ((decide (0≤p_348))=true→(0≤p_348∧p_348 < (o1_349.length:Int))) <|
     callG (decide (0≤p_348)) (delta_state_next_i1 (o1_349.getD p_348.toNat (delta_state.mk 0 0 0 [])) c_1) 0 fun r_365 =>
     bif ((decide (0≤p_348)) && (decide (r_365=r_259))) then
      chk (0≤p_348∧p_348 < (o1_349.length:Int)) <|
      call (delta_state_set_i1 p_348.toNat c_1 (o1_256.length:Int) o1_349) fun r_373 =>
      chk (0≤p_348∧p_348 < (r_373.length:Int)) <|
      nx_363 ((r_373.getD p_348.toNat (delta_state.mk 0 0 0 [])).link,r_373)
     else
     k_362 (p_348,o1_349)) (p_255,v_276) (fun s=>match s with
    | (p_348,o1_349) =>
     k_322 o1_349)) fun k_257 =>
 loopN Fuel (fun s nx_404 k_403 =>
  match s with
  | (p_389,o1_390) =>
   chk ((decide (0≤p_389))=true→(0≤p_389∧p_389 < (o1_390.length:Int))) <|
   callG (decide (0≤p_389)) (delta_state_next_i1 (o1_390.getD p_389.toNat (delta_state.mk 0 0 0 [])) c_1) 0 fun r_406 =>
   bif ((decide (0≤p_389)) && (decide (r_406 < 0))) then
    chk (0≤p_389∧p_389 < (o1_390.length:Int)) <|
    call (delta_state_set_i1 p_389.toNat c_1 (o1_4.length:Int) o1_390) fun r_414 =>
    chk (0≤p_389∧p_389 < (r_414.length:Int)) <|
    nx_404 ((r_414.getD p_389.toNat (delta_state.mk 0 0 0 [])).link,r_414)
   else
   k_403 (p_389,o1_390)) (o0_1_3,v_212) (fun s=>match s with
  | (p_389,o1_390) =>
   k_257 (p_389,o1_390))
noncomputable def delta_newAutomaton (text_1:Str):Option (List delta_state × Int) :=
 letv ([(delta_state.mk 0 0 (-1) [])]) fun v_35 =>
 jp (S:=List delta_state × Int) (fun s=>match s with
  | (o0_51,o2_1_52) =>
   some (o0_51,o2_1_52)) fun k_53 =>
 forL text_1 0 (fun i_64 c_66 s nx_63 k_62 =>
  match s with
  | (o0_58,o2_1_59) =>
   call (delta_automaton_add_i1 (c_66.toNat:Int) (IntKind.i64.wrap ((i_64:Int)+1)) o2_1_59 o0_58) fun r_67 =>
   nx_63 (r_67.2,r_67.1)) (v_35,0) (fun s=>match s with
  | (o0_58,o2_1_59) =>
   k_53 (o0_58,o2_1_59))
noncomputable def delta_automaton_longest_i1 (text_1:Str) (o0_1_2:Int) (o1_3:List delta_state):Option (Int × Int) :=
 jp (S:=Int × Int) (fun s=>match s with
  | (long_45,s_46) =>
   chk (0≤s_46∧s_46 < (o1_3.length:Int)) <|
   some (IntKind.i64.wrap (((o1_3.getD s_46.toNat (delta_state.mk 0 0 0 [])).end_) - long_45),long_45)) fun k_47 =>
 loopN Fuel (fun s nx_57 k_56 =>
  match s with
  | (long_50,s_51) =>
   bif decide (long_50 < (text_1.length:Int)) then
    chk (0≤s_51∧s_51 < (o1_3.length:Int)) <|
    idxS text_1 long_50 fun c_59 =>
    call (delta_state_next_i1 (o1_3.getD s_51.toNat (delta_state.mk 0 0 0 [])) c_59) fun r_60 =>
    bif decide (r_60 < 0) then
     k_56 (long_50,s_51)
    else
    nx_57 (IntKind.i64.wrap (long_50+1),r_60)
   else
   k_56 (long_50,s_51)) (0,0) (fun s=>match s with
  | (long_50,s_51) =>
   k_47 (long_50,s_51))
noncomputable def delta_Make (a_1:Str) (b_2:Str):Option (api_Delta × Int) :=
 bif ((decide (65536 < (a_1.length:Int))) || (decide (65536 < (b_2.length:Int)))) then
  some ((api_Delta.mk 0 0 [] [] []),4)
 else
 call (disk_SumOf a_1) fun r_3 =>
 call (disk_SumOf b_2) fun r_4 =>
 call (delta_newAutomaton a_1) fun r_5 =>
 jp (S:=Int × List api_Piece) (fun s=>match s with
  | (from_53,o5_54) =>
   jp (S:=List api_Piece) (fun o5_58 =>
    bif decide (5000 < (o5_58.length:Int)) then
     some ((api_Delta.mk 0 0 [] [] []),4)
    else
    some ((api_Delta.mk (a_1.length:Int) (b_2.length:Int) r_3 r_4 o5_58),0)) fun k_59 =>
   bif decide (from_53 < (b_2.length:Int)) then
    chk (0≤from_53∧from_53≤(b_2.length:Int)) <|
    chk ((o5_54++[(api_Piece.mk 0 0 (List.drop from_53.toNat b_2))]).length≤274877906944) <|
    k_59 (o5_54++[(api_Piece.mk 0 0 (List.drop from_53.toNat b_2))])
   else
   k_59 o5_54) fun k_55 =>
 loopN Fuel (fun s nx_99 k_98 =>
  match s with
  | (from_86,at_87,o5_88) =>
   bif decide (at_87 < (b_2.length:Int)) then
    chk (0≤at_87∧at_87≤(b_2.length:Int)) <|
    call (delta_automaton_longest_i1 (List.drop at_87.toNat b_2) r_5.2 r_5.1) fun r_101 =>
    bif decide (r_101.2 < 8) then
     nx_99 (from_86,IntKind.i64.wrap (at_87+1),o5_88)
    else
    jp (S:=List api_Piece) (fun o5_104 =>
     chk ((o5_104++[(api_Piece.mk r_101.1 r_101.2 [])]).length≤274877906944) <|
     nx_99 (IntKind.i64.wrap (at_87+r_101.2),IntKind.i64.wrap (at_87+r_101.2),o5_104++[(api_Piece.mk r_101.1 r_101.2 [])])) fun k_105 =>
    bif decide (from_86 < at_87) then
     chk (0≤from_86∧from_86≤(b_2.length:Int)∧0≤at_87∧at_87≤(b_2.length:Int)∧from_86≤at_87) <|
     chk ((o5_88++[(api_Piece.mk 0 0 (List.take (at_87.toNat - from_86.toNat) (List.drop from_86.toNat b_2)))]).length≤274877906944) <|
     k_105 (o5_88++[(api_Piece.mk 0 0 (List.take (at_87.toNat - from_86.toNat) (List.drop from_86.toNat b_2)))])
    else
    k_105 o5_88
   else
   k_98 (from_86,at_87,o5_88)) (0,0,[]) (fun s=>match s with
  | (from_86,at_87,o5_88) =>
   k_55 (from_86,o5_88))
noncomputable def Law_ChangesAreTold_1_i1 (s_1:Str) (o0_0_2:Int) (o1_0_3:Int):Option Str :=
 chk (¬ (s_1.length:Int)=0) <|
 chk (¬ (s_1.length:Int)=0) <|
 letv (Int.tmod (IntKind.i64.wrap ((Int.tmod o0_0_2 (s_1.length:Int))+(s_1.length:Int))) (s_1.length:Int)) fun v_15 =>
 chk (0≤v_15∧v_15 < (s_1.length:Int)) <|
 chk (0≤v_15∧v_15 < (s_1.length:Int)) <|
 letv (List.set (bytesOf s_1) v_15.toNat (bitsI .xor .u8 ((bytesOf s_1).getD v_15.toNat 0) o1_0_3)) fun v_19 =>
 some (Go.Vc.strOf v_19)
noncomputable def delta_outside (n_1:Int) (low_2:Int) (high_3:Int):Option Bool :=
 some ((decide (n_1 < low_2)) || (decide (high_3 < n_1)))
noncomputable def delta_isSum (s_1:Str):Option Bool :=
 jp (S:=Unit) (fun _ =>
  some (decide ((s_1.length:Int)=16))) fun k_9 =>
 forL s_1 0 (fun i_14 c_16 s nx_13 k_12 =>
  bif !(((decide (48≤(c_16.toNat:Int))) && (decide ((c_16.toNat:Int)≤57))) || ((decide (97≤(c_16.toNat:Int))) && (decide ((c_16.toNat:Int)≤102)))) then
   some false
  else
  nx_13 ()) () (fun _ =>
  k_9 ())
noncomputable def delta_CheckSteps (l_1:List api_Piece) (old_2:Int):Option (Int × Int) :=
 call (delta_outside old_2 0 65536) fun r_3 =>
 bif r_3 then
  some (0,3)
 else
 bif decide (5000 < (l_1.length:Int)) then
  some (0,4)
 else
 jp (S:=Int) (fun size_12 =>
  bif decide (65536 < size_12) then
   some (0,4)
  else
  some (size_12,0)) fun k_13 =>
 forL l_1 0 (fun i_19 p_21 size_14 nx_18 k_17 =>
  bif !decide (p_21.Data=[]) then
   bif ((!decide (p_21.At=0)) || (!decide (p_21.Long=0))) then
    some (0,2)
   else
   nx_18 (IntKind.i64.wrap (size_14+(p_21.Data.length:Int)))
  else
  bif ((((decide (p_21.At < 0)) || (decide (p_21.Long < 1))) || (decide (old_2 < p_21.Long))) || (decide ((IntKind.i64.wrap (old_2 - p_21.Long)) < p_21.At))) then
   some (0,3)
  else
  nx_18 (IntKind.i64.wrap (size_14+p_21.Long))) 0 (fun size_14 =>
  k_13 size_14)
noncomputable def delta_Check (d_1:api_Delta):Option Int :=
 call (delta_outside d_1.Old 0 65536) fun r_2 =>
 callG (!r_2) (delta_outside d_1.New 0 65536) false fun r_3 =>
 bif (r_2 || r_3) then
  some 3
 else
 call (delta_isSum d_1.OldSum) fun r_4 =>
 callG (!(!r_4)) (delta_isSum d_1.NewSum) false fun r_5 =>
 bif ((!r_4) || (!r_5)) then
  some 2
 else
 call (delta_CheckSteps d_1.Pieces d_1.Old) fun r_6 =>
 bif ((decide (r_6.2=0)) && (!decide (r_6.1=d_1.New))) then
  some 11
 else
 some r_6.2
noncomputable def strings_Builder_copyCheck_i1 (o1_1:Str):Option Unit :=
 some ()
noncomputable def strings_Builder_copyCheck_i2 (o1_1:Str):Option Unit :=
 some ()
noncomputable def strings_Builder_copyCheck_np (o0:Str):Option Unit:=some ()
noncomputable def strings_Builder_WriteString_i1 (s_1:Str) (o1_2:Str):Option (Int × Str) :=
 call (strings_Builder_copyCheck_np o1_2) fun r_5 =>
 chk ((o1_2++s_1).length≤274877906944) <|
 some ((s_1.length:Int),o1_2++s_1)
noncomputable def strings_Builder_String_i1 (o1_1:Str):Option Str :=
 some o1_1
noncomputable def delta_Apply (a_1:Str) (d_2:api_Delta):Option (Str × Int) :=
 call (delta_Check d_2) fun r_3 =>
 bif !decide (r_3=0) then
  some ([],r_3)
 else
 callG (!(!decide ((a_1.length:Int)=d_2.Old))) (disk_SumOf a_1) [] fun r_4 =>
 bif ((!decide ((a_1.length:Int)=d_2.Old)) || (!decide (r_4=d_2.OldSum))) then
  some ([],14)
 else
 jp (S:=Str) (fun o2_24 =>
  call (strings_Builder_String_i1 o2_24) fun r_27 =>
  call (disk_SumOf r_27) fun r_28 =>
  bif !decide (r_28=d_2.NewSum) then
   some ([],14)
  else
  call (strings_Builder_String_i1 o2_24) fun r_29 =>
  some (r_29,0)) fun k_25 =>
 forL d_2.Pieces 0 (fun i_43 p_45 o2_36 nx_42 k_41 =>
  bif !decide (p_45.Data=[]) then
   call (strings_Builder_WriteString_i1 p_45.Data o2_36) fun r_46 =>
   nx_42 r_46.2
  else
  chk (0≤p_45.At∧p_45.At≤(a_1.length:Int)∧0≤IntKind.i64.wrap (p_45.At+p_45.Long)∧IntKind.i64.wrap (p_45.At+p_45.Long)≤(a_1.length:Int)∧p_45.At≤IntKind.i64.wrap (p_45.At+p_45.Long)) <|
  call (strings_Builder_WriteString_i1 (List.take ((IntKind.i64.wrap (p_45.At+p_45.Long)).toNat - p_45.At.toNat) (List.drop p_45.At.toNat a_1)) o2_36) fun r_48 =>
  nx_42 r_48.2) [] (fun o2_36 =>
  k_25 o2_36)
noncomputable def Law_ChangesAreTold_2 (p_1:api_Piece):Option Bool :=
 some (!decide (p_1.Data=[]))
noncomputable def slices_IndexFunc_api_Piece_api_Piece_i1 (s_1:List api_Piece):Option Int :=
 jp (S:=Unit) (fun _ =>
  some (-1)) fun k_11 =>
 forL s_1 0 (fun i_17 p_19 s nx_16 k_15 =>
  call (Law_ChangesAreTold_2 p_19) fun r_20 =>
  bif r_20 then
   some (i_17:Int)
  else
  nx_16 ()) () (fun _ =>
  k_11 ())
noncomputable def slices_Clone_api_Piece_api_Piece_new (s_1:List api_Piece):Option (List api_Piece) :=
 anyOf (fun b_5:Bool=>b_5=true→s_1=[]) fun b_5 =>
 bif b_5 then
  some []
 else
 chk (([]++s_1).length≤274877906944) <|
 some ([]++s_1)
noncomputable def delta_putNumber_i1 (n_1:Int) (o0_2:List Int):Option (List Int) :=
 jp (S:=Int × List Int) (fun s=>match s with
  | (n_31,o0_32) =>
   chk ((o0_32++[IntKind.u8.wrap n_31]).length≤274877906944) <|
   some (o0_32++[IntKind.u8.wrap n_31])) fun k_33 =>
 loopN Fuel (fun s nx_41 k_40 =>
  match s with
  | (n_37,o0_38) =>
   bif decide (128≤n_37) then
    chk ((o0_38++[IntKind.u8.wrap (bitsI .or .i64 (bitsI .and .i64 n_37 127) 128)]).length≤274877906944) <|
    nx_41 (Int.fdiv n_37 (2 ^ (shI .i64 7)),o0_38++[IntKind.u8.wrap (bitsI .or .i64 (bitsI .and .i64 n_37 127) 128)])
   else
   k_40 (n_37,o0_38)) (n_1,o0_2) (fun s=>match s with
  | (n_37,o0_38) =>
   k_33 (n_37,o0_38))
noncomputable def internal_strconv_lower (c_1:Int):Option Int :=
 some (bitsI .or .u8 c_1 32)
noncomputable def internal_strconv_underscoreOK (s_1:Str):Option Bool :=
 jp (S:=Str) (fun s_5 =>
  jp (S:=Int × Int × Bool) (fun s=>match s with
   | (saw_16,i_17,hex_18) =>
    jp (S:=Int) (fun saw_30 =>
     some (!decide (saw_30=95))) fun k_31 =>
    loopN Fuel (fun s nx_38 k_37 =>
     match s with
     | (saw_32,i_33) =>
      bif decide (i_33 < (s_5.length:Int)) then
       idxS s_5 i_33 fun c_39 =>
       callG ((!((decide (48≤c_39)) && (decide (c_39≤57)))) && hex_18) (internal_strconv_lower c_39) 0 fun r_40 =>
       callG ((!((decide (48≤c_39)) && (decide (c_39≤57)))) && (hex_18 && (decide (97≤r_40)))) (internal_strconv_lower c_39) 0 fun r_41 =>
       bif (((decide (48≤c_39)) && (decide (c_39≤57))) || ((hex_18 && (decide (97≤r_40))) && (decide (r_41≤102)))) then
        nx_38 (48,IntKind.i64.wrap (i_33+1))
       else
       bif decide (c_39=95) then
        bif !decide (saw_32=48) then
         some false
        else
        nx_38 (95,IntKind.i64.wrap (i_33+1))
       else
       bif decide (saw_32=95) then
        some false
       else
       nx_38 (33,IntKind.i64.wrap (i_33+1))
      else
      k_37 (saw_32,i_33)) (saw_16,i_17) (fun s=>match s with
     | (saw_32,i_33) =>
      k_31 saw_32)) fun k_19 =>
  chk ((decide (2≤(s_5.length:Int)))=true→(0≤0∧0 < (s_5.length:Int))) <|
  chk (((decide (2≤(s_5.length:Int))) && (decide (((s_5.getD 0 0).toNat:Int)=48)))=true→(0≤1∧1 < (s_5.length:Int))) <|
  callG ((decide (2≤(s_5.length:Int))) && (decide (((s_5.getD 0 0).toNat:Int)=48))) (internal_strconv_lower ((s_5.getD 1 0).toNat:Int)) 0 fun r_44 =>
  chk ((((decide (2≤(s_5.length:Int))) && (decide (((s_5.getD 0 0).toNat:Int)=48))) && (!(decide (r_44=98))))=true→(0≤1∧1 < (s_5.length:Int))) <|
  callG (((decide (2≤(s_5.length:Int))) && (decide (((s_5.getD 0 0).toNat:Int)=48))) && (!(decide (r_44=98)))) (internal_strconv_lower ((s_5.getD 1 0).toNat:Int)) 0 fun r_46 =>
  chk ((((decide (2≤(s_5.length:Int))) && (decide (((s_5.getD 0 0).toNat:Int)=48))) && (!((decide (r_44=98)) || (decide (r_46=111)))))=true→(0≤1∧1 < (s_5.length:Int))) <|
  callG (((decide (2≤(s_5.length:Int))) && (decide (((s_5.getD 0 0).toNat:Int)=48))) && (!((decide (r_44=98)) || (decide (r_46=111))))) (internal_strconv_lower ((s_5.getD 1 0).toNat:Int)) 0 fun r_48 =>
  bif (((decide (2≤(s_5.length:Int))) && (decide (((s_5.getD 0 0).toNat:Int)=48))) && (((decide (r_44=98)) || (decide (r_46=111))) || (decide (r_48=120)))) then
   idxS s_5 1 fun c_49 =>
   call (internal_strconv_lower c_49) fun r_50 =>
   k_19 (48,2,decide (r_50=120))
  else
  k_19 (94,0,false)) fun k_6 =>
 chk ((decide (1≤(s_1.length:Int)))=true→(0≤0∧0 < (s_1.length:Int))) <|
 chk (((decide (1≤(s_1.length:Int))) && (!(decide (((s_1.getD 0 0).toNat:Int)=45))))=true→(0≤0∧0 < (s_1.length:Int))) <|
 bif ((decide (1≤(s_1.length:Int))) && ((decide (((s_1.getD 0 0).toNat:Int)=45)) || (decide (((s_1.getD 0 0).toNat:Int)=43)))) then
  chk (0≤1∧1≤(s_1.length:Int)) <|
  k_6 (List.drop 1 s_1)
 else
 k_6 s_1
noncomputable def internal_strconv_ParseUint (s_1:Str) (base_2:Int) (bitSize_3:Int):Option Int :=
 bif decide (s_1=[]) then
  none
 else
 jp (S:=Str × Int) (fun s=>match s with
  | (s_105,base_106) =>
   jp (S:=Int) (fun bitSize_108 =>
    jp (S:=Int) (fun cutoff_111 =>
     chk (0≤(IntKind.u64.wrap bitSize_108)) <|
     jp (S:=Bool × Int) (fun s=>match s with
      | (underscores_141,n_142) =>
       callG underscores_141 (internal_strconv_underscoreOK s_1) false fun r_144 =>
       bif (underscores_141 && (!r_144)) then
        none
       else
       some n_142) fun k_143 =>
     forC s_105.length 0 (fun i_160 s nx_159 k_158 =>
      match s with
      | (underscores_145,n_146) =>
       jp (S:=Int) (fun d_167 =>
        bif decide ((IntKind.u8.wrap base_106)≤d_167) then
         none
        else
        bif decide (cutoff_111≤n_146) then
         none
        else
        bif ((decide ((IntKind.u64.wrap ((IntKind.u64.wrap (n_146 * (IntKind.u64.wrap base_106)))+(IntKind.u64.wrap d_167))) < (IntKind.u64.wrap (n_146 * (IntKind.u64.wrap base_106))))) || (decide ((IntKind.u64.wrap ((IntKind.u64.wrap (1 * 2 ^ (shI .u64 (IntKind.u64.wrap bitSize_108)))) - 1)) < (IntKind.u64.wrap ((IntKind.u64.wrap (n_146 * (IntKind.u64.wrap base_106)))+(IntKind.u64.wrap d_167)))))) then
         none
        else
        nx_159 (underscores_145,IntKind.u64.wrap ((IntKind.u64.wrap (n_146 * (IntKind.u64.wrap base_106)))+(IntKind.u64.wrap d_167)))) fun k_168 =>
       bif ((decide (((bytesOf s_105).getD i_160 0)=95)) && (decide (base_2=0))) then
        nx_159 (true,n_146)
       else
       bif ((decide (48≤((bytesOf s_105).getD i_160 0))) && (decide (((bytesOf s_105).getD i_160 0)≤57))) then
        k_168 (IntKind.u8.wrap (((bytesOf s_105).getD i_160 0) - 48))
       else
       call (internal_strconv_lower ((bytesOf s_105).getD i_160 0)) fun r_169 =>
       callG (decide (97≤r_169)) (internal_strconv_lower ((bytesOf s_105).getD i_160 0)) 0 fun r_170 =>
       bif ((decide (97≤r_169)) && (decide (r_170≤122))) then
        call (internal_strconv_lower ((bytesOf s_105).getD i_160 0)) fun r_171 =>
        k_168 (IntKind.u8.wrap ((IntKind.u8.wrap (r_171 - 97))+10))
       else
       none) (false,0) (fun s=>match s with
      | (underscores_145,n_146) =>
       k_143 (underscores_145,n_146))) fun k_112 =>
    bif decide (base_106=10) then
     k_112 1844674407370955162
    else
    bif decide (base_106=16) then
     k_112 1152921504606846976
    else
    chk (¬ (IntKind.u64.wrap base_106)=0) <|
    k_112 (IntKind.u64.wrap ((IntKind.u64.wrap (Int.tdiv 18446744073709551615 (IntKind.u64.wrap base_106)))+1))) fun k_109 =>
   bif decide (bitSize_3=0) then
    k_109 64
   else
   bif ((decide (bitSize_3 < 0)) || (decide (64 < bitSize_3))) then
    none
   else
   k_109 bitSize_3) fun k_107 =>
 bif ((decide (2≤base_2)) && (decide (base_2≤36))) then
  k_107 (s_1,base_2)
 else
 bif decide (base_2=0) then
  idxS s_1 0 fun c_173 =>
  bif decide (c_173=48) then
   chk ((decide (3≤(s_1.length:Int)))=true→(0≤1∧1 < (s_1.length:Int))) <|
   callG (decide (3≤(s_1.length:Int))) (internal_strconv_lower ((s_1.getD 1 0).toNat:Int)) 0 fun r_175 =>
   bif ((decide (3≤(s_1.length:Int))) && (decide (r_175=98))) then
    chk (0≤2∧2≤(s_1.length:Int)) <|
    k_107 (List.drop 2 s_1,2)
   else
   chk ((decide (3≤(s_1.length:Int)))=true→(0≤1∧1 < (s_1.length:Int))) <|
   callG (decide (3≤(s_1.length:Int))) (internal_strconv_lower ((s_1.getD 1 0).toNat:Int)) 0 fun r_178 =>
   bif ((decide (3≤(s_1.length:Int))) && (decide (r_178=111))) then
    chk (0≤2∧2≤(s_1.length:Int)) <|
    k_107 (List.drop 2 s_1,8)
   else
   chk ((decide (3≤(s_1.length:Int)))=true→(0≤1∧1 < (s_1.length:Int))) <|
   callG (decide (3≤(s_1.length:Int))) (internal_strconv_lower ((s_1.getD 1 0).toNat:Int)) 0 fun r_181 =>
   bif ((decide (3≤(s_1.length:Int))) && (decide (r_181=120))) then
    chk (0≤2∧2≤(s_1.length:Int)) <|
    k_107 (List.drop 2 s_1,16)
   else
   chk (0≤1∧1≤(s_1.length:Int)) <|
   k_107 (List.drop 1 s_1,8)
  else
  k_107 (s_1,10)
 else
 none
noncomputable def strconv_ParseUint (s_1:Str) (base_2:Int) (bitSize_3:Int):Option Int :=
 call (internal_strconv_ParseUint s_1 base_2 bitSize_3) fun r_5 =>
 some r_5
noncomputable def delta_putSum_i1 (s_1:Str) (o0_2:List Int):Option (List Int) :=
 call (strconv_ParseUint s_1 16 64) fun r_29 =>
 jp (S:=Unit) (fun _ =>
  jp (S:=List Int) (fun o0_42 =>
   some o0_42) fun k_43 =>
  loopN Fuel (fun s nx_52 k_51 =>
   match s with
   | (i_47,o0_48) =>
    bif decide (0≤i_47) then
     chk (0≤i_47) <|
     chk ((o0_48++[IntKind.u8.wrap (Int.fdiv r_29 (2 ^ (shI .u64 i_47)))]).length≤274877906944) <|
     nx_52 (IntKind.i64.wrap (i_47 - 8),o0_48++[IntKind.u8.wrap (Int.fdiv r_29 (2 ^ (shI .u64 i_47)))])
    else
    k_51 (i_47,o0_48)) (56,o0_2) (fun s=>match s with
   | (i_47,o0_48) =>
    k_43 o0_48)) fun k_30 =>
 k_30 ()
noncomputable def delta_Print (d_1:api_Delta):Option (Str × Int) :=
 call (delta_Check d_1) fun r_2 =>
 bif !decide (r_2=0) then
  some ([],r_2)
 else
 chk (0 < [79,70,68,49].length) <|
 call (delta_putNumber_i1 d_1.Old [79,70,68,49]) fun r_9 =>
 call (delta_putNumber_i1 d_1.New r_9) fun r_10 =>
 call (delta_putSum_i1 d_1.OldSum r_10) fun r_17 =>
 call (delta_putSum_i1 d_1.NewSum r_17) fun r_18 =>
 call (delta_putNumber_i1 (d_1.Pieces.length:Int) r_18) fun r_19 =>
 jp (S:=List Int) (fun o1_55 =>
  call (disk_SumOf (Go.Vc.strOf o1_55)) fun r_57 =>
  call (delta_putSum_i1 r_57 o1_55) fun r_58 =>
  some (Go.Vc.strOf r_58,0)) fun k_56 =>
 forL d_1.Pieces 0 (fun i_78 p_80 o1_68 nx_77 k_76 =>
  bif !decide (p_80.Data=[]) then
   chk ((o1_68++[1]).length≤274877906944) <|
   call (delta_putNumber_i1 (p_80.Data.length:Int) (o1_68++[1])) fun r_82 =>
   chk ((r_82++(bytesOf p_80.Data)).length≤274877906944) <|
   nx_77 (r_82++(bytesOf p_80.Data))
  else
  chk ((o1_68++[0]).length≤274877906944) <|
  call (delta_putNumber_i1 p_80.At (o1_68++[0])) fun r_85 =>
  call (delta_putNumber_i1 p_80.Long r_85) fun r_86 =>
  nx_77 r_86) r_19 (fun o1_68 =>
  k_56 o1_68)
noncomputable def delta_reader_take_i1 (n_1:Int) (o0_0_2:Str) (o0_1_3:Int) (o0_2_4:Bool):Option (Str × Bool × Int) :=
 bif ((decide (n_1 < 0)) || (decide ((IntKind.i64.wrap ((o0_0_2.length:Int) - o0_1_3)) < n_1))) then
  some ([],true,o0_1_3)
 else
 chk (0≤IntKind.i64.wrap ((IntKind.i64.wrap (o0_1_3+n_1)) - n_1)∧IntKind.i64.wrap ((IntKind.i64.wrap (o0_1_3+n_1)) - n_1)≤(o0_0_2.length:Int)∧0≤IntKind.i64.wrap (o0_1_3+n_1)∧IntKind.i64.wrap (o0_1_3+n_1)≤(o0_0_2.length:Int)∧IntKind.i64.wrap ((IntKind.i64.wrap (o0_1_3+n_1)) - n_1)≤IntKind.i64.wrap (o0_1_3+n_1)) <|
 some (List.take ((IntKind.i64.wrap (o0_1_3+n_1)).toNat - (IntKind.i64.wrap ((IntKind.i64.wrap (o0_1_3+n_1)) - n_1)).toNat) (List.drop ((IntKind.i64.wrap ((IntKind.i64.wrap (o0_1_3+n_1)) - n_1)).toNat) o0_0_2),o0_2_4,IntKind.i64.wrap (o0_1_3+n_1))
noncomputable def delta_reader_number_i1 (o0_0_1:Str) (o0_1_2:Int) (o0_2_3:Bool):Option (Int × Int × Bool) :=
 jp (S:=Int × Bool) (fun s=>match s with
  | (o0_1_58,o0_2_59) =>
   some (0,o0_1_58,true)) fun k_60 =>
 loopN Fuel (fun s nx_74 k_73 =>
  match s with
  | (n_66,t6_67,o0_1_68,o0_2_69) =>
   bif decide (t6_67 < 5) then
    call (delta_reader_take_i1 1 o0_0_1 o0_1_68 o0_2_69) fun r_75 =>
    bif r_75.2.1 then
     some (0,r_75.2.2,r_75.2.1)
    else
    idxS r_75.1 0 fun c_76 =>
    chk (0≤(IntKind.i64.wrap (7 * t6_67))) <|
    bif decide (c_76 < 128) then
     some (bitsI .or .i64 n_66 (IntKind.i64.wrap ((IntKind.i64.wrap (bitsI .and .u8 c_76 127)) * 2 ^ (shI .i64 (IntKind.i64.wrap (7 * t6_67))))),r_75.2.2,(r_75.2.1 || ((decide (0 < t6_67)) && (decide (c_76=0)))))
    else
    nx_74 (bitsI .or .i64 n_66 (IntKind.i64.wrap ((IntKind.i64.wrap (bitsI .and .u8 c_76 127)) * 2 ^ (shI .i64 (IntKind.i64.wrap (7 * t6_67))))),IntKind.i64.wrap (t6_67+1),r_75.2.2,r_75.2.1)
   else
   k_73 (n_66,t6_67,o0_1_68,o0_2_69)) (0,0,o0_1_2,o0_2_3) (fun s=>match s with
  | (n_66,t6_67,o0_1_68,o0_2_69) =>
   k_60 (o0_1_68,o0_2_69))
noncomputable def delta_reader_sum_i1 (o0_0_1:Str) (o0_1_2:Int) (o0_2_3:Bool):Option (Str × Int × Bool) :=
 jp (S:=Int × Bool × List Int) (fun s=>match s with
  | (o0_1_77,o0_2_78,o2_79) =>
   some (Go.Vc.strOf o2_79,o0_1_77,o0_2_78)) fun k_80 =>
 call (delta_reader_take_i1 8 o0_0_1 o0_1_2 o0_2_3) fun r_81 =>
 forC r_81.1.length 0 (fun i_97 o2_89 nx_96 k_95 =>
  idxS ([48,49,50,51,52,53,54,55,56,57,97,98,99,100,101,102]:Str) (Int.fdiv ((bytesOf r_81.1).getD i_97 0) (2 ^ (shI .u8 4))) fun c_101 =>
  idxS ([48,49,50,51,52,53,54,55,56,57,97,98,99,100,101,102]:Str) (bitsI .and .u8 ((bytesOf r_81.1).getD i_97 0) 15) fun c_102 =>
  chk ((o2_89++[c_101,c_102]).length≤274877906944) <|
  nx_96 (o2_89++[c_101,c_102])) [] (fun o2_89 =>
  k_80 (r_81.2.2,r_81.2.1,o2_89))
noncomputable def delta_reader_piece_i1 (o0_0_1:Str) (o0_1_2:Int) (o0_2_3:Bool):Option (api_Piece × Int × Bool) :=
 call (delta_reader_take_i1 1 o0_0_1 o0_1_2 o0_2_3) fun r_10 =>
 bif r_10.2.1 then
  some ((api_Piece.mk 0 0 []),r_10.2.2,r_10.2.1)
 else
 idxS r_10.1 0 fun c_11 =>
 bif decide (c_11=0) then
  call (delta_reader_number_i1 o0_0_1 r_10.2.2 r_10.2.1) fun r_12 =>
  call (delta_reader_number_i1 o0_0_1 r_12.2.1 r_12.2.2) fun r_13 =>
  some ((api_Piece.mk r_12.1 r_13.1 []),r_13.2.1,r_13.2.2)
 else
 bif decide (c_11=1) then
  call (delta_reader_number_i1 o0_0_1 r_10.2.2 r_10.2.1) fun r_14 =>
  call (delta_reader_take_i1 r_14.1 o0_0_1 r_14.2.1 r_14.2.2) fun r_15 =>
  some ((api_Piece.mk 0 0 r_15.1),r_15.2.2,(r_15.2.1 || (decide (r_15.1=[]))))
 else
 some ((api_Piece.mk 0 0 []),r_10.2.2,true)
noncomputable def delta_Parse (text_1:Str):Option (api_Delta × Int) :=
 bif decide (2097152 < (text_1.length:Int)) then
  some ((api_Delta.mk 0 0 [] [] []),4)
 else
 call (delta_reader_take_i1 4 text_1 0 false) fun r_2 =>
 bif !decide (r_2.1=([79,70,68,49]:Str)) then
  some ((api_Delta.mk 0 0 [] [] []),8)
 else
 call (delta_reader_number_i1 text_1 r_2.2.2 r_2.2.1) fun r_3 =>
 call (delta_reader_number_i1 text_1 r_3.2.1 r_3.2.2) fun r_4 =>
 call (delta_reader_sum_i1 text_1 r_4.2.1 r_4.2.2) fun r_5 =>
 call (delta_reader_sum_i1 text_1 r_5.2.1 r_5.2.2) fun r_6 =>
 jp (S:=Int × Bool × List api_Piece) (fun s=>match s with
  | (o1_1_25,o1_2_26,o3_27) =>
   call (delta_reader_sum_i1 text_1 o1_1_25 o1_2_26) fun r_29 =>
   bif (r_29.2.2 || (decide (r_29.2.1 < (text_1.length:Int)))) then
    some ((api_Delta.mk 0 0 [] [] []),8)
   else
   chk (0≤o1_1_25∧o1_1_25≤(text_1.length:Int)) <|
   call (disk_SumOf (List.take o1_1_25.toNat text_1)) fun r_31 =>
   bif !decide (r_29.1=r_31) then
    some ((api_Delta.mk 0 0 [] [] []),14)
   else
   call (delta_Check (api_Delta.mk r_3.1 r_4.1 r_5.1 r_6.1 o3_27)) fun r_32 =>
   bif !decide (r_32=0) then
    some ((api_Delta.mk 0 0 [] [] []),r_32)
   else
   some ((api_Delta.mk r_3.1 r_4.1 r_5.1 r_6.1 o3_27),0)) fun k_28 =>
 call (delta_reader_number_i1 text_1 r_6.2.1 r_6.2.2) fun r_33 =>
 loopN Fuel (fun s nx_47 k_46 =>
  match s with
  | (t33_40,o1_1_41,o1_2_42,o3_43) =>
   bif decide (t33_40 < r_33.1) then
    bif o1_2_42 then
     k_46 (t33_40,o1_1_41,o1_2_42,o3_43)
    else
    call (delta_reader_piece_i1 text_1 o1_1_41 o1_2_42) fun r_48 =>
    chk ((o3_43++[r_48.1]).length≤274877906944) <|
    nx_47 (IntKind.i64.wrap (t33_40+1),r_48.2.1,r_48.2.2,o3_43++[r_48.1])
   else
   k_46 (t33_40,o1_1_41,o1_2_42,o3_43)) (0,r_33.2.1,r_33.2.2,[]) (fun s=>match s with
  | (t33_40,o1_1_41,o1_2_42,o3_43) =>
   k_28 (o1_1_41,o1_2_42,o3_43))
noncomputable def slices_Equal_api_Piece_api_Piece (s1_1:List api_Piece) (s2_2:List api_Piece):Option Bool :=
 bif !decide ((s1_1.length:Int)=(s2_2.length:Int)) then
  some false
 else
 jp (S:=Unit) (fun _ =>
  some true) fun k_12 =>
 forL s1_1 0 (fun i_18 p_20 s nx_17 k_16 =>
  idx s2_2 (i_18:Int) fun p_21 =>
  bif !((decide (p_20.At=p_21.At)) && ((decide (p_20.Long=p_21.Long)) && (decide (p_20.Data=p_21.Data)))) then
   some false
  else
  nx_17 ()) () (fun _ =>
  k_12 ())
noncomputable def Law_sameDelta (a_1:api_Delta) (b_2:api_Delta):Option Bool :=
 callG ((((decide (a_1.Old=b_2.Old)) && (decide (a_1.New=b_2.New))) && (decide (a_1.OldSum=b_2.OldSum))) && (decide (a_1.NewSum=b_2.NewSum))) (slices_Equal_api_Piece_api_Piece a_1.Pieces b_2.Pieces) false fun r_3 =>
 some (((((decide (a_1.Old=b_2.Old)) && (decide (a_1.New=b_2.New))) && (decide (a_1.OldSum=b_2.OldSum))) && (decide (a_1.NewSum=b_2.NewSum))) && r_3)
noncomputable def Law_ChangesAreTold (a_1:Str) (b_2:Str) (at_3:Int) (by_4:Int):Option Bool :=
 call (Law_landed) fun r_5 =>
 bif !r_5 then
  some false
 else
 call (Law_short a_1) fun r_6 =>
 call (Law_short b_2) fun r_7 =>
 call (delta_Make r_6 r_7) fun r_8 =>
 bif ((!decide (r_8.2=0)) || (decide (by_4=0))) then
  some (decide (r_8.2=0))
 else
 jp (S:=Unit) (fun _ =>
  chk ((r_6++([120]:Str)).length≤274877906944) <|
  call (delta_Apply (r_6++([120]:Str)) r_8.1) fun r_14 =>
  bif ((!decide (r_14.2=14)) || (!decide (r_14.1=[]))) then
   some false
  else
  call (slices_IndexFunc_api_Piece_api_Piece_i1 r_8.1.Pieces) fun r_15 =>
  jp (S:=Unit) (fun _ =>
   call (delta_Print r_8.1) fun r_27 =>
   bif !decide (r_27.2=0) then
    some false
   else
   call (Law_ChangesAreTold_1_i1 r_27.1 at_3 by_4) fun r_28 =>
   call (delta_Parse r_28) fun r_29 =>
   callG (!decide (r_29.2=0)) (Law_sameDelta r_29.1 (api_Delta.mk 0 0 [] [] [])) false fun r_30 =>
   some ((!decide (r_29.2=0)) && r_30)) fun k_26 =>
  bif decide (0≤r_15) then
   call (slices_Clone_api_Piece_api_Piece_new r_8.1.Pieces) fun r_31 =>
   chk (0≤r_15∧r_15 < (r_31.length:Int)) <|
   call (Law_ChangesAreTold_1_i1 ((r_31.getD r_15.toNat (api_Piece.mk 0 0 [])).Data) at_3 by_4) fun r_33 =>
   chk (0≤r_15∧r_15 < (r_31.length:Int)) <|
   letv (List.set r_31 r_15.toNat (api_Piece.mk ((r_31.getD r_15.toNat (api_Piece.mk 0 0 [])).At) ((r_31.getD r_15.toNat (api_Piece.mk 0 0 [])).Long) r_33)) fun v_35 =>
   call (delta_Apply r_6 (api_Delta.mk r_8.1.Old r_8.1.New r_8.1.OldSum r_8.1.NewSum v_35)) fun r_38 =>
   bif ((!decide (r_38.2=14)) || (!decide (r_38.1=[]))) then
    some false
   else
   k_26 ()
  else
  k_26 ()) fun k_12 =>
 bif !decide (r_6=[]) then
  call (Law_ChangesAreTold_1_i1 r_6 at_3 by_4) fun r_39 =>
  call (delta_Apply r_39 r_8.1) fun r_40 =>
  bif ((!decide (r_40.2=14)) || (!decide (r_40.1=[]))) then
   some false
  else
  k_12 ()
 else
 k_12 ()
end Go.Md
