/- Models of the functions that the statement reaches: what each computes, in plain words. -/
import Derived.Test.YtmnohdgjkcjdeaaGreatDoorVc3
set_option linter.unusedVariables false
namespace Go.Md
open Go.Vc
def tabL_3:List Int:=[1,10,100,1000,10000,100000,1000000,10000000,100000000,1000000000,10000000000,100000000000,1000000000000,10000000000000,100000000000000,1000000000000000,10000000000000000,100000000000000000,1000000000000000000,10000000000000000000]
theorem tabL_3_len:tabL_3.length=20:=rfl
def tabL_7:List Int:=[0,1,56,2,57,49,28,3,61,58,42,50,38,29,17,4,62,47,59,36,45,43,51,22,53,39,33,30,24,18,12,5,63,55,48,27,60,41,37,16,46,35,44,21,52,32,23,11,54,26,40,15,34,20,31,10,25,14,19,9,13,8,7,6]
theorem tabL_7_len:tabL_7.length=64:=rfl
instance theTabs:Tabs:=⟨fun b=>bif Nat.beq b 3 then some (.u64,tabL_3) else bif Nat.beq b 7 then some (.u8,tabL_7) else none,fun b=>bif Nat.beq b 1 then true else bif Nat.beq b 2 then true else false⟩
theorem ifc_1:Tabs.ifc 1=true:=rfl
theorem ifc_2:Tabs.ifc 2=true:=rfl
theorem tab_3:Tabs.tab 3=some (.u64,tabL_3):=rfl
attribute [go_sem] tab_3 tabL_3_len
theorem tab_7:Tabs.tab 7=some (.u8,tabL_7):=rfl
attribute [go_sem] tab_7 tabL_7_len
def ecB (b:Bool):List Dt:=[.b b]
def ecS (x:Str):List Dt:=[.s x]
def ecI_i8 (n:Int):List Dt:=[.i .i8 n]
def ecI_i16 (n:Int):List Dt:=[.i .i16 n]
def ecI_i32 (n:Int):List Dt:=[.i .i32 n]
def zaU (n:Int):List Dt:=[.i .i64 n]
def zac (n:Int):List Dt:=[.i .u8 n]
def ecI_u16 (n:Int):List Dt:=[.i .u16 n]
def ecI_u32 (n:Int):List Dt:=[.i .u32 n]
def ecI_u64 (n:Int):List Dt:=[.i .u64 n]
theorem dec1_s:∀ r,zeN r [.s]→∃ x,r=ecS x:=by
 intro r h
 rcases r with _ | ⟨d,_ | _⟩ <;> simp only [zeN,and_false,and_true] at h
 cases d <;> simp only [zeM] at h
 exact ⟨_,rfl⟩
theorem dec1_i64:∀ r,zeN r [.i .i64]→∃ x,r=zaU x:=by
 intro r h
 rcases r with _ | ⟨d,_ | _⟩ <;> simp only [zeN,and_false,and_true] at h
 cases d <;> simp only [zeM] at h
 subst h
 exact ⟨_,rfl⟩
theorem dec1_u8:∀ r,zeN r [.i .u8]→∃ x,r=zac x:=by
 intro r h
 rcases r with _ | ⟨d,_ | _⟩ <;> simp only [zeN,and_false,and_true] at h
 cases d <;> simp only [zeM] at h
 subst h
 exact ⟨_,rfl⟩
structure api_Version where
 Major:Int
 Minor:Int
 Patch:Int
 Early:Str
def zt (x:api_Version):List Dt:=[.i .i64 x.Major,.i .i64 x.Minor,.i .i64 x.Patch,.s x.Early]
def sh_api_Version:List Sh:=[.i .i64,.i .i64,.i .i64,.s]
theorem dec_api_Version:∀ r,zeN r sh_api_Version→∃ x:api_Version,r=zt x:=by
 intro r h
 unfold sh_api_Version at h
 rcases r with _ | ⟨d0,_ | ⟨d1,_ | ⟨d2,_ | ⟨d3,_ | _⟩⟩⟩⟩ <;> simp only [zeN,and_false,and_true] at h
 obtain ⟨h0,h1,h2,h3⟩:=h
 cases d0 <;> simp only [zeM] at h0
 subst h0
 cases d1 <;> simp only [zeM] at h1
 subst h1
 cases d2 <;> simp only [zeM] at h2
 subst h2
 cases d3 <;> simp only [zeM] at h3
 exact ⟨⟨_,_,_,_⟩,rfl⟩
structure api_Record where
 Time:Int
 Kind:Int
 Pack:Str
 From:api_Version
 To:api_Version
 Result:Int
 Note:Str
def za (x:api_Record):List Dt:=[.i .i64 x.Time,.i .i64 x.Kind,.s x.Pack,.i .i64 x.From.Major,.i .i64 x.From.Minor,.i .i64 x.From.Patch,.s x.From.Early,.i .i64 x.To.Major,.i .i64 x.To.Minor,.i .i64 x.To.Patch,.s x.To.Early,.i .i64 x.Result,.s x.Note]
def zdk:List Sh:=[.i .i64,.i .i64,.s,.i .i64,.i .i64,.i .i64,.s,.i .i64,.i .i64,.i .i64,.s,.i .i64,.s]
set_option maxRecDepth 100000 in
theorem dec_api_Record:∀ r,zeN r zdk→∃ x:api_Record,r=za x:=by
 intro r h
 unfold zdk at h
 rcases r with _ | ⟨d0,_ | ⟨d1,_ | ⟨d2,_ | ⟨d3,_ | ⟨d4,_ | ⟨d5,_ | ⟨d6,_ | ⟨d7,_ | ⟨d8,_ | ⟨d9,_ | ⟨d10,_ | ⟨d11,_ | ⟨d12,_ | _⟩⟩⟩⟩⟩⟩⟩⟩⟩⟩⟩⟩⟩ <;> simp only [zeN,and_false,and_true] at h
 obtain ⟨h0,h1,h2,h3,h4,h5,h6,h7,h8,h9,h10,h11,h12⟩:=h
 cases d0 <;> simp only [zeM] at h0
 subst h0
 cases d1 <;> simp only [zeM] at h1
 subst h1
 cases d2 <;> simp only [zeM] at h2
 cases d3 <;> simp only [zeM] at h3
 subst h3
 cases d4 <;> simp only [zeM] at h4
 subst h4
 cases d5 <;> simp only [zeM] at h5
 subst h5
 cases d6 <;> simp only [zeM] at h6
 cases d7 <;> simp only [zeM] at h7
 subst h7
 cases d8 <;> simp only [zeM] at h8
 subst h8
 cases d9 <;> simp only [zeM] at h9
 subst h9
 cases d10 <;> simp only [zeM] at h10
 cases d11 <;> simp only [zeM] at h11
 subst h11
 cases d12 <;> simp only [zeM] at h12
 exact ⟨⟨_,_,_,⟨_,_,_,_⟩,⟨_,_,_,_⟩,_,_⟩,rfl⟩
structure log_had where
 v:api_Version
 since:Int
def zq (x:log_had):List Dt:=[.i .i64 x.v.Major,.i .i64 x.v.Minor,.i .i64 x.v.Patch,.s x.v.Early,.i .i64 x.since]
def sh_log_had:List Sh:=[.i .i64,.i .i64,.i .i64,.s,.i .i64]
theorem dec_log_had:∀ r,zeN r sh_log_had→∃ x:log_had,r=zq x:=by
 intro r h
 unfold sh_log_had at h
 rcases r with _ | ⟨d0,_ | ⟨d1,_ | ⟨d2,_ | ⟨d3,_ | ⟨d4,_ | _⟩⟩⟩⟩⟩ <;> simp only [zeN,and_false,and_true] at h
 obtain ⟨h0,h1,h2,h3,h4⟩:=h
 cases d0 <;> simp only [zeM] at h0
 subst h0
 cases d1 <;> simp only [zeM] at h1
 subst h1
 cases d2 <;> simp only [zeM] at h2
 subst h2
 cases d3 <;> simp only [zeM] at h3
 cases d4 <;> simp only [zeM] at h4
 subst h4
 exact ⟨⟨⟨_,_,_,_⟩,_⟩,rfl⟩
structure api_Had where
 Pack:Str
 Version:api_Version
 Since:Int
def zH (x:api_Had):List Dt:=[.s x.Pack,.i .i64 x.Version.Major,.i .i64 x.Version.Minor,.i .i64 x.Version.Patch,.s x.Version.Early,.i .i64 x.Since]
def sh_api_Had:List Sh:=[.s,.i .i64,.i .i64,.i .i64,.s,.i .i64]
theorem dec_api_Had:∀ r,zeN r sh_api_Had→∃ x:api_Had,r=zH x:=by
 intro r h
 unfold sh_api_Had at h
 rcases r with _ | ⟨d0,_ | ⟨d1,_ | ⟨d2,_ | ⟨d3,_ | ⟨d4,_ | ⟨d5,_ | _⟩⟩⟩⟩⟩⟩ <;> simp only [zeN,and_false,and_true] at h
 obtain ⟨h0,h1,h2,h3,h4,h5⟩:=h
 cases d0 <;> simp only [zeM] at h0
 cases d1 <;> simp only [zeM] at h1
 subst h1
 cases d2 <;> simp only [zeM] at h2
 subst h2
 cases d3 <;> simp only [zeM] at h3
 subst h3
 cases d4 <;> simp only [zeM] at h4
 cases d5 <;> simp only [zeM] at h5
 subst h5
 exact ⟨⟨_,⟨_,_,_,_⟩,_⟩,rfl⟩
def zdT (x:List api_Record):List Dt:=[.l (List.map za x)]
def encL_enc_api_Had (x:List api_Had):List Dt:=[.l (List.map zH x)]
theorem sz_ecB:∀ l,zeI (1) (List.map ecB l)=True:=fun l=>eq_true (by intro r hr; obtain ⟨x,_,rfl⟩:=List.mem_map.1 hr; rfl)
theorem sz_ecS:∀ l,zeI (1) (List.map ecS l)=True:=fun l=>eq_true (by intro r hr; obtain ⟨x,_,rfl⟩:=List.mem_map.1 hr; rfl)
theorem sz_ecI_i64:∀ l,zeI (1) (List.map zaU l)=True:=fun l=>eq_true (by intro r hr; obtain ⟨x,_,rfl⟩:=List.mem_map.1 hr; rfl)
theorem sz_ecI_u8:∀ l,zeI (1) (List.map zac l)=True:=fun l=>eq_true (by intro r hr; obtain ⟨x,_,rfl⟩:=List.mem_map.1 hr; rfl)
theorem sz_ecI_u64:∀ l,zeI (1) (List.map ecI_u64 l)=True:=fun l=>eq_true (by intro r hr; obtain ⟨x,_,rfl⟩:=List.mem_map.1 hr; rfl)
theorem sz_ecI_i32:∀ l,zeI (1) (List.map ecI_i32 l)=True:=fun l=>eq_true (by intro r hr; obtain ⟨x,_,rfl⟩:=List.mem_map.1 hr; rfl)
theorem sz_ecI_u32:∀ l,zeI (1) (List.map ecI_u32 l)=True:=fun l=>eq_true (by intro r hr; obtain ⟨x,_,rfl⟩:=List.mem_map.1 hr; rfl)
theorem sz_enc_api_Version:∀ l,zeI (4) (List.map zt l)=True:=fun l=>eq_true (by intro r hr; obtain ⟨x,_,rfl⟩:=List.mem_map.1 hr; rfl)
theorem sz_enc_api_Record:∀ l,zeI (13) (List.map za l)=True:=fun l=>eq_true (by intro r hr; obtain ⟨x,_,rfl⟩:=List.mem_map.1 hr; rfl)
theorem sz_enc_log_had:∀ l,zeI (5) (List.map zq l)=True:=fun l=>eq_true (by intro r hr; obtain ⟨x,_,rfl⟩:=List.mem_map.1 hr; rfl)
theorem sz_enc_api_Had:∀ l,zeI (6) (List.map zH l)=True:=fun l=>eq_true (by intro r hr; obtain ⟨x,_,rfl⟩:=List.mem_map.1 hr; rfl)
theorem sz_encL_enc_api_Record:∀ l,zeI (1) (List.map zdT l)=True:=fun l=>eq_true (by intro r hr; obtain ⟨x,_,rfl⟩:=List.mem_map.1 hr; rfl)
theorem sz_encL_enc_api_Had:∀ l,zeI (1) (List.map encL_enc_api_Had l)=True:=fun l=>eq_true (by intro r hr; obtain ⟨x,_,rfl⟩:=List.mem_map.1 hr; rfl)
theorem allB_enc:∀ l:List Int,allB (List.map zac l)=True
 | []=>by simp only [List.map_nil,allB]
 | _::l=>by simp only [List.map_cons,zac,allB,allB_enc l,and_self]
theorem unB_enc:∀ l:List Int,unB (List.map zac l)=Go.Vc.strOf l
 | []=>by simp only [List.map_nil,unB,Go.Vc.strOf]
 | _::l=>by simp only [List.map_cons,zac,unB,unB_enc l,Go.Vc.strOf]
theorem bR_enc (l:Str):bR l=List.map zac (zbo l):=by simp [bR,zbo,zac]
attribute [go_sem] allB_enc unB_enc bR_enc
attribute [go_sem] ecB ecS zaU zac ecI_u64 ecI_i32 ecI_u32 zt za zq zH zdT encL_enc_api_Had sz_ecB sz_ecS sz_ecI_i64 sz_ecI_u8 sz_ecI_u64 sz_ecI_i32 sz_ecI_u32 sz_enc_api_Version sz_enc_api_Record sz_enc_log_had sz_enc_api_Had sz_encL_enc_api_Record sz_encL_enc_api_Had
noncomputable def zbH (c_1:Int):Option Bool :=
 some ((decide (97≤c_1)) && (decide (c_1≤122)))
noncomputable def zch (c_1:Int):Option Bool :=
 some ((decide (48≤c_1)) && (decide (c_1≤57)))
noncomputable def zc4 (c_1:Int):Option Bool :=
 call (zbH c_1) fun r_2 =>
 callG (!r_2) (zch c_1) false fun r_3 =>
 some (((r_2 || r_3) || (decide (c_1=45))) || (decide (c_1=46)))
noncomputable def zeH (s_1:Str) (most_2:Int):Option Bool :=
 jp (S:=Unit) (fun _ =>
  some ((!decide (s_1=[])) && (decide ((s_1.length:Int)≤most_2)))) fun k_12 =>
 forL s_1 0 (fun i_18 c_20 s nx_17 k_16 =>
  call (zc4 (c_20.toNat:Int)) fun r_21 =>
  bif !r_21 then
   some false
  else
  nx_17 ()) () (fun _ =>
  k_12 ())
noncomputable def zdy (s_1:Str):Option Bool :=
 call (zeH s_1 40) fun r_2 =>
 chk (r_2=true→(0≤0∧0 < (s_1.length:Int))) <|
 callG r_2 (zbH ((s_1.getD 0 0).toNat:Int)) false fun r_4 =>
 some (r_2 && r_4)
noncomputable def zeE :Option Bool :=
 call (zdy ([97]:Str)) fun r_1 =>
 some r_1
noncomputable def log_newTable :Option ((List (Str × log_had)) × Int) :=
 some ([],0)
noncomputable def log_New :Option ((List (Str × log_had)) × Int × Str) :=
 call (log_newTable) fun r_2 =>
 some (r_2.1,r_2.2,[])
noncomputable def R_when (bad_1:Bool) (e_2:Int):Option Int :=
 bif bad_1 then
  some e_2
 else
 some 0
noncomputable def R_IsName (s_1:Str):Option Bool :=
 jp (S:=Unit) (fun _ =>
  some ((!decide (s_1=[])) && (decide ((s_1.length:Int)≤40)))) fun k_9 =>
 forL s_1 0 (fun i_14 c_16 s nx_13 k_12 =>
  bif (((decide ((i_14:Int)=0)) && (!((decide (97≤(c_16.toNat:Int))) && (decide ((c_16.toNat:Int)≤122))))) || ((((!((decide (97≤(c_16.toNat:Int))) && (decide ((c_16.toNat:Int)≤122)))) && ((decide ((c_16.toNat:Int) < 48)) || (decide (57 < (c_16.toNat:Int))))) && (!decide ((c_16.toNat:Int)=45))) && (!decide ((c_16.toNat:Int)=46)))) then
   some false
  else
  nx_13 ()) () (fun _ =>
  k_9 ())
noncomputable def R_first (l_1:List Int):Option Int :=
 jp (S:=Unit) (fun _ =>
  some 0) fun k_9 =>
 forL l_1 0 (fun i_14 e_16 s nx_13 k_12 =>
  bif !decide (e_16=0) then
   some e_16
  else
  nx_13 ()) () (fun _ =>
  k_9 ())
noncomputable def R_In (n_1:Int) (low_2:Int) (high_3:Int):Option Bool :=
 some ((decide (low_2≤n_1)) && (decide (n_1≤high_3)))
noncomputable def zJ (s_1:Str) (c_2:Int):Option Int :=
 some (ixByte s_1 c_2)
noncomputable def zT (s_1:Str) (substr_2:Str):Option Int :=
 bif ((decide ((substr_2.length:Int)=0)) || (decide (substr_2=s_1))) then
  some 0
 else
 bif decide ((substr_2.length:Int)=1) then
  zdS substr_2 0 fun c_3 =>
  call (zJ s_1 c_3) fun r_4 =>
  some r_4
 else
 bif decide ((s_1.length:Int)≤(substr_2.length:Int)) then
  some (-1)
 else
 none
noncomputable def za0 (s_1:Str) (substr_2:Str):Option Int :=
 call (zT s_1 substr_2) fun r_3 =>
 some r_3
noncomputable def zcw (s_1:Str) (substr_2:Str):Option Int :=
 bif decide ((substr_2.length:Int)=0) then
  none
 else
 bif decide ((substr_2.length:Int)=1) then
  zdS substr_2 0 fun c_3 =>
  some (zeS s_1 c_3)
 else
 loopN zdd (fun s nx_15 k_14 =>
  match s with
  | (s_10,n_11) =>
   call (za0 s_10 substr_2) fun r_16 =>
   bif decide (r_16=(-1)) then
    some n_11
   else
   chk (0≤IntKind.i64.wrap (r_16+(substr_2.length:Int))∧IntKind.i64.wrap (r_16+(substr_2.length:Int))≤(s_10.length:Int)) <|
   nx_15 (List.drop ((IntKind.i64.wrap (r_16+(substr_2.length:Int))).toNat) s_10,IntKind.i64.wrap (n_11+1))) (s_1,0) (fun s=>match s with
  | (s_10,n_11) =>
   some 0)
noncomputable def zat (s_1:Str) (sep_2:Str) (sepSave_3:Int) (n_4:Int):Option (List Str) :=
 bif decide (n_4=0) then
  some []
 else
 bif decide (sep_2=[]) then
  none
 else
 jp (S:=Int) (fun n_6 =>
  chk (0≤min n_6 (IntKind.i64.wrap ((s_1.length:Int)+1))∧min n_6 (IntKind.i64.wrap ((s_1.length:Int)+1))≤min n_6 (IntKind.i64.wrap ((s_1.length:Int)+1))∧min n_6 (IntKind.i64.wrap ((s_1.length:Int)+1))≤274877906944) <|
  jp (S:=Str × Int × List Str) (fun s=>match s with
   | (s_28,i_29,o0_30) =>
    chk (0≤i_29∧i_29 < (o0_30.length:Int)) <|
    chk (0≤IntKind.i64.wrap (i_29+1)∧IntKind.i64.wrap (i_29+1)≤((List.set o0_30 i_29.toNat s_28).length:Int)) <|
    some (List.take ((IntKind.i64.wrap (i_29+1)).toNat) (List.set o0_30 i_29.toNat s_28))) fun k_31 =>
  loopN zdd (fun s nx_48 k_47 =>
   match s with
   | (s_40,i_41,o0_42) =>
    bif decide (i_41 < (IntKind.i64.wrap ((min n_6 (IntKind.i64.wrap ((s_1.length:Int)+1))) - 1))) then
     call (za0 s_40 sep_2) fun r_49 =>
     bif decide (r_49 < 0) then
      k_47 (s_40,i_41,o0_42)
     else
     chk (0≤IntKind.i64.wrap (r_49+sepSave_3)∧IntKind.i64.wrap (r_49+sepSave_3)≤(s_40.length:Int)) <|
     chk (0≤i_41∧i_41 < (o0_42.length:Int)) <|
     chk (0≤IntKind.i64.wrap (r_49+(sep_2.length:Int))∧IntKind.i64.wrap (r_49+(sep_2.length:Int))≤(s_40.length:Int)) <|
     nx_48 (List.drop ((IntKind.i64.wrap (r_49+(sep_2.length:Int))).toNat) s_40,IntKind.i64.wrap (i_41+1),List.set o0_42 i_41.toNat (List.take ((IntKind.i64.wrap (r_49+sepSave_3)).toNat) s_40))
    else
    k_47 (s_40,i_41,o0_42)) (s_1,0,List.replicate ((min n_6 (IntKind.i64.wrap ((s_1.length:Int)+1))).toNat) []) (fun s=>match s with
   | (s_40,i_41,o0_42) =>
    k_31 (s_40,i_41,o0_42))) fun k_7 =>
 bif decide (n_4 < 0) then
  call (zcw s_1 sep_2) fun r_53 =>
  k_7 (IntKind.i64.wrap (r_53+1))
 else
 k_7 n_4
noncomputable def zad (s_1:Str) (sep_2:Str):Option (List Str) :=
 call (zat s_1 sep_2 0 (-1)) fun r_3 =>
 some r_3
noncomputable def strings_Trim (s cut:Str):Option Str:=chk (cut.length≤4294967280∧(cut.all fun c=>decide (c.toNat < 128))=true) <| some (Go.Lib.trimS s cut)
noncomputable def zaz (s_1:Str) (c_2:Int):Option Int :=
 call (zJ s_1 c_2) fun r_3 =>
 some r_3
noncomputable def R_inner (s_1:Str) (bytes_2:Str):Option Bool :=
 jp (S:=Unit) (fun _ =>
  some true) fun k_12 =>
 forL s_1 0 (fun i_18 c_20 s nx_17 k_16 =>
  call (zaz bytes_2 (c_20.toNat:Int)) fun r_21 =>
  bif decide (r_21 < 0) then
   some false
  else
  nx_17 ()) () (fun _ =>
  k_12 ())
noncomputable def R_Of (s_1:Str) (bytes_2:Str):Option Bool :=
 call (strings_Trim s_1 bytes_2) fun r_3 =>
 callG (decide (r_3=[])) (R_inner s_1 bytes_2) false fun r_4 =>
 some ((decide (r_3=[])) && r_4)
noncomputable def zbb (l_1:List api_Version):Option Int :=
 jp (S:=Unit) (fun _ =>
  some 0) fun k_144 =>
 forL l_1 0 (fun i_217 v_219 s nx_216 k_215 =>
  jp (S:=Unit) (fun _ =>
   nx_216 ()) fun k_253 =>
  jp (S:=Unit) (fun _ =>
   bif decide (v_219.Early=[]) then
    k_253 ()
   else
   bif decide (40 < (v_219.Early.length:Int)) then
    some 2
   else
   call (zad v_219.Early ([46]:Str)) fun r_264 =>
   forL r_264 0 (fun i_272 s_274 s nx_271 k_270 =>
    callG (!((decide (s_274=[])) || (decide (10 < (s_274.length:Int))))) (R_Of s_274 ([97,98,99,100,101,102,103,104,105,106,107,108,109,110,111,112,113,114,115,116,117,118,119,120,121,122,48,49,50,51,52,53,54,55,56,57]:Str)) false fun r_275 =>
    callG (!(((decide (s_274=[])) || (decide (10 < (s_274.length:Int)))) || (!r_275))) (R_Of s_274 ([48,49,50,51,52,53,54,55,56,57]:Str)) false fun r_276 =>
    chk (((!(((decide (s_274=[])) || (decide (10 < (s_274.length:Int)))) || (!r_275))) && (r_276 && (decide (1 < (s_274.length:Int)))))=true→(0≤0∧0 < (s_274.length:Int))) <|
    bif ((((decide (s_274=[])) || (decide (10 < (s_274.length:Int)))) || (!r_275)) || ((r_276 && (decide (1 < (s_274.length:Int)))) && (decide (((s_274.getD 0 0).toNat:Int)=48)))) then
     some 2
    else
    nx_271 ()) () (fun _ =>
    k_253 ())) fun k_263 =>
  forL [v_219.Major,v_219.Minor,v_219.Patch] 0 (fun i_283 n_285 s nx_282 k_281 =>
   call (R_In n_285 0 999999) fun r_286 =>
   bif !r_286 then
    some 3
   else
   nx_282 ()) () (fun _ =>
   k_263 ())) () (fun _ =>
  k_144 ())
noncomputable def zcG (x_1:Int):Option Bool :=
 some (!decide (x_1=x_1))
noncomputable def zI (x_1:Int) (y_2:Int):Option Int :=
 call (zcG x_1) fun r_3 =>
 call (zcG y_2) fun r_4 =>
 bif r_3 then
  bif r_4 then
   some 0
  else
  some (-1)
 else
 bif r_4 then
  some 1
 else
 bif decide (x_1 < y_2) then
  some (-1)
 else
 bif decide (y_2 < x_1) then
  some 1
 else
 some 0
noncomputable def zdD (vals_1:List Int):Option Int :=
 jp (S:=Unit) (fun _ =>
  some 0) fun k_9 =>
 forL vals_1 0 (fun i_14 n_16 s nx_13 k_12 =>
  bif !decide (n_16=0) then
   some n_16
  else
  nx_13 ()) () (fun _ =>
  k_9 ())
noncomputable def zau (s:Str):Option (Int × Bool):=some (atoiV s,atoiE s)
noncomputable def zaG (a_1:Str) (b_2:Str):Option Int :=
 some (cmpB a_1 b_2)
noncomputable def zbK (a_1:Str) (b_2:Str):Option Int :=
 call (zaG a_1 b_2) fun r_3 =>
 some r_3
noncomputable def zdZ (a_1:api_Version) (b_2:api_Version):Option Int :=
 call (zI a_1.Major b_2.Major) fun r_3 =>
 call (zI a_1.Minor b_2.Minor) fun r_4 =>
 call (zI a_1.Patch b_2.Patch) fun r_5 =>
 call (zdD [r_3,r_4,r_5]) fun r_6 =>
 bif !decide (r_6=0) then
  some r_6
 else
 bif ((decide (a_1.Early=[])) || (decide (b_2.Early=[]))) then
  call (zI (min 1 (b_2.Early.length:Int)) (min 1 (a_1.Early.length:Int))) fun r_7 =>
  some r_7
 else
 call (zad a_1.Early ([46]:Str)) fun r_11 =>
 call (zad b_2.Early ([46]:Str)) fun r_12 =>
 jp (S:=Unit) (fun _ =>
  call (zI (r_11.length:Int) (r_12.length:Int)) fun r_51 =>
  some r_51) fun k_50 =>
 loopN zdd (fun t64_64 nx_77 k_76 =>
  bif decide (t64_64 < (min (r_11.length:Int) (r_12.length:Int))) then
   idx r_11 t64_64 fun s_78 =>
   call (R_Of s_78 ([48,49,50,51,52,53,54,55,56,57]:Str)) fun r_79 =>
   idx r_12 t64_64 fun s_80 =>
   call (R_Of s_80 ([48,49,50,51,52,53,54,55,56,57]:Str)) fun r_81 =>
   call (zau s_78) fun r_82 =>
   call (zau s_80) fun r_83 =>
   call (zbK s_78 s_80) fun r_84 =>
   jp (S:=Int) (fun c_86 =>
    bif !decide (c_86=0) then
     some c_86
    else
    nx_77 (IntKind.i64.wrap (t64_64+1))) fun k_87 =>
   bif (r_79 && r_81) then
    call (zI r_82.1 r_83.1) fun r_88 =>
    k_87 r_88
   else
   bif r_79 then
    k_87 (-1)
   else
   bif r_81 then
    k_87 1
   else
   k_87 r_84
  else
  k_76 t64_64) 0 (fun t64_64 =>
  k_50 ())
noncomputable def R_IsValue (s_1:Str):Option Bool :=
 jp (S:=Unit) (fun _ =>
  some (decide ((s_1.length:Int)≤1000))) fun k_9 =>
 forL s_1 0 (fun i_14 c_16 s nx_13 k_12 =>
  bif ((decide ((c_16.toNat:Int) < 32)) || (decide (126 < (c_16.toNat:Int)))) then
   some false
  else
  nx_13 ()) () (fun _ =>
  k_9 ())
noncomputable def zaS (r_1:api_Record):Option Int :=
 call (R_when ((decide (r_1.Time < 0)) || (decide (1099511627776 < r_1.Time))) 3) fun r_2 =>
 call (R_when ((decide (r_1.Kind < 1)) || (decide (6 < r_1.Kind))) 1) fun r_3 =>
 call (R_IsName r_1.Pack) fun r_4 =>
 call (R_when (!r_4) 5) fun r_5 =>
 call (R_first [r_2,r_3,r_5]) fun r_6 =>
 jp (S:=Int) (fun e_10 =>
  bif !decide (e_10=0) then
   some e_10
  else
  bif ((!decide ((!((decide (r_1.From.Major=0)) && ((decide (r_1.From.Minor=0)) && ((decide (r_1.From.Patch=0)) && (decide (r_1.From.Early=[]))))))=(((decide (r_1.Kind=2)) || (decide (r_1.Kind=3))) || (decide (r_1.Kind=4))))) || ((!decide ((!((decide (r_1.To.Major=0)) && ((decide (r_1.To.Minor=0)) && ((decide (r_1.To.Patch=0)) && (decide (r_1.To.Early=[]))))))=(!decide (r_1.Kind=4)))) && (!decide (r_1.Kind=6)))) then
   some 2
  else
  call (zdZ r_1.From r_1.To) fun r_12 =>
  call (R_when (((decide (r_1.Kind=2)) && (decide (0≤r_12))) || ((decide (r_1.Kind=3)) && (decide (r_12≤0)))) 11) fun r_13 =>
  call (R_when ((decide (r_1.Result < 0)) || (decide (18 < r_1.Result))) 3) fun r_14 =>
  call (R_IsValue r_1.Note) fun r_15 =>
  call (R_when (!r_15) 2) fun r_16 =>
  call (R_first [r_13,r_14,r_16]) fun r_17 =>
  some r_17) fun k_11 =>
 bif decide (r_6=0) then
  call (zbb [r_1.From]) fun r_18 =>
  call (zbb [r_1.To]) fun r_19 =>
  call (R_first [r_18,r_19]) fun r_20 =>
  k_11 r_20
 else
 k_11 r_6
noncomputable def zx (s_1:List api_Record):Option (List api_Record) :=
 anyOf (fun b_5:Bool=>b_5=true→s_1=[]) fun b_5 =>
 bif b_5 then
  some []
 else
 chk (([]++s_1).length≤274877906944) <|
 some ([]++s_1)
noncomputable def zdF (r_1:api_Record) (m0_2:List (Str × api_Had)):Option (Bool × (List (Str × api_Had))) :=
 letv (zbE m0_2 r_1.Pack) fun q_15 =>
 jp (S:=Unit) (fun _ =>
  bif !decide (r_1.Result=0) then
   some (true,m0_2)
  else
  jp (S:=Bool) (fun t48_20 =>
   bif t48_20 then
    chk ((aset m0_2 r_1.Pack (api_Had.mk r_1.Pack r_1.To r_1.Time)).length≤274877906944) <|
    some (true,aset m0_2 r_1.Pack (api_Had.mk r_1.Pack r_1.To r_1.Time))
   else
   bif decide (r_1.Kind=4) then
    some (true,adel m0_2 r_1.Pack)
   else
   some (true,m0_2)) fun k_21 =>
  bif decide (r_1.Kind=1) then
   k_21 (decide (r_1.Kind=1))
  else
  bif decide (r_1.Kind=2) then
   k_21 (decide (r_1.Kind=2))
  else
  k_21 (decide (r_1.Kind=3))) fun k_19 =>
 bif decide (r_1.Kind=1) then
  bif q_15.isSome then
   some (false,m0_2)
  else
  k_19 ()
 else
 bif decide (r_1.Kind=5) then
  bif ((!q_15.isSome) || (!((decide ((((q_15.getD (api_Had.mk [] (api_Version.mk 0 0 0 []) 0)).Version).Major)=r_1.To.Major)) && ((decide ((((q_15.getD (api_Had.mk [] (api_Version.mk 0 0 0 []) 0)).Version).Minor)=r_1.To.Minor)) && ((decide ((((q_15.getD (api_Had.mk [] (api_Version.mk 0 0 0 []) 0)).Version).Patch)=r_1.To.Patch)) && (decide ((((q_15.getD (api_Had.mk [] (api_Version.mk 0 0 0 []) 0)).Version).Early)=r_1.To.Early))))))) then
   some (false,m0_2)
  else
  k_19 ()
 else
 jp (S:=Bool) (fun t30_25 =>
  bif t30_25 then
   bif ((!q_15.isSome) || (!((decide ((((q_15.getD (api_Had.mk [] (api_Version.mk 0 0 0 []) 0)).Version).Major)=r_1.From.Major)) && ((decide ((((q_15.getD (api_Had.mk [] (api_Version.mk 0 0 0 []) 0)).Version).Minor)=r_1.From.Minor)) && ((decide ((((q_15.getD (api_Had.mk [] (api_Version.mk 0 0 0 []) 0)).Version).Patch)=r_1.From.Patch)) && (decide ((((q_15.getD (api_Had.mk [] (api_Version.mk 0 0 0 []) 0)).Version).Early)=r_1.From.Early))))))) then
    some (false,m0_2)
   else
   k_19 ()
  else
  k_19 ()) fun k_26 =>
 bif decide (r_1.Kind=2) then
  k_26 (decide (r_1.Kind=2))
 else
 bif decide (r_1.Kind=3) then
  k_26 (decide (r_1.Kind=3))
 else
 k_26 (decide (r_1.Kind=4))
noncomputable def zb8 (l_1:List api_Record):Option Int :=
 bif decide (5000 < (l_1.length:Int)) then
  some 4
 else
 jp (S:=Unit) (fun _ =>
  some 0) fun k_48 =>
 forL l_1 0 (fun i_80 r_82 m0_64 nx_79 k_78 =>
  call (zaS r_82) fun r_83 =>
  jp (S:=Int) (fun e_86 =>
   jp (S:=Int × (List (Str × api_Had))) (fun s=>match s with
    | (e_89,m0_90) =>
     bif !decide (e_89=0) then
      some e_89
     else
     nx_79 m0_90) fun k_91 =>
   callG (decide (e_86=0)) (zdF r_82 m0_64) (false,m0_64) fun r_92 =>
   bif ((decide (e_86=0)) && (!r_92.1)) then
    k_91 (12,r_92.2)
   else
   k_91 (e_86,r_92.2)) fun k_87 =>
  chk (((decide (r_83=0)) && (decide (0 < (i_80:Int))))=true→(0≤IntKind.i64.wrap ((i_80:Int) - 1)∧IntKind.i64.wrap ((i_80:Int) - 1) < (l_1.length:Int))) <|
  bif (((decide (r_83=0)) && (decide (0 < (i_80:Int)))) && (decide (r_82.Time < ((l_1.getD ((IntKind.i64.wrap ((i_80:Int) - 1)).toNat) (api_Record.mk 0 0 [] (api_Version.mk 0 0 0 []) (api_Version.mk 0 0 0 []) 0 [])).Time)))) then
   k_87 7
  else
  k_87 r_83) [] (fun m0_64 =>
  k_48 ())
noncomputable def zcV (n_1:Int) (low_2:Int) (high_3:Int):Option Bool :=
 some ((decide (n_1 < low_2)) || (decide (high_3 < n_1)))
noncomputable def zcg (n_1:Int) (low_2:Int) (high_3:Int):Option Bool :=
 some ((decide (n_1 < low_2)) || (decide (high_3 < n_1)))
noncomputable def zcv (c_1:Int):Option Bool :=
 call (zbH c_1) fun r_2 =>
 callG (!r_2) (zch c_1) false fun r_3 =>
 some (r_2 || r_3)
noncomputable def zdJ (s_1:Str) (most_2:Int):Option Bool :=
 jp (S:=Unit) (fun _ =>
  some ((!decide (s_1=[])) && (decide ((s_1.length:Int)≤most_2)))) fun k_12 =>
 forL s_1 0 (fun i_18 c_20 s nx_17 k_16 =>
  call (zcv (c_20.toNat:Int)) fun r_21 =>
  bif !r_21 then
   some false
  else
  nx_17 ()) () (fun _ =>
  k_12 ())
noncomputable def zcL (s_1:Str) (most_2:Int):Option Bool :=
 jp (S:=Unit) (fun _ =>
  some ((!decide (s_1=[])) && (decide ((s_1.length:Int)≤most_2)))) fun k_12 =>
 forL s_1 0 (fun i_18 c_20 s nx_17 k_16 =>
  call (zch (c_20.toNat:Int)) fun r_21 =>
  bif !r_21 then
   some false
  else
  nx_17 ()) () (fun _ =>
  k_12 ())
noncomputable def zbr (s_1:Str):Option Bool :=
 call (zcL s_1 10) fun r_2 =>
 some r_2
noncomputable def zdI (s_1:Str):Option Bool :=
 jp (S:=Unit) (fun _ =>
  some (decide ((s_1.length:Int)≤40))) fun k_16 =>
 call (zad s_1 ([46]:Str)) fun r_17 =>
 forL r_17 0 (fun i_25 s_27 s nx_24 k_23 =>
  call (zdJ s_27 10) fun r_28 =>
  callG (!(!r_28)) (zbr s_27) false fun r_29 =>
  chk (((!(!r_28)) && r_29)=true→(0≤0∧0 < (s_27.length:Int))) <|
  bif ((!r_28) || ((r_29 && (decide (((s_27.getD 0 0).toNat:Int)=48))) && (!decide (s_27=([48]:Str))))) then
   some false
  else
  nx_24 ()) () (fun _ =>
  k_16 ())
noncomputable def zc5 (v_1:api_Version):Option Int :=
 jp (S:=Unit) (fun _ =>
  callG (!decide (v_1.Early=[])) (zdI v_1.Early) false fun r_18 =>
  bif ((!decide (v_1.Early=[])) && (!r_18)) then
   some 2
  else
  some 0) fun k_17 =>
 call (zcg v_1.Major 0 999999) fun r_31 =>
 bif r_31 then
  some 3
 else
 call (zcg v_1.Minor 0 999999) fun r_32 =>
 bif r_32 then
  some 3
 else
 call (zcg v_1.Patch 0 999999) fun r_33 =>
 bif r_33 then
  some 3
 else
 k_17 ()
noncomputable def log_uses (kind_1:Int):Option (Bool × Bool) :=
 jp (S:=Bool) (fun t5_2 =>
  bif t5_2 then
   some (true,true)
  else
  bif decide (kind_1=4) then
   some (true,false)
  else
  some (false,true)) fun k_3 =>
 bif decide (kind_1=2) then
  k_3 (decide (kind_1=2))
 else
 k_3 (decide (kind_1=3))
noncomputable def zbt (a_1:Str) (b_2:Str):Option Int :=
 call (zbr a_1) fun r_3 =>
 call (zbr b_2) fun r_4 =>
 jp (S:=Unit) (fun _ =>
  call (zbK a_1 b_2) fun r_7 =>
  some r_7) fun k_6 =>
 bif (r_3 && r_4) then
  bif !decide ((a_1.length:Int)=(b_2.length:Int)) then
   call (zI (a_1.length:Int) (b_2.length:Int)) fun r_8 =>
   some r_8
  else
  k_6 ()
 else
 bif r_3 then
  some (-1)
 else
 bif r_4 then
  some 1
 else
 k_6 ()
noncomputable def zbu (a_1:Str) (b_2:Str):Option Int :=
 bif decide (a_1=b_2) then
  some 0
 else
 bif decide (a_1=[]) then
  some 1
 else
 bif decide (b_2=[]) then
  some (-1)
 else
 call (zad a_1 ([46]:Str)) fun r_3 =>
 call (zad b_2 ([46]:Str)) fun r_4 =>
 jp (S:=Unit) (fun _ =>
  call (zI (r_3.length:Int) (r_4.length:Int)) fun r_15 =>
  some r_15) fun k_14 =>
 loopN zdd (fun t28_16 nx_21 k_20 =>
  bif decide (t28_16 < (min (r_3.length:Int) (r_4.length:Int))) then
   idx r_3 t28_16 fun s_22 =>
   idx r_4 t28_16 fun s_23 =>
   call (zbt s_22 s_23) fun r_24 =>
   bif !decide (r_24=0) then
    some r_24
   else
   nx_21 (IntKind.i64.wrap (t28_16+1))
  else
  k_20 t28_16) 0 (fun t28_16 =>
  k_14 ())
noncomputable def ver_Order (a_1:api_Version) (b_2:api_Version):Option Int :=
 call (zI a_1.Major b_2.Major) fun r_3 =>
 call (zI a_1.Minor b_2.Minor) fun r_4 =>
 call (zI a_1.Patch b_2.Patch) fun r_5 =>
 call (zbu a_1.Early b_2.Early) fun r_6 =>
 call (zdD [r_3,r_4,r_5,r_6]) fun r_7 =>
 some r_7
noncomputable def zdi (c_1:Int):Option Bool :=
 some ((decide (32≤c_1)) && (decide (c_1≤126)))
noncomputable def zeG (s_1:Str) (most_2:Int):Option Bool :=
 jp (S:=Unit) (fun _ =>
  some ((!decide (s_1=[])) && (decide ((s_1.length:Int)≤most_2)))) fun k_12 =>
 forL s_1 0 (fun i_18 c_20 s nx_17 k_16 =>
  call (zdi (c_20.toNat:Int)) fun r_21 =>
  bif !r_21 then
   some false
  else
  nx_17 ()) () (fun _ =>
  k_12 ())
noncomputable def zdK (s_1:Str):Option Bool :=
 callG (!(decide (s_1=[]))) (zeG s_1 1000) false fun r_2 =>
 some ((decide (s_1=[])) || r_2)
noncomputable def zaT (r_1:api_Record):Option Int :=
 call (zcV r_1.Time 0 1099511627776) fun r_2 =>
 bif r_2 then
  some 3
 else
 call (zcV r_1.Kind 1 6) fun r_3 =>
 bif r_3 then
  some 1
 else
 call (zdy r_1.Pack) fun r_4 =>
 bif !r_4 then
  some 5
 else
 jp (S:=Unit) (fun _ =>
  call (log_uses r_1.Kind) fun r_20 =>
  bif ((!decide (r_20.1=(!((decide (r_1.From.Major=0)) && ((decide (r_1.From.Minor=0)) && ((decide (r_1.From.Patch=0)) && (decide (r_1.From.Early=[])))))))) || ((!decide (r_20.2=(!((decide (r_1.To.Major=0)) && ((decide (r_1.To.Minor=0)) && ((decide (r_1.To.Patch=0)) && (decide (r_1.To.Early=[])))))))) && (!decide (r_1.Kind=6)))) then
   some 2
  else
  call (ver_Order r_1.From r_1.To) fun r_21 =>
  bif (((decide (r_1.Kind=2)) && (decide (0≤r_21))) || ((decide (r_1.Kind=3)) && (decide (r_21≤0)))) then
   some 11
  else
  call (zcV r_1.Result 0 18) fun r_22 =>
  bif r_22 then
   some 3
  else
  call (zdK r_1.Note) fun r_23 =>
  bif !r_23 then
   some 2
  else
  some 0) fun k_19 =>
 call (zc5 r_1.From) fun r_36 =>
 bif !decide (r_36=0) then
  some r_36
 else
 call (zc5 r_1.To) fun r_37 =>
 bif !decide (r_37=0) then
  some r_37
 else
 k_19 ()
noncomputable def za5 (r_1:api_Record) (o0_1_2:Int) (m1_3:List (Str × log_had)):Option Int :=
 bif decide (r_1.Time < o0_1_2) then
  some 7
 else
 letv (zbE m1_3 r_1.Pack) fun q_12 =>
 jp (S:=Bool) (fun bad_16 =>
  bif bad_16 then
   some 12
  else
  some 0) fun k_17 =>
 bif decide (r_1.Kind=1) then
  k_17 q_12.isSome
 else
 jp (S:=Bool) (fun t30_18 =>
  bif t30_18 then
   k_17 ((!q_12.isSome) || (!((decide ((((q_12.getD (log_had.mk (api_Version.mk 0 0 0 []) 0)).v).Major)=r_1.From.Major)) && ((decide ((((q_12.getD (log_had.mk (api_Version.mk 0 0 0 []) 0)).v).Minor)=r_1.From.Minor)) && ((decide ((((q_12.getD (log_had.mk (api_Version.mk 0 0 0 []) 0)).v).Patch)=r_1.From.Patch)) && (decide ((((q_12.getD (log_had.mk (api_Version.mk 0 0 0 []) 0)).v).Early)=r_1.From.Early)))))))
  else
  bif decide (r_1.Kind=5) then
   k_17 ((!q_12.isSome) || (!((decide ((((q_12.getD (log_had.mk (api_Version.mk 0 0 0 []) 0)).v).Major)=r_1.To.Major)) && ((decide ((((q_12.getD (log_had.mk (api_Version.mk 0 0 0 []) 0)).v).Minor)=r_1.To.Minor)) && ((decide ((((q_12.getD (log_had.mk (api_Version.mk 0 0 0 []) 0)).v).Patch)=r_1.To.Patch)) && (decide ((((q_12.getD (log_had.mk (api_Version.mk 0 0 0 []) 0)).v).Early)=r_1.To.Early)))))))
  else
  k_17 false) fun k_19 =>
 bif decide (r_1.Kind=2) then
  k_19 (decide (r_1.Kind=2))
 else
 bif decide (r_1.Kind=3) then
  k_19 (decide (r_1.Kind=3))
 else
 k_19 (decide (r_1.Kind=4))
noncomputable def strconv_Itoa (n:Int):Option Str:=chk (-9223372036854775808≤n∧n≤9223372036854775807) <| some (Go.Lib.itoa n)
noncomputable def zds :Option (List Str) :=
 some [[],([105,110,115,116,97,108,108]:Str),([117,112,100,97,116,101]:Str),([98,97,99,107]:Str),([114,101,109,111,118,101]:Str),([114,101,112,97,105,114]:Str),([99,104,101,99,107]:Str)]
noncomputable def ver_text (v_1:api_Version):Option Str :=
 call (strconv_Itoa v_1.Major) fun r_2 =>
 chk ((r_2++([46]:Str)).length≤274877906944) <|
 call (strconv_Itoa v_1.Minor) fun r_4 =>
 chk (((r_2++([46]:Str))++r_4).length≤274877906944) <|
 chk ((((r_2++([46]:Str))++r_4)++([46]:Str)).length≤274877906944) <|
 call (strconv_Itoa v_1.Patch) fun r_7 =>
 chk (((((r_2++([46]:Str))++r_4)++([46]:Str))++r_7).length≤274877906944) <|
 bif !decide (v_1.Early=[]) then
  chk ((([45]:Str)++v_1.Early).length≤274877906944) <|
  chk ((((((r_2++([46]:Str))++r_4)++([46]:Str))++r_7)++(([45]:Str)++v_1.Early)).length≤274877906944) <|
  some (((((r_2++([46]:Str))++r_4)++([46]:Str))++r_7)++(([45]:Str)++v_1.Early))
 else
 some ((((r_2++([46]:Str))++r_4)++([46]:Str))++r_7)
noncomputable def ver_Print (v_1:api_Version):Option (Str × Int) :=
 call (zc5 v_1) fun r_2 =>
 bif !decide (r_2=0) then
  some ([],r_2)
 else
 call (ver_text v_1) fun r_3 =>
 some (r_3,0)
noncomputable def zbm (v_1:api_Version):Option Str :=
 bif ((decide (v_1.Major=0)) && ((decide (v_1.Minor=0)) && ((decide (v_1.Patch=0)) && (decide (v_1.Early=[]))))) then
  some ([45]:Str)
 else
 call (ver_Print v_1) fun r_2 =>
 some r_2.1
noncomputable def zeA (s_1:Str):Option Str :=
 chk (0≤0∧0≤IntKind.i64.wrap ((s_1.length:Int)+2)∧IntKind.i64.wrap ((s_1.length:Int)+2)≤274877906944) <|
 chk (((List.replicate 0 0)++[34]).length≤274877906944) <|
 jp (S:=List Int) (fun o0_32 =>
  chk ((o0_32++[34]).length≤274877906944) <|
  some (Go.Vc.strOf (o0_32++[34]))) fun k_33 =>
 forL s_1 0 (fun i_54 c_56 o0_44 nx_53 k_52 =>
  bif ((decide ((c_56.toNat:Int)=92)) || (decide ((c_56.toNat:Int)=34))) then
   chk ((o0_44++[92,(c_56.toNat:Int)]).length≤274877906944) <|
   nx_53 (o0_44++[92,(c_56.toNat:Int)])
  else
  bif decide ((c_56.toNat:Int)=10) then
   chk ((o0_44++[92,110]).length≤274877906944) <|
   nx_53 (o0_44++[92,110])
  else
  bif ((decide ((c_56.toNat:Int) < 32)) || (decide (126 < (c_56.toNat:Int)))) then
   zdS ([48,49,50,51,52,53,54,55,56,57,97,98,99,100,101,102]:Str) (Int.fdiv (c_56.toNat:Int) (2 ^ (shI .u8 4))) fun c_59 =>
   zdS ([48,49,50,51,52,53,54,55,56,57,97,98,99,100,101,102]:Str) (zaw .and .u8 (c_56.toNat:Int) 15) fun c_60 =>
   chk ((o0_44++[92,120,c_59,c_60]).length≤274877906944) <|
   nx_53 (o0_44++[92,120,c_59,c_60])
  else
  chk ((o0_44++[(c_56.toNat:Int)]).length≤274877906944) <|
  nx_53 (o0_44++[(c_56.toNat:Int)])) ((List.replicate 0 0)++[34]) (fun o0_44 =>
  k_33 o0_44)
noncomputable def zaL (n:Int) (o0:Str):Option Unit:=chk (0≤n∧n≤274877906944) <| some ()
noncomputable def zbG (o1_1:Str):Option Unit :=
 some ()
noncomputable def zbF (o1_1:Str):Option Unit :=
 some ()
noncomputable def zaP (o0:Str):Option Unit:=some ()
noncomputable def zh (s_1:Str) (o1_2:Str):Option (Int × Str) :=
 call (zaP o1_2) fun r_5 =>
 chk ((o1_2++s_1).length≤274877906944) <|
 some ((s_1.length:Int),o1_2++s_1)
noncomputable def zB (o1_1:Str):Option Str :=
 some o1_1
noncomputable def zbJ (elems_1:List Str) (sep_2:Str):Option Str :=
 bif decide ((elems_1.length:Int)=0) then
  some []
 else
 bif decide ((elems_1.length:Int)=1) then
  idx elems_1 0 fun s_3 =>
  some s_3
 else
 jp (S:=Int) (fun n_5 =>
  jp (S:=Int) (fun n_15 =>
   call (zaL n_15 []) fun r_17 =>
   idx elems_1 0 fun s_18 =>
   call (zh s_18 []) fun r_19 =>
   jp (S:=Str) (fun o1_37 =>
    call (zB o1_37) fun r_39 =>
    some r_39) fun k_38 =>
   chk (0≤1∧1≤(elems_1.length:Int)) <|
   forL (List.drop 1 elems_1) 0 (fun i_52 s_54 o1_46 nx_51 k_50 =>
    call (zh sep_2 o1_46) fun r_55 =>
    call (zh s_54 r_55.2) fun r_56 =>
    nx_51 r_56.2) r_19.2 (fun o1_46 =>
    k_38 o1_46)) fun k_16 =>
  forL elems_1 0 (fun i_62 s_64 n_57 nx_61 k_60 =>
   bif decide ((IntKind.i64.wrap (9223372036854775807 - n_57)) < (s_64.length:Int)) then
    none
   else
   nx_61 (IntKind.i64.wrap (n_57+(s_64.length:Int)))) n_5 (fun n_57 =>
   k_16 n_57)) fun k_6 =>
 bif decide (0 < (sep_2.length:Int)) then
  chk (¬ (IntKind.i64.wrap ((elems_1.length:Int) - 1))=0) <|
  bif decide ((IntKind.i64.wrap (Int.tdiv 9223372036854775807 (IntKind.i64.wrap ((elems_1.length:Int) - 1))))≤(sep_2.length:Int)) then
   none
  else
  k_6 (IntKind.i64.wrap (0+(IntKind.i64.wrap ((sep_2.length:Int) * (IntKind.i64.wrap ((elems_1.length:Int) - 1))))))
 else
 k_6 0
noncomputable def zb3 (r_1:api_Record):Option Str :=
 call (strconv_Itoa r_1.Time) fun r_4 =>
 call (zds) fun r_5 =>
 idx r_5 r_1.Kind fun s_6 =>
 call (zbm r_1.From) fun r_7 =>
 call (zbm r_1.To) fun r_8 =>
 call (strconv_Itoa r_1.Result) fun r_9 =>
 call (zeA r_1.Note) fun r_10 =>
 call (zbJ [r_4,s_6,r_1.Pack,r_7,r_8,r_9,r_10] ([32]:Str)) fun r_11 =>
 some r_11
noncomputable def zdB (text_1:Str):Option Str :=
 jp (S:=Int) (fun n_10 =>
  jp (S:=List Int) (fun o0_26 =>
   some (Go.Vc.strOf o0_26)) fun k_27 =>
  loopN zdd (fun s nx_38 k_37 =>
   match s with
   | (t23_32,o0_33) =>
    bif decide (t23_32 < ((List.replicate 16 0).length:Int)) then
     chk (0≤(IntKind.i64.wrap (60 - (IntKind.i64.wrap (4 * t23_32))))) <|
     zdS ([48,49,50,51,52,53,54,55,56,57,97,98,99,100,101,102]:Str) (zaw .and .u64 (Int.fdiv n_10 (2 ^ (shI .u64 (IntKind.i64.wrap (60 - (IntKind.i64.wrap (4 * t23_32))))))) 15) fun c_40 =>
     chk (0≤t23_32∧t23_32 < (o0_33.length:Int)) <|
     nx_38 (IntKind.i64.wrap (t23_32+1),List.set o0_33 t23_32.toNat c_40)
    else
    k_37 (t23_32,o0_33)) (0,List.replicate 16 0) (fun s=>match s with
   | (t23_32,o0_33) =>
    k_27 o0_33)) fun k_11 =>
 forL text_1 0 (fun i_47 c_49 n_42 nx_46 k_45 =>
  nx_46 (IntKind.u64.wrap ((zaw .xor .u64 n_42 (IntKind.u64.wrap (c_49.toNat:Int))) * 1099511628211))) 14695981039346656037 (fun n_42 =>
  k_11 n_42)
noncomputable def zbx (r_1:api_Record) (o0_1_2:Int) (m1_3:List (Str × log_had)):Option (Int × (List (Str × log_had))) :=
 bif !decide (r_1.Result=0) then
  some (r_1.Time,m1_3)
 else
 jp (S:=Bool) (fun t14_9 =>
  bif t14_9 then
   chk ((aset m1_3 r_1.Pack (log_had.mk r_1.To r_1.Time)).length≤274877906944) <|
   some (r_1.Time,aset m1_3 r_1.Pack (log_had.mk r_1.To r_1.Time))
  else
  bif decide (r_1.Kind=4) then
   some (r_1.Time,adel m1_3 r_1.Pack)
  else
  some (r_1.Time,m1_3)) fun k_10 =>
 bif decide (r_1.Kind=1) then
  k_10 (decide (r_1.Kind=1))
 else
 bif decide (r_1.Kind=2) then
  k_10 (decide (r_1.Kind=2))
 else
 k_10 (decide (r_1.Kind=3))
noncomputable def zb4 (r_1:api_Record) (o0_2_2:Str) (o1_3:List api_Record) (o2_4:List Str) (o3_1_5:Int) (m4_6:List (Str × log_had)):Option (Int × Str × List api_Record × List Str × Int × (List (Str × log_had))) :=
 call (zaT r_1) fun r_20 =>
 bif !decide (r_20=0) then
  some (r_20,o0_2_2,o1_3,o2_4,o3_1_5,m4_6)
 else
 call (za5 r_1 o3_1_5 m4_6) fun r_21 =>
 bif decide (r_21=7) then
  some (r_21,o0_2_2,o1_3,o2_4,o3_1_5,m4_6)
 else
 bif decide (5000≤(o1_3.length:Int)) then
  some (15,o0_2_2,o1_3,o2_4,o3_1_5,m4_6)
 else
 bif !decide (r_21=0) then
  some (r_21,o0_2_2,o1_3,o2_4,o3_1_5,m4_6)
 else
 call (zb3 r_1) fun r_22 =>
 chk ((o0_2_2++r_22).length≤274877906944) <|
 call (zdB (o0_2_2++r_22)) fun r_24 =>
 chk ((o1_3++[r_1]).length≤274877906944) <|
 chk ((r_22++([32]:Str)).length≤274877906944) <|
 chk (((r_22++([32]:Str))++r_24).length≤274877906944) <|
 chk ((((r_22++([32]:Str))++r_24)++([10]:Str)).length≤274877906944) <|
 chk ((o2_4++[((r_22++([32]:Str))++r_24)++([10]:Str)]).length≤274877906944) <|
 call (zbx r_1 o3_1_5 m4_6) fun r_30 =>
 some (0,r_24,o1_3++[r_1],o2_4++[((r_22++([32]:Str))++r_24)++([10]:Str)],r_30.1,r_30.2)
noncomputable def zdx :Option (List Str) :=
 some [[],([105,110,115,116,97,108,108]:Str),([117,112,100,97,116,101]:Str),([98,97,99,107]:Str),([114,101,109,111,118,101]:Str),([114,101,112,97,105,114]:Str),([99,104,101,99,107]:Str)]
noncomputable def zcJ (v_1:api_Version):Option Str :=
 call (strconv_Itoa v_1.Major) fun r_2 =>
 chk ((r_2++([46]:Str)).length≤274877906944) <|
 call (strconv_Itoa v_1.Minor) fun r_4 =>
 chk (((r_2++([46]:Str))++r_4).length≤274877906944) <|
 chk ((((r_2++([46]:Str))++r_4)++([46]:Str)).length≤274877906944) <|
 call (strconv_Itoa v_1.Patch) fun r_7 =>
 chk (((((r_2++([46]:Str))++r_4)++([46]:Str))++r_7).length≤274877906944) <|
 bif !decide (v_1.Early=[]) then
  chk ((([45]:Str)++v_1.Early).length≤274877906944) <|
  chk ((((((r_2++([46]:Str))++r_4)++([46]:Str))++r_7)++(([45]:Str)++v_1.Early)).length≤274877906944) <|
  some (((((r_2++([46]:Str))++r_4)++([46]:Str))++r_7)++(([45]:Str)++v_1.Early))
 else
 some ((((r_2++([46]:Str))++r_4)++([46]:Str))++r_7)
noncomputable def zbC (v_1:api_Version):Option Str :=
 bif ((decide (v_1.Major=0)) && ((decide (v_1.Minor=0)) && ((decide (v_1.Patch=0)) && (decide (v_1.Early=[]))))) then
  some ([45]:Str)
 else
 call (zcJ v_1) fun r_2 =>
 some r_2
noncomputable def R_Quote (s_1:Str):Option Str :=
 jp (S:=Str) (fun out_32 =>
  chk ((out_32++([34]:Str)).length≤274877906944) <|
  some (out_32++([34]:Str))) fun k_33 =>
 forL s_1 0 (fun i_51 c_53 out_35 nx_50 k_49 =>
  bif ((decide ((c_53.toNat:Int)=34)) || (decide ((c_53.toNat:Int)=92))) then
   chk (0≤(i_51:Int)∧(i_51:Int)≤(s_1.length:Int)∧0≤IntKind.i64.wrap ((i_51:Int)+1)∧IntKind.i64.wrap ((i_51:Int)+1)≤(s_1.length:Int)∧(i_51:Int)≤IntKind.i64.wrap ((i_51:Int)+1)) <|
   chk ((([92]:Str)++(List.take ((IntKind.i64.wrap ((i_51:Int)+1)).toNat - i_51) (List.drop i_51 s_1))).length≤274877906944) <|
   chk ((out_35++(([92]:Str)++(List.take ((IntKind.i64.wrap ((i_51:Int)+1)).toNat - i_51) (List.drop i_51 s_1)))).length≤274877906944) <|
   nx_50 (out_35++(([92]:Str)++(List.take ((IntKind.i64.wrap ((i_51:Int)+1)).toNat - i_51) (List.drop i_51 s_1))))
  else
  bif decide ((c_53.toNat:Int)=10) then
   chk ((out_35++([92,110]:Str)).length≤274877906944) <|
   nx_50 (out_35++([92,110]:Str))
  else
  bif ((decide ((c_53.toNat:Int) < 32)) || (decide (126 < (c_53.toNat:Int)))) then
   chk (0≤Int.fdiv (c_53.toNat:Int) (2 ^ (shI .u8 4))∧Int.fdiv (c_53.toNat:Int) (2 ^ (shI .u8 4))≤(([48,49,50,51,52,53,54,55,56,57,97,98,99,100,101,102]:Str).length:Int)∧0≤IntKind.u8.wrap ((Int.fdiv (c_53.toNat:Int) (2 ^ (shI .u8 4)))+1)∧IntKind.u8.wrap ((Int.fdiv (c_53.toNat:Int) (2 ^ (shI .u8 4)))+1)≤(([48,49,50,51,52,53,54,55,56,57,97,98,99,100,101,102]:Str).length:Int)∧Int.fdiv (c_53.toNat:Int) (2 ^ (shI .u8 4))≤IntKind.u8.wrap ((Int.fdiv (c_53.toNat:Int) (2 ^ (shI .u8 4)))+1)) <|
   chk ((([92,120]:Str)++(List.take ((IntKind.u8.wrap ((Int.fdiv (c_53.toNat:Int) (2 ^ (shI .u8 4)))+1)).toNat - (Int.fdiv (c_53.toNat:Int) (2 ^ (shI .u8 4))).toNat) (List.drop ((Int.fdiv (c_53.toNat:Int) (2 ^ (shI .u8 4))).toNat) ([48,49,50,51,52,53,54,55,56,57,97,98,99,100,101,102]:Str)))).length≤274877906944) <|
   chk (0≤zaw .and .u8 (c_53.toNat:Int) 15∧zaw .and .u8 (c_53.toNat:Int) 15≤(([48,49,50,51,52,53,54,55,56,57,97,98,99,100,101,102]:Str).length:Int)∧0≤IntKind.u8.wrap ((zaw .and .u8 (c_53.toNat:Int) 15)+1)∧IntKind.u8.wrap ((zaw .and .u8 (c_53.toNat:Int) 15)+1)≤(([48,49,50,51,52,53,54,55,56,57,97,98,99,100,101,102]:Str).length:Int)∧zaw .and .u8 (c_53.toNat:Int) 15≤IntKind.u8.wrap ((zaw .and .u8 (c_53.toNat:Int) 15)+1)) <|
   chk (((([92,120]:Str)++(List.take ((IntKind.u8.wrap ((Int.fdiv (c_53.toNat:Int) (2 ^ (shI .u8 4)))+1)).toNat - (Int.fdiv (c_53.toNat:Int) (2 ^ (shI .u8 4))).toNat) (List.drop ((Int.fdiv (c_53.toNat:Int) (2 ^ (shI .u8 4))).toNat) ([48,49,50,51,52,53,54,55,56,57,97,98,99,100,101,102]:Str))))++(List.take ((IntKind.u8.wrap ((zaw .and .u8 (c_53.toNat:Int) 15)+1)).toNat - (zaw .and .u8 (c_53.toNat:Int) 15).toNat) (List.drop ((zaw .and .u8 (c_53.toNat:Int) 15).toNat) ([48,49,50,51,52,53,54,55,56,57,97,98,99,100,101,102]:Str)))).length≤274877906944) <|
   chk ((out_35++((([92,120]:Str)++(List.take ((IntKind.u8.wrap ((Int.fdiv (c_53.toNat:Int) (2 ^ (shI .u8 4)))+1)).toNat - (Int.fdiv (c_53.toNat:Int) (2 ^ (shI .u8 4))).toNat) (List.drop ((Int.fdiv (c_53.toNat:Int) (2 ^ (shI .u8 4))).toNat) ([48,49,50,51,52,53,54,55,56,57,97,98,99,100,101,102]:Str))))++(List.take ((IntKind.u8.wrap ((zaw .and .u8 (c_53.toNat:Int) 15)+1)).toNat - (zaw .and .u8 (c_53.toNat:Int) 15).toNat) (List.drop ((zaw .and .u8 (c_53.toNat:Int) 15).toNat) ([48,49,50,51,52,53,54,55,56,57,97,98,99,100,101,102]:Str))))).length≤274877906944) <|
   nx_50 (out_35++((([92,120]:Str)++(List.take ((IntKind.u8.wrap ((Int.fdiv (c_53.toNat:Int) (2 ^ (shI .u8 4)))+1)).toNat - (Int.fdiv (c_53.toNat:Int) (2 ^ (shI .u8 4))).toNat) (List.drop ((Int.fdiv (c_53.toNat:Int) (2 ^ (shI .u8 4))).toNat) ([48,49,50,51,52,53,54,55,56,57,97,98,99,100,101,102]:Str))))++(List.take ((IntKind.u8.wrap ((zaw .and .u8 (c_53.toNat:Int) 15)+1)).toNat - (zaw .and .u8 (c_53.toNat:Int) 15).toNat) (List.drop ((zaw .and .u8 (c_53.toNat:Int) 15).toNat) ([48,49,50,51,52,53,54,55,56,57,97,98,99,100,101,102]:Str)))))
  else
  chk (0≤(i_51:Int)∧(i_51:Int)≤(s_1.length:Int)∧0≤IntKind.i64.wrap ((i_51:Int)+1)∧IntKind.i64.wrap ((i_51:Int)+1)≤(s_1.length:Int)∧(i_51:Int)≤IntKind.i64.wrap ((i_51:Int)+1)) <|
  chk ((out_35++(List.take ((IntKind.i64.wrap ((i_51:Int)+1)).toNat - i_51) (List.drop i_51 s_1))).length≤274877906944) <|
  nx_50 (out_35++(List.take ((IntKind.i64.wrap ((i_51:Int)+1)).toNat - i_51) (List.drop i_51 s_1)))) ([34]:Str) (fun out_35 =>
  k_33 out_35)
noncomputable def zdb (r_1:api_Record):Option Str :=
 call (strconv_Itoa r_1.Time) fun r_4 =>
 call (zdx) fun r_5 =>
 idx r_5 r_1.Kind fun s_6 =>
 call (zbC r_1.From) fun r_7 =>
 call (zbC r_1.To) fun r_8 =>
 call (strconv_Itoa r_1.Result) fun r_9 =>
 call (R_Quote r_1.Note) fun r_10 =>
 call (zbJ [r_4,s_6,r_1.Pack,r_7,r_8,r_9,r_10] ([32]:Str)) fun r_11 =>
 some r_11
noncomputable def zak (x_1:Int):Option Bool :=
 some (decide ((zaw .and .i64 x_1 (IntKind.i64.wrap (x_1 - 1)))=0))
noncomputable def zba (x_1:Int):Option Int :=
 bif decide (x_1=0) then
  some 64
 else
 chk (0≤Int.fdiv (IntKind.u64.wrap ((zaw .and .u64 x_1 (IntKind.u64.wrap (-x_1))) * 285870213051353865)) (2 ^ (shI .u64 58))∧Int.fdiv (IntKind.u64.wrap ((zaw .and .u64 x_1 (IntKind.u64.wrap (-x_1))) * 285870213051353865)) (2 ^ (shI .u64 58)) < (64:Int)) <|
 some (IntKind.i64.wrap (tabL_7.getD ((Int.fdiv (IntKind.u64.wrap ((zaw .and .u64 x_1 (IntKind.u64.wrap (-x_1))) * 285870213051353865)) (2 ^ (shI .u64 58))).toNat) 0))
noncomputable def zaR (x_1:Int):Option Int :=
 call (zba x_1) fun r_2 =>
 some r_2
noncomputable def zaa (dst_1:List Int) (u_2:Int) (base_3:Int) (neg_4:Bool) (append__5:Bool):Option (List Int × Str) :=
 jp (S:=Unit) (fun _ =>
  jp (S:=Int) (fun u_7 =>
   jp (S:=Int × List Int) (fun s=>match s with
    | (i_87,o0_88) =>
     jp (S:=Int × List Int) (fun s=>match s with
      | (i_91,o0_92) =>
       bif append__5 then
        chk (o0_92.length=65∧0≤i_91∧i_91≤(65:Int)) <|
        none
       else
       chk (o0_92.length=65∧0≤i_91∧i_91≤(65:Int)) <|
       some ([],Go.Vc.strOf (List.take (65 - i_91.toNat) (List.drop i_91.toNat o0_92)))) fun k_93 =>
     bif neg_4 then
      chk (0≤IntKind.i64.wrap (i_87 - 1)∧IntKind.i64.wrap (i_87 - 1) < (65:Int)∧65=o0_88.length) <|
      k_93 (IntKind.i64.wrap (i_87 - 1),List.set o0_88 ((IntKind.i64.wrap (i_87 - 1)).toNat) 45)
     else
     k_93 (i_87,o0_88)) fun k_89 =>
   call (zak base_3) fun r_97 =>
   bif r_97 then
    call (zaR (IntKind.u64.wrap base_3)) fun r_98 =>
    jp (S:=Int × Int × List Int) (fun s=>match s with
     | (u_115,i_116,o0_117) =>
      zdS ([48,49,50,51,52,53,54,55,56,57,97,98,99,100,101,102,103,104,105,106,107,108,109,110,111,112,113,114,115,116,117,118,119,120,121,122]:Str) u_115 fun c_119 =>
      chk (0≤IntKind.i64.wrap (i_116 - 1)∧IntKind.i64.wrap (i_116 - 1) < (65:Int)∧65=o0_117.length) <|
      k_89 (IntKind.i64.wrap (i_116 - 1),List.set o0_117 ((IntKind.i64.wrap (i_116 - 1)).toNat) c_119)) fun k_118 =>
    loopN zdd (fun s nx_133 k_132 =>
     match s with
     | (u_126,i_127,o0_128) =>
      bif decide ((IntKind.u64.wrap base_3)≤u_126) then
       zdS ([48,49,50,51,52,53,54,55,56,57,97,98,99,100,101,102,103,104,105,106,107,108,109,110,111,112,113,114,115,116,117,118,119,120,121,122]:Str) (zaw .and .u64 u_126 (IntKind.u64.wrap ((IntKind.u64.wrap base_3) - 1))) fun c_134 =>
       chk (0≤IntKind.i64.wrap (i_127 - 1)∧IntKind.i64.wrap (i_127 - 1) < (65:Int)∧65=o0_128.length) <|
       chk (0≤(IntKind.u64.wrap r_98)) <|
       nx_133 (Int.fdiv u_126 (2 ^ (shI .u64 (IntKind.u64.wrap r_98))),IntKind.i64.wrap (i_127 - 1),List.set o0_128 ((IntKind.i64.wrap (i_127 - 1)).toNat) c_134)
      else
      k_132 (u_126,i_127,o0_128)) (u_7,65,List.replicate 65 0) (fun s=>match s with
     | (u_126,i_127,o0_128) =>
      k_118 (u_126,i_127,o0_128))
   else
   jp (S:=Int × Int × List Int) (fun s=>match s with
    | (u_153,i_154,o0_155) =>
     zdS ([48,49,50,51,52,53,54,55,56,57,97,98,99,100,101,102,103,104,105,106,107,108,109,110,111,112,113,114,115,116,117,118,119,120,121,122]:Str) u_153 fun c_157 =>
     chk (0≤IntKind.i64.wrap (i_154 - 1)∧IntKind.i64.wrap (i_154 - 1) < (65:Int)∧65=o0_155.length) <|
     k_89 (IntKind.i64.wrap (i_154 - 1),List.set o0_155 ((IntKind.i64.wrap (i_154 - 1)).toNat) c_157)) fun k_156 =>
   loopN zdd (fun s nx_171 k_170 =>
    match s with
    | (u_164,i_165,o0_166) =>
     bif decide ((IntKind.u64.wrap base_3)≤u_164) then
      chk (¬ (IntKind.u64.wrap base_3)=0) <|
      zdS ([48,49,50,51,52,53,54,55,56,57,97,98,99,100,101,102,103,104,105,106,107,108,109,110,111,112,113,114,115,116,117,118,119,120,121,122]:Str) (IntKind.u64.wrap (u_164 - (IntKind.u64.wrap ((IntKind.u64.wrap (Int.tdiv u_164 (IntKind.u64.wrap base_3))) * (IntKind.u64.wrap base_3))))) fun c_173 =>
      chk (0≤IntKind.i64.wrap (i_165 - 1)∧IntKind.i64.wrap (i_165 - 1) < (65:Int)∧65=o0_166.length) <|
      nx_171 (IntKind.u64.wrap (Int.tdiv u_164 (IntKind.u64.wrap base_3)),IntKind.i64.wrap (i_165 - 1),List.set o0_166 ((IntKind.i64.wrap (i_165 - 1)).toNat) c_173)
     else
     k_170 (u_164,i_165,o0_166)) (u_7,65,List.replicate 65 0) (fun s=>match s with
    | (u_164,i_165,o0_166) =>
     k_156 (u_164,i_165,o0_166))) fun k_8 =>
  bif neg_4 then
   k_8 (IntKind.u64.wrap (-u_2))
  else
  k_8 u_2) fun k_6 =>
 bif (((decide (base_3 < 2)) || (decide (base_3=10))) || (decide (36 < base_3))) then
  none
 else
 k_6 ()
noncomputable def zaq (i_1:Int) (base_2:Int):Option Str :=
 bif decide (base_2=10) then
  bif decide (i_1 < 100) then
   none
  else
  none
 else
 call (zaa [] i_1 base_2 false false) fun r_3 =>
 some r_3.2
noncomputable def za1 (i_1:Int) (base_2:Int):Option Str :=
 call (zaq i_1 base_2) fun r_3 =>
 some r_3
noncomputable def zdQ (x_1:Int) (y_2:Int):Option (Int × Int) :=
 some (IntKind.u64.wrap ((IntKind.u64.wrap ((IntKind.u64.wrap ((Int.fdiv x_1 (2 ^ (shI .u64 32))) * (Int.fdiv y_2 (2 ^ (shI .u64 32)))))+(Int.fdiv (IntKind.u64.wrap ((IntKind.u64.wrap ((Int.fdiv x_1 (2 ^ (shI .u64 32))) * (zaw .and .u64 y_2 4294967295)))+(Int.fdiv (IntKind.u64.wrap ((zaw .and .u64 x_1 4294967295) * (zaw .and .u64 y_2 4294967295))) (2 ^ (shI .u64 32))))) (2 ^ (shI .u64 32)))))+(Int.fdiv (IntKind.u64.wrap ((zaw .and .u64 (IntKind.u64.wrap ((IntKind.u64.wrap ((Int.fdiv x_1 (2 ^ (shI .u64 32))) * (zaw .and .u64 y_2 4294967295)))+(Int.fdiv (IntKind.u64.wrap ((zaw .and .u64 x_1 4294967295) * (zaw .and .u64 y_2 4294967295))) (2 ^ (shI .u64 32))))) 4294967295)+(IntKind.u64.wrap ((zaw .and .u64 x_1 4294967295) * (Int.fdiv y_2 (2 ^ (shI .u64 32))))))) (2 ^ (shI .u64 32)))),IntKind.u64.wrap (x_1 * y_2))
noncomputable def zdq (x_1:Int) (y_2:Int):Option (Int × Int) :=
 call (zdQ x_1 y_2) fun r_3 =>
 some (r_3.1,r_3.2)
noncomputable def zaF (s_1:Str) (prefix_2:Str):Option Bool :=
 chk ((decide ((prefix_2.length:Int)≤(s_1.length:Int)))=true→(0≤(prefix_2.length:Int)∧(prefix_2.length:Int)≤(s_1.length:Int))) <|
 some ((decide ((prefix_2.length:Int)≤(s_1.length:Int))) && (decide ((List.take prefix_2.length s_1)=prefix_2)))
noncomputable def zZ (s_1:Str) (prefix_2:Str):Option Bool :=
 call (zaF s_1 prefix_2) fun r_3 =>
 some r_3
noncomputable def zax (o1_1:Str):Option Int :=
 some (o1_1.length:Int)
noncomputable def zb0 (s_1:Str) (count_2:Int):Option Str :=
 bif decide (count_2=0) then
  some []
 else
 bif decide (count_2=1) then
  some s_1
 else
 jp (S:=Unit) (fun _ =>
  call (zdq (IntKind.u64.wrap (s_1.length:Int)) (IntKind.u64.wrap count_2)) fun r_4 =>
  jp (S:=Unit) (fun _ =>
   bif decide ((s_1.length:Int)=0) then
    some []
   else
   jp (S:=Unit) (fun _ =>
    jp (S:=Int) (fun chunkMax_21 =>
     call (zaL (IntKind.i64.wrap r_4.2) []) fun r_23 =>
     call (zh s_1 []) fun r_24 =>
     jp (S:=Str) (fun o1_46 =>
      call (zB o1_46) fun r_48 =>
      some r_48) fun k_47 =>
     loopN zdd (fun o1_55 nx_63 k_62 =>
      call (zax o1_55) fun r_64 =>
      bif decide (r_64 < (IntKind.i64.wrap r_4.2)) then
       call (zax o1_55) fun r_65 =>
       call (zax o1_55) fun r_66 =>
       call (zB o1_55) fun r_67 =>
       chk (0≤min (min (IntKind.i64.wrap ((IntKind.i64.wrap r_4.2) - r_65)) r_66) chunkMax_21∧min (min (IntKind.i64.wrap ((IntKind.i64.wrap r_4.2) - r_65)) r_66) chunkMax_21≤(r_67.length:Int)) <|
       call (zh (List.take ((min (min (IntKind.i64.wrap ((IntKind.i64.wrap r_4.2) - r_65)) r_66) chunkMax_21).toNat) r_67) o1_55) fun r_69 =>
       nx_63 r_69.2
      else
      k_62 o1_55) r_24.2 (fun o1_55 =>
      k_47 o1_55)) fun k_22 =>
    bif decide (8192 < (IntKind.i64.wrap r_4.2)) then
     chk (¬ (s_1.length:Int)=0) <|
     bif decide ((IntKind.i64.wrap ((IntKind.i64.wrap (Int.tdiv 8192 (s_1.length:Int))) * (s_1.length:Int)))=0) then
      k_22 (s_1.length:Int)
     else
     k_22 (IntKind.i64.wrap ((IntKind.i64.wrap (Int.tdiv 8192 (s_1.length:Int))) * (s_1.length:Int)))
    else
    k_22 (IntKind.i64.wrap r_4.2)) fun k_19 =>
   zdS s_1 0 fun c_71 =>
   jp (S:=Bool) (fun t43_72 =>
    bif t43_72 then
     callG (decide ((IntKind.i64.wrap r_4.2)≤128)) (zZ ((List.append [32,32,32,32,32,32,32,32,32,32,32,32,32,32,32,32,32,32,32,32,32,32,32,32,32,32,32,32,32,32,32,32,32,32,32,32,32,32,32,32,32,32,32,32,32,32,32,32,32,32,32,32,32,32,32,32,32,32,32,32,32,32,32,32] [32,32,32,32,32,32,32,32,32,32,32,32,32,32,32,32,32,32,32,32,32,32,32,32,32,32,32,32,32,32,32,32,32,32,32,32,32,32,32,32,32,32,32,32,32,32,32,32,32,32,32,32,32,32,32,32,32,32,32,32,32,32,32,32]):Str) s_1) false fun r_74 =>
     bif ((decide ((IntKind.i64.wrap r_4.2)≤128)) && r_74) then
      chk (0≤IntKind.i64.wrap r_4.2∧IntKind.i64.wrap r_4.2≤(((List.append [32,32,32,32,32,32,32,32,32,32,32,32,32,32,32,32,32,32,32,32,32,32,32,32,32,32,32,32,32,32,32,32,32,32,32,32,32,32,32,32,32,32,32,32,32,32,32,32,32,32,32,32,32,32,32,32,32,32,32,32,32,32,32,32] [32,32,32,32,32,32,32,32,32,32,32,32,32,32,32,32,32,32,32,32,32,32,32,32,32,32,32,32,32,32,32,32,32,32,32,32,32,32,32,32,32,32,32,32,32,32,32,32,32,32,32,32,32,32,32,32,32,32,32,32,32,32,32,32]):Str).length:Int)) <|
      some (List.take ((IntKind.i64.wrap r_4.2).toNat) ((List.append [32,32,32,32,32,32,32,32,32,32,32,32,32,32,32,32,32,32,32,32,32,32,32,32,32,32,32,32,32,32,32,32,32,32,32,32,32,32,32,32,32,32,32,32,32,32,32,32,32,32,32,32,32,32,32,32,32,32,32,32,32,32,32,32] [32,32,32,32,32,32,32,32,32,32,32,32,32,32,32,32,32,32,32,32,32,32,32,32,32,32,32,32,32,32,32,32,32,32,32,32,32,32,32,32,32,32,32,32,32,32,32,32,32,32,32,32,32,32,32,32,32,32,32,32,32,32,32,32]):Str))
     else
     callG (decide ((IntKind.i64.wrap r_4.2)≤128)) (zZ ((List.append [45,45,45,45,45,45,45,45,45,45,45,45,45,45,45,45,45,45,45,45,45,45,45,45,45,45,45,45,45,45,45,45,45,45,45,45,45,45,45,45,45,45,45,45,45,45,45,45,45,45,45,45,45,45,45,45,45,45,45,45,45,45,45,45] [45,45,45,45,45,45,45,45,45,45,45,45,45,45,45,45,45,45,45,45,45,45,45,45,45,45,45,45,45,45,45,45,45,45,45,45,45,45,45,45,45,45,45,45,45,45,45,45,45,45,45,45,45,45,45,45,45,45,45,45,45,45,45,45]):Str) s_1) false fun r_76 =>
     bif ((decide ((IntKind.i64.wrap r_4.2)≤128)) && r_76) then
      chk (0≤IntKind.i64.wrap r_4.2∧IntKind.i64.wrap r_4.2≤(((List.append [45,45,45,45,45,45,45,45,45,45,45,45,45,45,45,45,45,45,45,45,45,45,45,45,45,45,45,45,45,45,45,45,45,45,45,45,45,45,45,45,45,45,45,45,45,45,45,45,45,45,45,45,45,45,45,45,45,45,45,45,45,45,45,45] [45,45,45,45,45,45,45,45,45,45,45,45,45,45,45,45,45,45,45,45,45,45,45,45,45,45,45,45,45,45,45,45,45,45,45,45,45,45,45,45,45,45,45,45,45,45,45,45,45,45,45,45,45,45,45,45,45,45,45,45,45,45,45,45]):Str).length:Int)) <|
      some (List.take ((IntKind.i64.wrap r_4.2).toNat) ((List.append [45,45,45,45,45,45,45,45,45,45,45,45,45,45,45,45,45,45,45,45,45,45,45,45,45,45,45,45,45,45,45,45,45,45,45,45,45,45,45,45,45,45,45,45,45,45,45,45,45,45,45,45,45,45,45,45,45,45,45,45,45,45,45,45] [45,45,45,45,45,45,45,45,45,45,45,45,45,45,45,45,45,45,45,45,45,45,45,45,45,45,45,45,45,45,45,45,45,45,45,45,45,45,45,45,45,45,45,45,45,45,45,45,45,45,45,45,45,45,45,45,45,45,45,45,45,45,45,45]):Str))
     else
     callG (decide ((IntKind.i64.wrap r_4.2)≤64)) (zZ ([48,48,48,48,48,48,48,48,48,48,48,48,48,48,48,48,48,48,48,48,48,48,48,48,48,48,48,48,48,48,48,48,48,48,48,48,48,48,48,48,48,48,48,48,48,48,48,48,48,48,48,48,48,48,48,48,48,48,48,48,48,48,48,48]:Str) s_1) false fun r_78 =>
     bif ((decide ((IntKind.i64.wrap r_4.2)≤64)) && r_78) then
      chk (0≤IntKind.i64.wrap r_4.2∧IntKind.i64.wrap r_4.2≤(([48,48,48,48,48,48,48,48,48,48,48,48,48,48,48,48,48,48,48,48,48,48,48,48,48,48,48,48,48,48,48,48,48,48,48,48,48,48,48,48,48,48,48,48,48,48,48,48,48,48,48,48,48,48,48,48,48,48,48,48,48,48,48,48]:Str).length:Int)) <|
      some (List.take ((IntKind.i64.wrap r_4.2).toNat) ([48,48,48,48,48,48,48,48,48,48,48,48,48,48,48,48,48,48,48,48,48,48,48,48,48,48,48,48,48,48,48,48,48,48,48,48,48,48,48,48,48,48,48,48,48,48,48,48,48,48,48,48,48,48,48,48,48,48,48,48,48,48,48,48]:Str))
     else
     callG (decide ((IntKind.i64.wrap r_4.2)≤128)) (zZ ((List.append [61,61,61,61,61,61,61,61,61,61,61,61,61,61,61,61,61,61,61,61,61,61,61,61,61,61,61,61,61,61,61,61,61,61,61,61,61,61,61,61,61,61,61,61,61,61,61,61,61,61,61,61,61,61,61,61,61,61,61,61,61,61,61,61] [61,61,61,61,61,61,61,61,61,61,61,61,61,61,61,61,61,61,61,61,61,61,61,61,61,61,61,61,61,61,61,61,61,61,61,61,61,61,61,61,61,61,61,61,61,61,61,61,61,61,61,61,61,61,61,61,61,61,61,61,61,61,61,61]):Str) s_1) false fun r_80 =>
     bif ((decide ((IntKind.i64.wrap r_4.2)≤128)) && r_80) then
      chk (0≤IntKind.i64.wrap r_4.2∧IntKind.i64.wrap r_4.2≤(((List.append [61,61,61,61,61,61,61,61,61,61,61,61,61,61,61,61,61,61,61,61,61,61,61,61,61,61,61,61,61,61,61,61,61,61,61,61,61,61,61,61,61,61,61,61,61,61,61,61,61,61,61,61,61,61,61,61,61,61,61,61,61,61,61,61] [61,61,61,61,61,61,61,61,61,61,61,61,61,61,61,61,61,61,61,61,61,61,61,61,61,61,61,61,61,61,61,61,61,61,61,61,61,61,61,61,61,61,61,61,61,61,61,61,61,61,61,61,61,61,61,61,61,61,61,61,61,61,61,61]):Str).length:Int)) <|
      some (List.take ((IntKind.i64.wrap r_4.2).toNat) ((List.append [61,61,61,61,61,61,61,61,61,61,61,61,61,61,61,61,61,61,61,61,61,61,61,61,61,61,61,61,61,61,61,61,61,61,61,61,61,61,61,61,61,61,61,61,61,61,61,61,61,61,61,61,61,61,61,61,61,61,61,61,61,61,61,61] [61,61,61,61,61,61,61,61,61,61,61,61,61,61,61,61,61,61,61,61,61,61,61,61,61,61,61,61,61,61,61,61,61,61,61,61,61,61,61,61,61,61,61,61,61,61,61,61,61,61,61,61,61,61,61,61,61,61,61,61,61,61,61,61]):Str))
     else
     callG (decide ((IntKind.i64.wrap r_4.2)≤64)) (zZ ([9,9,9,9,9,9,9,9,9,9,9,9,9,9,9,9,9,9,9,9,9,9,9,9,9,9,9,9,9,9,9,9,9,9,9,9,9,9,9,9,9,9,9,9,9,9,9,9,9,9,9,9,9,9,9,9,9,9,9,9,9,9,9,9]:Str) s_1) false fun r_82 =>
     bif ((decide ((IntKind.i64.wrap r_4.2)≤64)) && r_82) then
      chk (0≤IntKind.i64.wrap r_4.2∧IntKind.i64.wrap r_4.2≤(([9,9,9,9,9,9,9,9,9,9,9,9,9,9,9,9,9,9,9,9,9,9,9,9,9,9,9,9,9,9,9,9,9,9,9,9,9,9,9,9,9,9,9,9,9,9,9,9,9,9,9,9,9,9,9,9,9,9,9,9,9,9,9,9]:Str).length:Int)) <|
      some (List.take ((IntKind.i64.wrap r_4.2).toNat) ([9,9,9,9,9,9,9,9,9,9,9,9,9,9,9,9,9,9,9,9,9,9,9,9,9,9,9,9,9,9,9,9,9,9,9,9,9,9,9,9,9,9,9,9,9,9,9,9,9,9,9,9,9,9,9,9,9,9,9,9,9,9,9,9]:Str))
     else
     k_19 ()
    else
    k_19 ()) fun k_73 =>
   bif decide (c_71=32) then
    k_73 (decide (c_71=32))
   else
   bif decide (c_71=45) then
    k_73 (decide (c_71=45))
   else
   bif decide (c_71=48) then
    k_73 (decide (c_71=48))
   else
   bif decide (c_71=61) then
    k_73 (decide (c_71=61))
   else
   k_73 (decide (c_71=9))) fun k_5 =>
  bif ((decide (0 < r_4.1)) || (decide (9223372036854775807 < r_4.2))) then
   none
  else
  k_5 ()) fun k_3 =>
 bif decide (count_2 < 0) then
  none
 else
 k_3 ()
noncomputable def R_SumOf (s_1:Str):Option Str :=
 jp (S:=Int) (fun h_10 =>
  call (za1 h_10 16) fun r_12 =>
  call (zb0 ([48]:Str) (IntKind.i64.wrap (16 - (r_12.length:Int)))) fun r_13 =>
  chk ((r_13++r_12).length≤274877906944) <|
  some (r_13++r_12)) fun k_11 =>
 forL s_1 0 (fun i_20 c_22 h_15 nx_19 k_18 =>
  nx_19 (IntKind.u64.wrap ((zaw .xor .u64 h_15 (IntKind.u64.wrap (c_22.toNat:Int))) * 1099511628211))) 14695981039346656037 (fun h_15 =>
  k_11 h_15)
noncomputable def R_LogText (l_1:List api_Record):Option (Str × Str) :=
 jp (S:=Str × Str) (fun s=>match s with
  | (sum_35,o1_36) =>
   call (zB o1_36) fun r_38 =>
   some (r_38,sum_35)) fun k_37 =>
 forL l_1 0 (fun i_62 r_64 s nx_61 k_60 =>
  match s with
  | (sum_49,o1_51) =>
   call (zdb r_64) fun r_65 =>
   chk ((sum_49++r_65).length≤274877906944) <|
   call (R_SumOf (sum_49++r_65)) fun r_67 =>
   chk ((r_65++([32]:Str)).length≤274877906944) <|
   chk (((r_65++([32]:Str))++r_67).length≤274877906944) <|
   chk ((((r_65++([32]:Str))++r_67)++([10]:Str)).length≤274877906944) <|
   call (zh (((r_65++([32]:Str))++r_67)++([10]:Str)) o1_51) fun r_71 =>
   nx_61 (r_67,r_71.2)) ([],[]) (fun s=>match s with
  | (sum_49,o1_51) =>
   k_37 (sum_49,o1_51))
noncomputable def zaH (o0_2_1:Str) (o1_2:List api_Record) (o2_3:List Str) (o3_1_4:Int) (m4_5:List (Str × log_had)):Option (List api_Record) :=
 chk (([]++o1_2).length≤274877906944) <|
 some ([]++o1_2)
noncomputable def zu (s1_1:List api_Record) (s2_2:List api_Record):Option Bool :=
 bif !decide ((s1_1.length:Int)=(s2_2.length:Int)) then
  some false
 else
 jp (S:=Unit) (fun _ =>
  some true) fun k_12 =>
 forL s1_1 0 (fun i_18 r_20 s nx_17 k_16 =>
  idx s2_2 (i_18:Int) fun r_21 =>
  bif !((decide (r_20.Time=r_21.Time)) && ((decide (r_20.Kind=r_21.Kind)) && ((decide (r_20.Pack=r_21.Pack)) && ((decide (r_20.From.Major=r_21.From.Major)) && ((decide (r_20.From.Minor=r_21.From.Minor)) && ((decide (r_20.From.Patch=r_21.From.Patch)) && ((decide (r_20.From.Early=r_21.From.Early)) && ((decide (r_20.To.Major=r_21.To.Major)) && ((decide (r_20.To.Minor=r_21.To.Minor)) && ((decide (r_20.To.Patch=r_21.To.Patch)) && ((decide (r_20.To.Early=r_21.To.Early)) && ((decide (r_20.Result=r_21.Result)) && (decide (r_20.Note=r_21.Note)))))))))))))) then
   some false
  else
  nx_17 ()) () (fun _ =>
  k_12 ())
noncomputable def zaI (s_1:Str) (sep_2:Str):Option (Str × Str × Bool) :=
 call (zT s_1 sep_2) fun r_3 =>
 bif decide (0≤r_3) then
  chk (0≤r_3∧r_3≤(s_1.length:Int)) <|
  chk (0≤IntKind.i64.wrap (r_3+(sep_2.length:Int))∧IntKind.i64.wrap (r_3+(sep_2.length:Int))≤(s_1.length:Int)) <|
  some (List.take r_3.toNat s_1,List.drop ((IntKind.i64.wrap (r_3+(sep_2.length:Int))).toNat) s_1,true)
 else
 some (s_1,[],false)
noncomputable def zci (s_1:Str) (sep_2:Str):Option (Str × Str × Bool) :=
 call (zaI s_1 sep_2) fun r_3 =>
 some (r_3.1,r_3.2.1,r_3.2.2)
noncomputable def zz (s_1:Str) (c_2:Int):Option Int :=
 jp (S:=Unit) (fun _ =>
  some (-1)) fun k_8 =>
 loopN zdd (fun i_9 nx_12 k_11 =>
  bif decide (0≤i_9) then
   zdS s_1 i_9 fun c_13 =>
   bif decide (c_13=c_2) then
    some i_9
   else
   nx_12 (IntKind.i64.wrap (i_9 - 1))
  else
  k_11 i_9) (IntKind.i64.wrap ((s_1.length:Int) - 1)) (fun i_9 =>
  k_8 ())
noncomputable def zC (s_1:Str) (c_2:Int):Option Int :=
 call (zz s_1 c_2) fun r_3 =>
 some r_3
noncomputable def zbA (s_1:Str) (sep_2:Str) (n_3:Int):Option (List Str) :=
 call (zat s_1 sep_2 0 n_3) fun r_4 =>
 some r_4
noncomputable def zcq (s_1:Str):Option (Int × Bool) :=
 chk ((!((decide (s_1=[])) || (decide (18 < (s_1.length:Int)))))=true→(0≤0∧0 < (s_1.length:Int))) <|
 bif (((decide (s_1=[])) || (decide (18 < (s_1.length:Int)))) || ((decide (((s_1.getD 0 0).toNat:Int)=48)) && (!decide (s_1=([48]:Str))))) then
  some (0,false)
 else
 jp (S:=Unit) (fun _ =>
  call (zau s_1) fun r_11 =>
  some (r_11.1,r_11.2)) fun k_10 =>
 forL s_1 0 (fun i_16 c_18 s nx_15 k_14 =>
  bif ((decide ((c_18.toNat:Int) < 48)) || (decide (57 < (c_18.toNat:Int)))) then
   some (0,false)
  else
  nx_15 ()) () (fun _ =>
  k_10 ())
noncomputable def zbz (s_1:Str):Option (Int × Bool) :=
 call (zcL s_1 9) fun r_2 =>
 chk ((!(!r_2))=true→(0≤0∧0 < (s_1.length:Int))) <|
 bif ((!r_2) || ((decide (((s_1.getD 0 0).toNat:Int)=48)) && (!decide (s_1=([48]:Str))))) then
  some (0,false)
 else
 call (zau s_1) fun r_4 =>
 some (r_4.1,r_4.2)
noncomputable def ver_Parse (text_1:Str):Option (api_Version × Int) :=
 call (zci text_1 ([45]:Str)) fun r_2 =>
 call (zad r_2.1 ([46]:Str)) fun r_3 =>
 bif ((!decide ((r_3.length:Int)=3)) || (r_2.2.2 && (decide (r_2.2.1=[])))) then
  some ((api_Version.mk 0 0 0 []),8)
 else
 jp (S:=Int × Int × Int) (fun s=>match s with
  | (o1_0_11,o1_1_12,o1_2_13) =>
   call (zc5 (api_Version.mk o1_0_11 o1_1_12 o1_2_13 r_2.2.1)) fun r_15 =>
   bif !decide (r_15=0) then
    some ((api_Version.mk 0 0 0 []),r_15)
   else
   some ((api_Version.mk o1_0_11 o1_1_12 o1_2_13 r_2.2.1),0)) fun k_14 =>
 chk ((r_3.length:Int)=3) <|
 idx r_3 0 fun s_17 =>
 call (zbz s_17) fun r_18 =>
 bif !r_18.2 then
  some ((api_Version.mk 0 0 0 []),8)
 else
 idx r_3 1 fun s_19 =>
 call (zbz s_19) fun r_20 =>
 bif !r_20.2 then
  some ((api_Version.mk 0 0 0 []),8)
 else
 idx r_3 2 fun s_21 =>
 call (zbz s_21) fun r_22 =>
 bif !r_22.2 then
  some ((api_Version.mk 0 0 0 []),8)
 else
 k_14 (r_18.1,r_20.1,r_22.1)
noncomputable def za4 (s_1:Str):Option (api_Version × Bool) :=
 bif decide (s_1=([45]:Str)) then
  some ((api_Version.mk 0 0 0 []),true)
 else
 call (ver_Parse s_1) fun r_2 =>
 some (r_2.1,((decide (r_2.2=0)) && (!((decide (r_2.1.Major=0)) && ((decide (r_2.1.Minor=0)) && ((decide (r_2.1.Patch=0)) && (decide (r_2.1.Early=[]))))))))
noncomputable def zdV (s_1:Str):Option (Int × Int) :=
 bif decide (s_1=[]) then
  some (0,0)
 else
 zdS s_1 0 fun c_2 =>
 bif ((decide (c_2=92)) || (decide (c_2=34))) then
  some (c_2,1)
 else
 bif decide (c_2=110) then
  some (10,1)
 else
 bif ((!decide (c_2=120)) || (decide ((s_1.length:Int) < 3))) then
  some (0,0)
 else
 zdS s_1 1 fun c_3 =>
 call (zaz ([48,49,50,51,52,53,54,55,56,57,97,98,99,100,101,102]:Str) c_3) fun r_4 =>
 zdS s_1 2 fun c_5 =>
 call (zaz ([48,49,50,51,52,53,54,55,56,57,97,98,99,100,101,102]:Str) c_5) fun r_6 =>
 bif ((decide (r_4 < 0)) || (decide (r_6 < 0))) then
  some (0,0)
 else
 bif (((decide (32≤(IntKind.u8.wrap (IntKind.i64.wrap ((IntKind.i64.wrap (16 * r_4))+r_6))))) && (decide ((IntKind.u8.wrap (IntKind.i64.wrap ((IntKind.i64.wrap (16 * r_4))+r_6)))≤126))) || (decide ((IntKind.u8.wrap (IntKind.i64.wrap ((IntKind.i64.wrap (16 * r_4))+r_6)))=10))) then
  some (0,0)
 else
 some (IntKind.u8.wrap (IntKind.i64.wrap ((IntKind.i64.wrap (16 * r_4))+r_6)),3)
noncomputable def zct (s_1:Str):Option (Str × Int) :=
 chk ((!(decide ((s_1.length:Int) < 2)))=true→(0≤0∧0 < (s_1.length:Int))) <|
 chk ((!((decide ((s_1.length:Int) < 2)) || (!decide (((s_1.getD 0 0).toNat:Int)=34))))=true→(0≤IntKind.i64.wrap ((s_1.length:Int) - 1)∧IntKind.i64.wrap ((s_1.length:Int) - 1) < (s_1.length:Int))) <|
 bif (((decide ((s_1.length:Int) < 2)) || (!decide (((s_1.getD 0 0).toNat:Int)=34))) || (!decide (((s_1.getD ((IntKind.i64.wrap ((s_1.length:Int) - 1)).toNat) 0).toNat:Int)=34))) then
  some ([],8)
 else
 chk (0≤1∧1≤(s_1.length:Int)∧0≤IntKind.i64.wrap ((s_1.length:Int) - 1)∧IntKind.i64.wrap ((s_1.length:Int) - 1)≤(s_1.length:Int)∧1≤IntKind.i64.wrap ((s_1.length:Int) - 1)) <|
 chk (0≤0∧0≤((List.take ((IntKind.i64.wrap ((s_1.length:Int) - 1)).toNat - 1) (List.drop 1 s_1)).length:Int)∧((List.take ((IntKind.i64.wrap ((s_1.length:Int) - 1)).toNat - 1) (List.drop 1 s_1)).length:Int)≤274877906944) <|
 jp (S:=List Int) (fun o0_26 =>
  some (Go.Vc.strOf o0_26,0)) fun k_27 =>
 loopN zdd (fun s nx_42 k_41 =>
  match s with
  | (i_34,o0_35) =>
   bif decide (i_34 < ((List.take ((IntKind.i64.wrap ((s_1.length:Int) - 1)).toNat - 1) (List.drop 1 s_1)).length:Int)) then
    zdS (List.take ((IntKind.i64.wrap ((s_1.length:Int) - 1)).toNat - 1) (List.drop 1 s_1)) i_34 fun c_43 =>
    bif (((decide (c_43 < 32)) || (decide (126 < c_43))) || (decide (c_43=34))) then
     some ([],8)
    else
    bif decide (c_43=92) then
     chk (0≤IntKind.i64.wrap (i_34+1)∧IntKind.i64.wrap (i_34+1)≤((List.take ((IntKind.i64.wrap ((s_1.length:Int) - 1)).toNat - 1) (List.drop 1 s_1)).length:Int)) <|
     call (zdV (List.drop ((IntKind.i64.wrap (i_34+1)).toNat) (List.take ((IntKind.i64.wrap ((s_1.length:Int) - 1)).toNat - 1) (List.drop 1 s_1)))) fun r_45 =>
     bif decide (r_45.2=0) then
      some ([],8)
     else
     chk ((o0_35++[r_45.1]).length≤274877906944) <|
     nx_42 (IntKind.i64.wrap ((IntKind.i64.wrap (i_34+r_45.2))+1),o0_35++[r_45.1])
    else
    chk ((o0_35++[c_43]).length≤274877906944) <|
    nx_42 (IntKind.i64.wrap (i_34+1),o0_35++[c_43])
   else
   k_41 (i_34,o0_35)) (0,List.replicate 0 0) (fun s=>match s with
  | (i_34,o0_35) =>
   k_27 o0_35)
noncomputable def zbM (line_1:Str):Option (api_Record × Int) :=
 call (zbA line_1 ([32]:Str) 7) fun r_2 =>
 chk ((!(!decide ((r_2.length:Int)=7)))=true→(0≤2∧2 < (r_2.length:Int))) <|
 bif ((!decide ((r_2.length:Int)=7)) || (decide ((r_2.getD 2 [])=[]))) then
  some ((api_Record.mk 0 0 [] (api_Version.mk 0 0 0 []) (api_Version.mk 0 0 0 []) 0 []),8)
 else
 idx r_2 2 fun s_5 =>
 jp (S:=Int) (fun o1_1_23 =>
  idx r_2 0 fun s_25 =>
  call (zcq s_25) fun r_26 =>
  idx r_2 3 fun s_27 =>
  call (za4 s_27) fun r_28 =>
  idx r_2 4 fun s_29 =>
  call (za4 s_29) fun r_30 =>
  idx r_2 5 fun s_31 =>
  call (zcq s_31) fun r_32 =>
  idx r_2 6 fun s_33 =>
  call (zct s_33) fun r_34 =>
  bif ((((((decide (o1_1_23=0)) || (!r_26.2)) || (!r_28.2)) || (!r_30.2)) || (!r_32.2)) || (!decide (r_34.2=0))) then
   some ((api_Record.mk 0 0 [] (api_Version.mk 0 0 0 []) (api_Version.mk 0 0 0 []) 0 []),8)
  else
  call (zaT (api_Record.mk r_26.1 o1_1_23 s_5 r_28.1 r_30.1 r_32.1 r_34.1)) fun r_35 =>
  bif !decide (r_35=0) then
   some ((api_Record.mk 0 0 [] (api_Version.mk 0 0 0 []) (api_Version.mk 0 0 0 []) 0 []),r_35)
  else
  some ((api_Record.mk r_26.1 o1_1_23 s_5 r_28.1 r_30.1 r_32.1 r_34.1),0)) fun k_24 =>
 call (zds) fun r_36 =>
 forL r_36 0 (fun i_48 s_50 o1_1_42 nx_47 k_46 =>
  chk ((decide (0 < (i_48:Int)))=true→(0≤1∧1 < (r_2.length:Int))) <|
  bif ((decide (0 < (i_48:Int))) && (decide (s_50=(r_2.getD 1 [])))) then
   nx_47 (i_48:Int)
  else
  nx_47 o1_1_42) 0 (fun o1_1_42 =>
  k_24 o1_1_42)
noncomputable def log_Open (text_1:Str):Option (Int × Int × (List (Str × log_had)) × Int × Str × List api_Record × List Str) :=
 bif decide (4194304 < (text_1.length:Int)) then
  none
 else
 call (log_New) fun r_200 =>
 jp (S:=(List (Str × log_had)) × Int × Str × List api_Record × List Str) (fun s=>match s with
  | (m0_294,o1_1_295,o2_2_296,o3_297,o4_298) =>
   some ((o3_297.length:Int),0,m0_294,o1_1_295,o2_2_296,o3_297,o4_298)) fun k_299 =>
 loopN zdd (fun s nx_378 k_377 =>
  match s with
  | (text_357,m0_358,o1_1_359,o2_2_360,o3_361,o4_362) =>
   call (zci text_357 ([10]:Str)) fun r_379 =>
   call (zC r_379.1 32) fun r_380 =>
   bif ((!r_379.2.2) || (decide (r_380 < 0))) then
    k_377 (text_357,m0_358,o1_1_359,o2_2_360,o3_361,o4_362)
   else
   chk (0≤r_380∧r_380≤(r_379.1.length:Int)) <|
   call (zbM (List.take r_380.toNat r_379.1)) fun r_382 =>
   chk ((!(!decide (r_382.2=0)))=true→(0≤IntKind.i64.wrap (r_380+1)∧IntKind.i64.wrap (r_380+1)≤(r_379.1.length:Int))) <|
   chk ((!(!decide (r_382.2=0)))=true→(0≤r_380∧r_380≤(r_379.1.length:Int))) <|
   chk ((!(!decide (r_382.2=0)))=true→(o2_2_360++(List.take r_380.toNat r_379.1)).length≤274877906944) <|
   callG (!(!decide (r_382.2=0))) (zdB (o2_2_360++(List.take r_380.toNat r_379.1))) [] fun r_386 =>
   callG (!((!decide (r_382.2=0)) || (!decide ((List.drop ((IntKind.i64.wrap (r_380+1)).toNat) r_379.1)=r_386)))) (zb4 r_382.1 o2_2_360 o3_361 o4_362 o1_1_359 m0_358) (0,o2_2_360,o3_361,o4_362,o1_1_359,m0_358) fun r_387 =>
   bif (((!decide (r_382.2=0)) || (!decide ((List.drop ((IntKind.i64.wrap (r_380+1)).toNat) r_379.1)=r_386))) || (!decide (r_387.1=0))) then
    k_377 (text_357,r_387.2.2.2.2.2,r_387.2.2.2.2.1,r_387.2.1,r_387.2.2.1,r_387.2.2.2.1)
   else
   nx_378 (r_379.2.1,r_387.2.2.2.2.2,r_387.2.2.2.2.1,r_387.2.1,r_387.2.2.1,r_387.2.2.2.1)) (text_1,r_200.1,r_200.2.1,r_200.2.2,[],[]) (fun s=>match s with
  | (text_357,m0_358,o1_1_359,o2_2_360,o3_361,o4_362) =>
   k_299 (m0_358,o1_1_359,o2_2_360,o3_361,o4_362))
noncomputable def zbs (a_1:api_Record) (b_2:api_Record):Option Int :=
 some (IntKind.i64.wrap (a_1.Time - b_2.Time))
noncomputable def zo (a_1:Int) (b_2:Int) (o0_3:List api_Record):Option (List api_Record) :=
 loopN zdd (fun s nx_673 k_672 =>
  match s with
  | (i_538,o0_539) =>
   bif decide (i_538 < b_2) then
    jp (S:=List api_Record) (fun o0_739 =>
     nx_673 (IntKind.i64.wrap (i_538+1),o0_739)) fun k_740 =>
    loopN zdd (fun s nx_785 k_784 =>
     match s with
     | (j_762,o0_763) =>
      chk ((decide (a_1 < j_762))=true→(0≤j_762∧j_762 < (o0_763.length:Int))) <|
      chk ((decide (a_1 < j_762))=true→(0≤IntKind.i64.wrap (j_762 - 1)∧IntKind.i64.wrap (j_762 - 1) < (o0_763.length:Int))) <|
      callG (decide (a_1 < j_762)) (zbs (o0_763.getD j_762.toNat (api_Record.mk 0 0 [] (api_Version.mk 0 0 0 []) (api_Version.mk 0 0 0 []) 0 [])) (o0_763.getD ((IntKind.i64.wrap (j_762 - 1)).toNat) (api_Record.mk 0 0 [] (api_Version.mk 0 0 0 []) (api_Version.mk 0 0 0 []) 0 []))) 0 fun r_788 =>
      bif ((decide (a_1 < j_762)) && (decide (r_788 < 0))) then
       chk (0≤IntKind.i64.wrap (j_762 - 1)∧IntKind.i64.wrap (j_762 - 1) < (o0_763.length:Int)) <|
       chk (0≤j_762∧j_762 < (o0_763.length:Int)) <|
       chk (0≤j_762∧j_762 < (o0_763.length:Int)) <|
       chk (0≤IntKind.i64.wrap (j_762 - 1)∧IntKind.i64.wrap (j_762 - 1) < ((List.set o0_763 j_762.toNat (o0_763.getD ((IntKind.i64.wrap (j_762 - 1)).toNat) (api_Record.mk 0 0 [] (api_Version.mk 0 0 0 []) (api_Version.mk 0 0 0 []) 0 []))).length:Int)) <|
       nx_785 (IntKind.i64.wrap (j_762 - 1),List.set (List.set o0_763 j_762.toNat (o0_763.getD ((IntKind.i64.wrap (j_762 - 1)).toNat) (api_Record.mk 0 0 [] (api_Version.mk 0 0 0 []) (api_Version.mk 0 0 0 []) 0 []))) ((IntKind.i64.wrap (j_762 - 1)).toNat) (o0_763.getD j_762.toNat (api_Record.mk 0 0 [] (api_Version.mk 0 0 0 []) (api_Version.mk 0 0 0 []) 0 [])))
      else
      k_784 (j_762,o0_763)) (i_538,o0_539) (fun s=>match s with
     | (j_762,o0_763) =>
      k_740 o0_763)
   else
   k_672 (i_538,o0_539)) (IntKind.i64.wrap (a_1+1),o0_3) (fun s=>match s with
  | (i_538,o0_539) =>
   some o0_539)
noncomputable def zn (a_1:Int) (b_2:Int) (n_3:Int) (o0_4:List api_Record):Option (List api_Record) :=
 loopN zdd (fun s nx_44 k_43 =>
  match s with
  | (i_35,o0_36) =>
   bif decide (i_35 < n_3) then
    chk (0≤IntKind.i64.wrap (b_2+i_35)∧IntKind.i64.wrap (b_2+i_35) < (o0_36.length:Int)) <|
    chk (0≤IntKind.i64.wrap (a_1+i_35)∧IntKind.i64.wrap (a_1+i_35) < (o0_36.length:Int)) <|
    chk (0≤IntKind.i64.wrap (a_1+i_35)∧IntKind.i64.wrap (a_1+i_35) < (o0_36.length:Int)) <|
    chk (0≤IntKind.i64.wrap (b_2+i_35)∧IntKind.i64.wrap (b_2+i_35) < ((List.set o0_36 ((IntKind.i64.wrap (a_1+i_35)).toNat) (o0_36.getD ((IntKind.i64.wrap (b_2+i_35)).toNat) (api_Record.mk 0 0 [] (api_Version.mk 0 0 0 []) (api_Version.mk 0 0 0 []) 0 []))).length:Int)) <|
    nx_44 (IntKind.i64.wrap (i_35+1),List.set (List.set o0_36 ((IntKind.i64.wrap (a_1+i_35)).toNat) (o0_36.getD ((IntKind.i64.wrap (b_2+i_35)).toNat) (api_Record.mk 0 0 [] (api_Version.mk 0 0 0 []) (api_Version.mk 0 0 0 []) 0 []))) ((IntKind.i64.wrap (b_2+i_35)).toNat) (o0_36.getD ((IntKind.i64.wrap (a_1+i_35)).toNat) (api_Record.mk 0 0 [] (api_Version.mk 0 0 0 []) (api_Version.mk 0 0 0 []) 0 [])))
   else
   k_43 (i_35,o0_36)) (0,o0_4) (fun s=>match s with
  | (i_35,o0_36) =>
   some o0_36)
noncomputable def zK (a_1:Int) (m_2:Int) (b_3:Int) (o0_4:List api_Record):Option (List api_Record) :=
 jp (S:=Int × List api_Record) (fun s=>match s with
  | (i_48,o0_49) =>
   call (zn (IntKind.i64.wrap (m_2 - i_48)) m_2 i_48 o0_49) fun r_51 =>
   some r_51) fun k_50 =>
 loopN zdd (fun s nx_62 k_61 =>
  match s with
  | (i_56,j_57,o0_58) =>
   bif !decide (i_56=j_57) then
    bif decide (j_57 < i_56) then
     call (zn (IntKind.i64.wrap (m_2 - i_56)) m_2 j_57 o0_58) fun r_63 =>
     nx_62 (IntKind.i64.wrap (i_56 - j_57),j_57,r_63)
    else
    call (zn (IntKind.i64.wrap (m_2 - i_56)) (IntKind.i64.wrap ((IntKind.i64.wrap (m_2+j_57)) - i_56)) i_56 o0_58) fun r_64 =>
    nx_62 (i_56,IntKind.i64.wrap (j_57 - i_56),r_64)
   else
   k_61 (i_56,j_57,o0_58)) (IntKind.i64.wrap (m_2 - a_1),IntKind.i64.wrap (b_3 - m_2),o0_4) (fun s=>match s with
  | (i_56,j_57,o0_58) =>
   k_50 (i_56,o0_58))
noncomputable def zj:Nat→Int→Int→Int→List api_Record→Option (List api_Record)
 | 0,_,_,_,_=>none
 | nrec+1,a_1,m_2,b_3,o0_4 =>
  jp (S:=Unit) (fun _ =>
   jp (S:=Unit) (fun _ =>
    letv (IntKind.i64.wrap (Int.fdiv (IntKind.u64.wrap (IntKind.i64.wrap (a_1+b_3))) (2 ^ (shI .u64 1)))) fun v_4051 =>
    jp (S:=Int × Int) (fun s=>match s with
     | (start_4053,r_4054) =>
      jp (S:=Int) (fun start_4178 =>
       jp (S:=List api_Record) (fun o0_4183 =>
        jp (S:=List api_Record) (fun o0_4186 =>
         letv (((decide (v_4051 < (IntKind.i64.wrap ((IntKind.i64.wrap (v_4051+m_2)) - start_4178)))) && (decide ((IntKind.i64.wrap ((IntKind.i64.wrap (v_4051+m_2)) - start_4178)) < b_3)))) fun v_4188 =>
         bif v_4188 then
          call (zj nrec v_4051 (IntKind.i64.wrap ((IntKind.i64.wrap (v_4051+m_2)) - start_4178)) b_3 o0_4186) fun r_4190 =>
          some r_4190
         else
         some o0_4186) fun k_4187 =>
        bif ((decide (a_1 < start_4178)) && (decide (start_4178 < v_4051))) then
         call (zj nrec a_1 start_4178 v_4051 o0_4183) fun r_4191 =>
         k_4187 r_4191
        else
        k_4187 o0_4183) fun k_4184 =>
       letv (((decide (start_4178 < m_2)) && (decide (m_2 < (IntKind.i64.wrap ((IntKind.i64.wrap (v_4051+m_2)) - start_4178)))))) fun v_4192 =>
       bif v_4192 then
        call (zK start_4178 m_2 (IntKind.i64.wrap ((IntKind.i64.wrap (v_4051+m_2)) - start_4178)) o0_4) fun r_4194 =>
        k_4184 r_4194
       else
       k_4184 o0_4) fun k_4179 =>
      loopN zdd (fun s nx_4257 k_4256 =>
       match s with
       | (start_4195,r_4196) =>
        bif decide (start_4195 < r_4196) then
         letv (IntKind.i64.wrap (Int.fdiv (IntKind.u64.wrap (IntKind.i64.wrap (start_4195+r_4196))) (2 ^ (shI .u64 1)))) fun v_4258 =>
         chk (0≤IntKind.i64.wrap ((IntKind.i64.wrap ((IntKind.i64.wrap (v_4051+m_2)) - 1)) - v_4258)∧IntKind.i64.wrap ((IntKind.i64.wrap ((IntKind.i64.wrap (v_4051+m_2)) - 1)) - v_4258) < (o0_4.length:Int)) <|
         letv ((o0_4.getD ((IntKind.i64.wrap ((IntKind.i64.wrap ((IntKind.i64.wrap (v_4051+m_2)) - 1)) - v_4258)).toNat) (api_Record.mk 0 0 [] (api_Version.mk 0 0 0 []) (api_Version.mk 0 0 0 []) 0 [])).Time) fun v_4261 =>
         letv ((o0_4.getD ((IntKind.i64.wrap ((IntKind.i64.wrap ((IntKind.i64.wrap (v_4051+m_2)) - 1)) - v_4258)).toNat) (api_Record.mk 0 0 [] (api_Version.mk 0 0 0 []) (api_Version.mk 0 0 0 []) 0 [])).Kind) fun v_4263 =>
         letv ((o0_4.getD ((IntKind.i64.wrap ((IntKind.i64.wrap ((IntKind.i64.wrap (v_4051+m_2)) - 1)) - v_4258)).toNat) (api_Record.mk 0 0 [] (api_Version.mk 0 0 0 []) (api_Version.mk 0 0 0 []) 0 [])).Pack) fun v_4265 =>
         letv (((o0_4.getD ((IntKind.i64.wrap ((IntKind.i64.wrap ((IntKind.i64.wrap (v_4051+m_2)) - 1)) - v_4258)).toNat) (api_Record.mk 0 0 [] (api_Version.mk 0 0 0 []) (api_Version.mk 0 0 0 []) 0 [])).From).Major) fun v_4267 =>
         letv (((o0_4.getD ((IntKind.i64.wrap ((IntKind.i64.wrap ((IntKind.i64.wrap (v_4051+m_2)) - 1)) - v_4258)).toNat) (api_Record.mk 0 0 [] (api_Version.mk 0 0 0 []) (api_Version.mk 0 0 0 []) 0 [])).From).Minor) fun v_4269 =>
         letv (((o0_4.getD ((IntKind.i64.wrap ((IntKind.i64.wrap ((IntKind.i64.wrap (v_4051+m_2)) - 1)) - v_4258)).toNat) (api_Record.mk 0 0 [] (api_Version.mk 0 0 0 []) (api_Version.mk 0 0 0 []) 0 [])).From).Patch) fun v_4271 =>
         letv (((o0_4.getD ((IntKind.i64.wrap ((IntKind.i64.wrap ((IntKind.i64.wrap (v_4051+m_2)) - 1)) - v_4258)).toNat) (api_Record.mk 0 0 [] (api_Version.mk 0 0 0 []) (api_Version.mk 0 0 0 []) 0 [])).From).Early) fun v_4273 =>
         letv (((o0_4.getD ((IntKind.i64.wrap ((IntKind.i64.wrap ((IntKind.i64.wrap (v_4051+m_2)) - 1)) - v_4258)).toNat) (api_Record.mk 0 0 [] (api_Version.mk 0 0 0 []) (api_Version.mk 0 0 0 []) 0 [])).To).Major) fun v_4275 =>
         letv (((o0_4.getD ((IntKind.i64.wrap ((IntKind.i64.wrap ((IntKind.i64.wrap (v_4051+m_2)) - 1)) - v_4258)).toNat) (api_Record.mk 0 0 [] (api_Version.mk 0 0 0 []) (api_Version.mk 0 0 0 []) 0 [])).To).Minor) fun v_4277 =>
         letv (((o0_4.getD ((IntKind.i64.wrap ((IntKind.i64.wrap ((IntKind.i64.wrap (v_4051+m_2)) - 1)) - v_4258)).toNat) (api_Record.mk 0 0 [] (api_Version.mk 0 0 0 []) (api_Version.mk 0 0 0 []) 0 [])).To).Patch) fun v_4279 =>
         letv (((o0_4.getD ((IntKind.i64.wrap ((IntKind.i64.wrap ((IntKind.i64.wrap (v_4051+m_2)) - 1)) - v_4258)).toNat) (api_Record.mk 0 0 [] (api_Version.mk 0 0 0 []) (api_Version.mk 0 0 0 []) 0 [])).To).Early) fun v_4281 =>
         letv ((o0_4.getD ((IntKind.i64.wrap ((IntKind.i64.wrap ((IntKind.i64.wrap (v_4051+m_2)) - 1)) - v_4258)).toNat) (api_Record.mk 0 0 [] (api_Version.mk 0 0 0 []) (api_Version.mk 0 0 0 []) 0 [])).Result) fun v_4283 =>
         letv ((o0_4.getD ((IntKind.i64.wrap ((IntKind.i64.wrap ((IntKind.i64.wrap (v_4051+m_2)) - 1)) - v_4258)).toNat) (api_Record.mk 0 0 [] (api_Version.mk 0 0 0 []) (api_Version.mk 0 0 0 []) 0 [])).Note) fun v_4285 =>
         chk (0≤v_4258∧v_4258 < (o0_4.length:Int)) <|
         letv ((o0_4.getD v_4258.toNat (api_Record.mk 0 0 [] (api_Version.mk 0 0 0 []) (api_Version.mk 0 0 0 []) 0 [])).Time) fun v_4288 =>
         letv ((o0_4.getD v_4258.toNat (api_Record.mk 0 0 [] (api_Version.mk 0 0 0 []) (api_Version.mk 0 0 0 []) 0 [])).Kind) fun v_4290 =>
         letv ((o0_4.getD v_4258.toNat (api_Record.mk 0 0 [] (api_Version.mk 0 0 0 []) (api_Version.mk 0 0 0 []) 0 [])).Pack) fun v_4292 =>
         letv (((o0_4.getD v_4258.toNat (api_Record.mk 0 0 [] (api_Version.mk 0 0 0 []) (api_Version.mk 0 0 0 []) 0 [])).From).Major) fun v_4294 =>
         letv (((o0_4.getD v_4258.toNat (api_Record.mk 0 0 [] (api_Version.mk 0 0 0 []) (api_Version.mk 0 0 0 []) 0 [])).From).Minor) fun v_4296 =>
         letv (((o0_4.getD v_4258.toNat (api_Record.mk 0 0 [] (api_Version.mk 0 0 0 []) (api_Version.mk 0 0 0 []) 0 [])).From).Patch) fun v_4298 =>
         letv (((o0_4.getD v_4258.toNat (api_Record.mk 0 0 [] (api_Version.mk 0 0 0 []) (api_Version.mk 0 0 0 []) 0 [])).From).Early) fun v_4300 =>
         letv (((o0_4.getD v_4258.toNat (api_Record.mk 0 0 [] (api_Version.mk 0 0 0 []) (api_Version.mk 0 0 0 []) 0 [])).To).Major) fun v_4302 =>
         letv (((o0_4.getD v_4258.toNat (api_Record.mk 0 0 [] (api_Version.mk 0 0 0 []) (api_Version.mk 0 0 0 []) 0 [])).To).Minor) fun v_4304 =>
         letv (((o0_4.getD v_4258.toNat (api_Record.mk 0 0 [] (api_Version.mk 0 0 0 []) (api_Version.mk 0 0 0 []) 0 [])).To).Patch) fun v_4306 =>
         letv (((o0_4.getD v_4258.toNat (api_Record.mk 0 0 [] (api_Version.mk 0 0 0 []) (api_Version.mk 0 0 0 []) 0 [])).To).Early) fun v_4308 =>
         letv ((o0_4.getD v_4258.toNat (api_Record.mk 0 0 [] (api_Version.mk 0 0 0 []) (api_Version.mk 0 0 0 []) 0 [])).Result) fun v_4310 =>
         letv ((o0_4.getD v_4258.toNat (api_Record.mk 0 0 [] (api_Version.mk 0 0 0 []) (api_Version.mk 0 0 0 []) 0 [])).Note) fun v_4312 =>
         call (zbs (api_Record.mk v_4261 v_4263 v_4265 (api_Version.mk v_4267 v_4269 v_4271 v_4273) (api_Version.mk v_4275 v_4277 v_4279 v_4281) v_4283 v_4285) (api_Record.mk v_4288 v_4290 v_4292 (api_Version.mk v_4294 v_4296 v_4298 v_4300) (api_Version.mk v_4302 v_4304 v_4306 v_4308) v_4310 v_4312)) fun r_4314 =>
         bif !(decide (r_4314 < 0)) then
          nx_4257 (IntKind.i64.wrap (v_4258+1),r_4196)
         else
         nx_4257 (start_4195,v_4258)
        else
        k_4256 (start_4195,r_4196)) (start_4053,r_4054) (fun s=>match s with
       | (start_4195,r_4196) =>
        k_4179 start_4195)) fun k_4055 =>
    bif decide (v_4051 < m_2) then
     k_4055 (IntKind.i64.wrap ((IntKind.i64.wrap (v_4051+m_2)) - b_3),v_4051)
    else
    k_4055 (a_1,m_2)) fun k_4050 =>
   bif decide ((IntKind.i64.wrap (b_3 - m_2))=1) then
    jp (S:=Int) (fun i_4439 =>
     jp (S:=List api_Record) (fun o0_4632 =>
      some o0_4632) fun k_4633 =>
     loopN zdd (fun s nx_4762 k_4761 =>
      match s with
      | (k_4697,o0_4698) =>
       bif decide (i_4439 < k_4697) then
        chk (0≤IntKind.i64.wrap (k_4697 - 1)∧IntKind.i64.wrap (k_4697 - 1) < (o0_4698.length:Int)) <|
        letv ((o0_4698.getD ((IntKind.i64.wrap (k_4697 - 1)).toNat) (api_Record.mk 0 0 [] (api_Version.mk 0 0 0 []) (api_Version.mk 0 0 0 []) 0 [])).Time) fun v_4764 =>
        letv ((o0_4698.getD ((IntKind.i64.wrap (k_4697 - 1)).toNat) (api_Record.mk 0 0 [] (api_Version.mk 0 0 0 []) (api_Version.mk 0 0 0 []) 0 [])).Kind) fun v_4766 =>
        letv ((o0_4698.getD ((IntKind.i64.wrap (k_4697 - 1)).toNat) (api_Record.mk 0 0 [] (api_Version.mk 0 0 0 []) (api_Version.mk 0 0 0 []) 0 [])).Pack) fun v_4768 =>
        letv (((o0_4698.getD ((IntKind.i64.wrap (k_4697 - 1)).toNat) (api_Record.mk 0 0 [] (api_Version.mk 0 0 0 []) (api_Version.mk 0 0 0 []) 0 [])).From).Major) fun v_4770 =>
        letv (((o0_4698.getD ((IntKind.i64.wrap (k_4697 - 1)).toNat) (api_Record.mk 0 0 [] (api_Version.mk 0 0 0 []) (api_Version.mk 0 0 0 []) 0 [])).From).Minor) fun v_4772 =>
        letv (((o0_4698.getD ((IntKind.i64.wrap (k_4697 - 1)).toNat) (api_Record.mk 0 0 [] (api_Version.mk 0 0 0 []) (api_Version.mk 0 0 0 []) 0 [])).From).Patch) fun v_4774 =>
        letv (((o0_4698.getD ((IntKind.i64.wrap (k_4697 - 1)).toNat) (api_Record.mk 0 0 [] (api_Version.mk 0 0 0 []) (api_Version.mk 0 0 0 []) 0 [])).From).Early) fun v_4776 =>
        letv (((o0_4698.getD ((IntKind.i64.wrap (k_4697 - 1)).toNat) (api_Record.mk 0 0 [] (api_Version.mk 0 0 0 []) (api_Version.mk 0 0 0 []) 0 [])).To).Major) fun v_4778 =>
        letv (((o0_4698.getD ((IntKind.i64.wrap (k_4697 - 1)).toNat) (api_Record.mk 0 0 [] (api_Version.mk 0 0 0 []) (api_Version.mk 0 0 0 []) 0 [])).To).Minor) fun v_4780 =>
        letv (((o0_4698.getD ((IntKind.i64.wrap (k_4697 - 1)).toNat) (api_Record.mk 0 0 [] (api_Version.mk 0 0 0 []) (api_Version.mk 0 0 0 []) 0 [])).To).Patch) fun v_4782 =>
        letv (((o0_4698.getD ((IntKind.i64.wrap (k_4697 - 1)).toNat) (api_Record.mk 0 0 [] (api_Version.mk 0 0 0 []) (api_Version.mk 0 0 0 []) 0 [])).To).Early) fun v_4784 =>
        letv ((o0_4698.getD ((IntKind.i64.wrap (k_4697 - 1)).toNat) (api_Record.mk 0 0 [] (api_Version.mk 0 0 0 []) (api_Version.mk 0 0 0 []) 0 [])).Result) fun v_4786 =>
        letv ((o0_4698.getD ((IntKind.i64.wrap (k_4697 - 1)).toNat) (api_Record.mk 0 0 [] (api_Version.mk 0 0 0 []) (api_Version.mk 0 0 0 []) 0 [])).Note) fun v_4788 =>
        chk (0≤k_4697∧k_4697 < (o0_4698.length:Int)) <|
        letv ((o0_4698.getD k_4697.toNat (api_Record.mk 0 0 [] (api_Version.mk 0 0 0 []) (api_Version.mk 0 0 0 []) 0 [])).Time) fun v_4791 =>
        letv ((o0_4698.getD k_4697.toNat (api_Record.mk 0 0 [] (api_Version.mk 0 0 0 []) (api_Version.mk 0 0 0 []) 0 [])).Kind) fun v_4793 =>
        letv ((o0_4698.getD k_4697.toNat (api_Record.mk 0 0 [] (api_Version.mk 0 0 0 []) (api_Version.mk 0 0 0 []) 0 [])).Pack) fun v_4795 =>
        letv (((o0_4698.getD k_4697.toNat (api_Record.mk 0 0 [] (api_Version.mk 0 0 0 []) (api_Version.mk 0 0 0 []) 0 [])).From).Major) fun v_4797 =>
        letv (((o0_4698.getD k_4697.toNat (api_Record.mk 0 0 [] (api_Version.mk 0 0 0 []) (api_Version.mk 0 0 0 []) 0 [])).From).Minor) fun v_4799 =>
        letv (((o0_4698.getD k_4697.toNat (api_Record.mk 0 0 [] (api_Version.mk 0 0 0 []) (api_Version.mk 0 0 0 []) 0 [])).From).Patch) fun v_4801 =>
        letv (((o0_4698.getD k_4697.toNat (api_Record.mk 0 0 [] (api_Version.mk 0 0 0 []) (api_Version.mk 0 0 0 []) 0 [])).From).Early) fun v_4803 =>
        letv (((o0_4698.getD k_4697.toNat (api_Record.mk 0 0 [] (api_Version.mk 0 0 0 []) (api_Version.mk 0 0 0 []) 0 [])).To).Major) fun v_4805 =>
        letv (((o0_4698.getD k_4697.toNat (api_Record.mk 0 0 [] (api_Version.mk 0 0 0 []) (api_Version.mk 0 0 0 []) 0 [])).To).Minor) fun v_4807 =>
        letv (((o0_4698.getD k_4697.toNat (api_Record.mk 0 0 [] (api_Version.mk 0 0 0 []) (api_Version.mk 0 0 0 []) 0 [])).To).Patch) fun v_4809 =>
        letv (((o0_4698.getD k_4697.toNat (api_Record.mk 0 0 [] (api_Version.mk 0 0 0 []) (api_Version.mk 0 0 0 []) 0 [])).To).Early) fun v_4811 =>
        letv ((o0_4698.getD k_4697.toNat (api_Record.mk 0 0 [] (api_Version.mk 0 0 0 []) (api_Version.mk 0 0 0 []) 0 [])).Result) fun v_4813 =>
        letv ((o0_4698.getD k_4697.toNat (api_Record.mk 0 0 [] (api_Version.mk 0 0 0 []) (api_Version.mk 0 0 0 []) 0 [])).Note) fun v_4815 =>
        chk (0≤k_4697∧k_4697 < (o0_4698.length:Int)) <|
        letv (List.set o0_4698 k_4697.toNat (api_Record.mk v_4764 v_4766 v_4768 (api_Version.mk v_4770 v_4772 v_4774 v_4776) (api_Version.mk v_4778 v_4780 v_4782 v_4784) v_4786 v_4788)) fun v_4818 =>
        chk (0≤IntKind.i64.wrap (k_4697 - 1)∧IntKind.i64.wrap (k_4697 - 1) < (v_4818.length:Int)) <|
        letv (List.set v_4818 ((IntKind.i64.wrap (k_4697 - 1)).toNat) (api_Record.mk v_4791 v_4793 v_4795 (api_Version.mk v_4797 v_4799 v_4801 v_4803) (api_Version.mk v_4805 v_4807 v_4809 v_4811) v_4813 v_4815)) fun v_4821 =>
        nx_4762 (IntKind.i64.wrap (k_4697 - 1),v_4821)
       else
       k_4761 (k_4697,o0_4698)) (m_2,o0_4) (fun s=>match s with
      | (k_4697,o0_4698) =>
       k_4633 o0_4698)) fun k_4440 =>
    loopN zdd (fun s nx_4887 k_4886 =>
     match s with
     | (i_4825,j_4826) =>
      bif decide (i_4825 < j_4826) then
       letv (IntKind.i64.wrap (Int.fdiv (IntKind.u64.wrap (IntKind.i64.wrap (i_4825+j_4826))) (2 ^ (shI .u64 1)))) fun v_4888 =>
       chk (0≤m_2∧m_2 < (o0_4.length:Int)) <|
       letv ((o0_4.getD m_2.toNat (api_Record.mk 0 0 [] (api_Version.mk 0 0 0 []) (api_Version.mk 0 0 0 []) 0 [])).Time) fun v_4891 =>
       letv ((o0_4.getD m_2.toNat (api_Record.mk 0 0 [] (api_Version.mk 0 0 0 []) (api_Version.mk 0 0 0 []) 0 [])).Kind) fun v_4893 =>
       letv ((o0_4.getD m_2.toNat (api_Record.mk 0 0 [] (api_Version.mk 0 0 0 []) (api_Version.mk 0 0 0 []) 0 [])).Pack) fun v_4895 =>
       letv (((o0_4.getD m_2.toNat (api_Record.mk 0 0 [] (api_Version.mk 0 0 0 []) (api_Version.mk 0 0 0 []) 0 [])).From).Major) fun v_4897 =>
       letv (((o0_4.getD m_2.toNat (api_Record.mk 0 0 [] (api_Version.mk 0 0 0 []) (api_Version.mk 0 0 0 []) 0 [])).From).Minor) fun v_4899 =>
       letv (((o0_4.getD m_2.toNat (api_Record.mk 0 0 [] (api_Version.mk 0 0 0 []) (api_Version.mk 0 0 0 []) 0 [])).From).Patch) fun v_4901 =>
       letv (((o0_4.getD m_2.toNat (api_Record.mk 0 0 [] (api_Version.mk 0 0 0 []) (api_Version.mk 0 0 0 []) 0 [])).From).Early) fun v_4903 =>
       letv (((o0_4.getD m_2.toNat (api_Record.mk 0 0 [] (api_Version.mk 0 0 0 []) (api_Version.mk 0 0 0 []) 0 [])).To).Major) fun v_4905 =>
       letv (((o0_4.getD m_2.toNat (api_Record.mk 0 0 [] (api_Version.mk 0 0 0 []) (api_Version.mk 0 0 0 []) 0 [])).To).Minor) fun v_4907 =>
       letv (((o0_4.getD m_2.toNat (api_Record.mk 0 0 [] (api_Version.mk 0 0 0 []) (api_Version.mk 0 0 0 []) 0 [])).To).Patch) fun v_4909 =>
       letv (((o0_4.getD m_2.toNat (api_Record.mk 0 0 [] (api_Version.mk 0 0 0 []) (api_Version.mk 0 0 0 []) 0 [])).To).Early) fun v_4911 =>
       letv ((o0_4.getD m_2.toNat (api_Record.mk 0 0 [] (api_Version.mk 0 0 0 []) (api_Version.mk 0 0 0 []) 0 [])).Result) fun v_4913 =>
       letv ((o0_4.getD m_2.toNat (api_Record.mk 0 0 [] (api_Version.mk 0 0 0 []) (api_Version.mk 0 0 0 []) 0 [])).Note) fun v_4915 =>
       chk (0≤v_4888∧v_4888 < (o0_4.length:Int)) <|
       letv ((o0_4.getD v_4888.toNat (api_Record.mk 0 0 [] (api_Version.mk 0 0 0 []) (api_Version.mk 0 0 0 []) 0 [])).Time) fun v_4918 =>
       letv ((o0_4.getD v_4888.toNat (api_Record.mk 0 0 [] (api_Version.mk 0 0 0 []) (api_Version.mk 0 0 0 []) 0 [])).Kind) fun v_4920 =>
       letv ((o0_4.getD v_4888.toNat (api_Record.mk 0 0 [] (api_Version.mk 0 0 0 []) (api_Version.mk 0 0 0 []) 0 [])).Pack) fun v_4922 =>
       letv (((o0_4.getD v_4888.toNat (api_Record.mk 0 0 [] (api_Version.mk 0 0 0 []) (api_Version.mk 0 0 0 []) 0 [])).From).Major) fun v_4924 =>
       letv (((o0_4.getD v_4888.toNat (api_Record.mk 0 0 [] (api_Version.mk 0 0 0 []) (api_Version.mk 0 0 0 []) 0 [])).From).Minor) fun v_4926 =>
       letv (((o0_4.getD v_4888.toNat (api_Record.mk 0 0 [] (api_Version.mk 0 0 0 []) (api_Version.mk 0 0 0 []) 0 [])).From).Patch) fun v_4928 =>
       letv (((o0_4.getD v_4888.toNat (api_Record.mk 0 0 [] (api_Version.mk 0 0 0 []) (api_Version.mk 0 0 0 []) 0 [])).From).Early) fun v_4930 =>
       letv (((o0_4.getD v_4888.toNat (api_Record.mk 0 0 [] (api_Version.mk 0 0 0 []) (api_Version.mk 0 0 0 []) 0 [])).To).Major) fun v_4932 =>
       letv (((o0_4.getD v_4888.toNat (api_Record.mk 0 0 [] (api_Version.mk 0 0 0 []) (api_Version.mk 0 0 0 []) 0 [])).To).Minor) fun v_4934 =>
       letv (((o0_4.getD v_4888.toNat (api_Record.mk 0 0 [] (api_Version.mk 0 0 0 []) (api_Version.mk 0 0 0 []) 0 [])).To).Patch) fun v_4936 =>
       letv (((o0_4.getD v_4888.toNat (api_Record.mk 0 0 [] (api_Version.mk 0 0 0 []) (api_Version.mk 0 0 0 []) 0 [])).To).Early) fun v_4938 =>
       letv ((o0_4.getD v_4888.toNat (api_Record.mk 0 0 [] (api_Version.mk 0 0 0 []) (api_Version.mk 0 0 0 []) 0 [])).Result) fun v_4940 =>
       letv ((o0_4.getD v_4888.toNat (api_Record.mk 0 0 [] (api_Version.mk 0 0 0 []) (api_Version.mk 0 0 0 []) 0 [])).Note) fun v_4942 =>
       call (zbs (api_Record.mk v_4891 v_4893 v_4895 (api_Version.mk v_4897 v_4899 v_4901 v_4903) (api_Version.mk v_4905 v_4907 v_4909 v_4911) v_4913 v_4915) (api_Record.mk v_4918 v_4920 v_4922 (api_Version.mk v_4924 v_4926 v_4928 v_4930) (api_Version.mk v_4932 v_4934 v_4936 v_4938) v_4940 v_4942)) fun r_4944 =>
       bif !(decide (r_4944 < 0)) then
        nx_4887 (IntKind.i64.wrap (v_4888+1),j_4826)
       else
       nx_4887 (i_4825,v_4888)
      else
      k_4886 (i_4825,j_4826)) (a_1,m_2) (fun s=>match s with
     | (i_4825,j_4826) =>
      k_4440 i_4825)
   else
   k_4050 ()) fun k_3419 =>
  bif decide ((IntKind.i64.wrap (m_2 - a_1))=1) then
   jp (S:=Int) (fun i_5069 =>
    jp (S:=List api_Record) (fun o0_5262 =>
     some o0_5262) fun k_5263 =>
    loopN zdd (fun s nx_5392 k_5391 =>
     match s with
     | (k_5327,o0_5328) =>
      bif decide (k_5327 < (IntKind.i64.wrap (i_5069 - 1))) then
       chk (0≤IntKind.i64.wrap (k_5327+1)∧IntKind.i64.wrap (k_5327+1) < (o0_5328.length:Int)) <|
       letv ((o0_5328.getD ((IntKind.i64.wrap (k_5327+1)).toNat) (api_Record.mk 0 0 [] (api_Version.mk 0 0 0 []) (api_Version.mk 0 0 0 []) 0 [])).Time) fun v_5394 =>
       letv ((o0_5328.getD ((IntKind.i64.wrap (k_5327+1)).toNat) (api_Record.mk 0 0 [] (api_Version.mk 0 0 0 []) (api_Version.mk 0 0 0 []) 0 [])).Kind) fun v_5396 =>
       letv ((o0_5328.getD ((IntKind.i64.wrap (k_5327+1)).toNat) (api_Record.mk 0 0 [] (api_Version.mk 0 0 0 []) (api_Version.mk 0 0 0 []) 0 [])).Pack) fun v_5398 =>
       letv (((o0_5328.getD ((IntKind.i64.wrap (k_5327+1)).toNat) (api_Record.mk 0 0 [] (api_Version.mk 0 0 0 []) (api_Version.mk 0 0 0 []) 0 [])).From).Major) fun v_5400 =>
       letv (((o0_5328.getD ((IntKind.i64.wrap (k_5327+1)).toNat) (api_Record.mk 0 0 [] (api_Version.mk 0 0 0 []) (api_Version.mk 0 0 0 []) 0 [])).From).Minor) fun v_5402 =>
       letv (((o0_5328.getD ((IntKind.i64.wrap (k_5327+1)).toNat) (api_Record.mk 0 0 [] (api_Version.mk 0 0 0 []) (api_Version.mk 0 0 0 []) 0 [])).From).Patch) fun v_5404 =>
       letv (((o0_5328.getD ((IntKind.i64.wrap (k_5327+1)).toNat) (api_Record.mk 0 0 [] (api_Version.mk 0 0 0 []) (api_Version.mk 0 0 0 []) 0 [])).From).Early) fun v_5406 =>
       letv (((o0_5328.getD ((IntKind.i64.wrap (k_5327+1)).toNat) (api_Record.mk 0 0 [] (api_Version.mk 0 0 0 []) (api_Version.mk 0 0 0 []) 0 [])).To).Major) fun v_5408 =>
       letv (((o0_5328.getD ((IntKind.i64.wrap (k_5327+1)).toNat) (api_Record.mk 0 0 [] (api_Version.mk 0 0 0 []) (api_Version.mk 0 0 0 []) 0 [])).To).Minor) fun v_5410 =>
       letv (((o0_5328.getD ((IntKind.i64.wrap (k_5327+1)).toNat) (api_Record.mk 0 0 [] (api_Version.mk 0 0 0 []) (api_Version.mk 0 0 0 []) 0 [])).To).Patch) fun v_5412 =>
       letv (((o0_5328.getD ((IntKind.i64.wrap (k_5327+1)).toNat) (api_Record.mk 0 0 [] (api_Version.mk 0 0 0 []) (api_Version.mk 0 0 0 []) 0 [])).To).Early) fun v_5414 =>
       letv ((o0_5328.getD ((IntKind.i64.wrap (k_5327+1)).toNat) (api_Record.mk 0 0 [] (api_Version.mk 0 0 0 []) (api_Version.mk 0 0 0 []) 0 [])).Result) fun v_5416 =>
       letv ((o0_5328.getD ((IntKind.i64.wrap (k_5327+1)).toNat) (api_Record.mk 0 0 [] (api_Version.mk 0 0 0 []) (api_Version.mk 0 0 0 []) 0 [])).Note) fun v_5418 =>
       chk (0≤k_5327∧k_5327 < (o0_5328.length:Int)) <|
       letv ((o0_5328.getD k_5327.toNat (api_Record.mk 0 0 [] (api_Version.mk 0 0 0 []) (api_Version.mk 0 0 0 []) 0 [])).Time) fun v_5421 =>
       letv ((o0_5328.getD k_5327.toNat (api_Record.mk 0 0 [] (api_Version.mk 0 0 0 []) (api_Version.mk 0 0 0 []) 0 [])).Kind) fun v_5423 =>
       letv ((o0_5328.getD k_5327.toNat (api_Record.mk 0 0 [] (api_Version.mk 0 0 0 []) (api_Version.mk 0 0 0 []) 0 [])).Pack) fun v_5425 =>
       letv (((o0_5328.getD k_5327.toNat (api_Record.mk 0 0 [] (api_Version.mk 0 0 0 []) (api_Version.mk 0 0 0 []) 0 [])).From).Major) fun v_5427 =>
       letv (((o0_5328.getD k_5327.toNat (api_Record.mk 0 0 [] (api_Version.mk 0 0 0 []) (api_Version.mk 0 0 0 []) 0 [])).From).Minor) fun v_5429 =>
       letv (((o0_5328.getD k_5327.toNat (api_Record.mk 0 0 [] (api_Version.mk 0 0 0 []) (api_Version.mk 0 0 0 []) 0 [])).From).Patch) fun v_5431 =>
       letv (((o0_5328.getD k_5327.toNat (api_Record.mk 0 0 [] (api_Version.mk 0 0 0 []) (api_Version.mk 0 0 0 []) 0 [])).From).Early) fun v_5433 =>
       letv (((o0_5328.getD k_5327.toNat (api_Record.mk 0 0 [] (api_Version.mk 0 0 0 []) (api_Version.mk 0 0 0 []) 0 [])).To).Major) fun v_5435 =>
       letv (((o0_5328.getD k_5327.toNat (api_Record.mk 0 0 [] (api_Version.mk 0 0 0 []) (api_Version.mk 0 0 0 []) 0 [])).To).Minor) fun v_5437 =>
       letv (((o0_5328.getD k_5327.toNat (api_Record.mk 0 0 [] (api_Version.mk 0 0 0 []) (api_Version.mk 0 0 0 []) 0 [])).To).Patch) fun v_5439 =>
       letv (((o0_5328.getD k_5327.toNat (api_Record.mk 0 0 [] (api_Version.mk 0 0 0 []) (api_Version.mk 0 0 0 []) 0 [])).To).Early) fun v_5441 =>
       letv ((o0_5328.getD k_5327.toNat (api_Record.mk 0 0 [] (api_Version.mk 0 0 0 []) (api_Version.mk 0 0 0 []) 0 [])).Result) fun v_5443 =>
       letv ((o0_5328.getD k_5327.toNat (api_Record.mk 0 0 [] (api_Version.mk 0 0 0 []) (api_Version.mk 0 0 0 []) 0 [])).Note) fun v_5445 =>
       chk (0≤k_5327∧k_5327 < (o0_5328.length:Int)) <|
       letv (List.set o0_5328 k_5327.toNat (api_Record.mk v_5394 v_5396 v_5398 (api_Version.mk v_5400 v_5402 v_5404 v_5406) (api_Version.mk v_5408 v_5410 v_5412 v_5414) v_5416 v_5418)) fun v_5448 =>
       chk (0≤IntKind.i64.wrap (k_5327+1)∧IntKind.i64.wrap (k_5327+1) < (v_5448.length:Int)) <|
       letv (List.set v_5448 ((IntKind.i64.wrap (k_5327+1)).toNat) (api_Record.mk v_5421 v_5423 v_5425 (api_Version.mk v_5427 v_5429 v_5431 v_5433) (api_Version.mk v_5435 v_5437 v_5439 v_5441) v_5443 v_5445)) fun v_5451 =>
       nx_5392 (IntKind.i64.wrap (k_5327+1),v_5451)
      else
      k_5391 (k_5327,o0_5328)) (a_1,o0_4) (fun s=>match s with
     | (k_5327,o0_5328) =>
      k_5263 o0_5328)) fun k_5070 =>
   loopN zdd (fun s nx_5517 k_5516 =>
    match s with
    | (i_5455,j_5456) =>
     bif decide (i_5455 < j_5456) then
      letv (IntKind.i64.wrap (Int.fdiv (IntKind.u64.wrap (IntKind.i64.wrap (i_5455+j_5456))) (2 ^ (shI .u64 1)))) fun v_5518 =>
      chk (0≤v_5518∧v_5518 < (o0_4.length:Int)) <|
      letv ((o0_4.getD v_5518.toNat (api_Record.mk 0 0 [] (api_Version.mk 0 0 0 []) (api_Version.mk 0 0 0 []) 0 [])).Time) fun v_5521 =>
      letv ((o0_4.getD v_5518.toNat (api_Record.mk 0 0 [] (api_Version.mk 0 0 0 []) (api_Version.mk 0 0 0 []) 0 [])).Kind) fun v_5523 =>
      letv ((o0_4.getD v_5518.toNat (api_Record.mk 0 0 [] (api_Version.mk 0 0 0 []) (api_Version.mk 0 0 0 []) 0 [])).Pack) fun v_5525 =>
      letv (((o0_4.getD v_5518.toNat (api_Record.mk 0 0 [] (api_Version.mk 0 0 0 []) (api_Version.mk 0 0 0 []) 0 [])).From).Major) fun v_5527 =>
      letv (((o0_4.getD v_5518.toNat (api_Record.mk 0 0 [] (api_Version.mk 0 0 0 []) (api_Version.mk 0 0 0 []) 0 [])).From).Minor) fun v_5529 =>
      letv (((o0_4.getD v_5518.toNat (api_Record.mk 0 0 [] (api_Version.mk 0 0 0 []) (api_Version.mk 0 0 0 []) 0 [])).From).Patch) fun v_5531 =>
      letv (((o0_4.getD v_5518.toNat (api_Record.mk 0 0 [] (api_Version.mk 0 0 0 []) (api_Version.mk 0 0 0 []) 0 [])).From).Early) fun v_5533 =>
      letv (((o0_4.getD v_5518.toNat (api_Record.mk 0 0 [] (api_Version.mk 0 0 0 []) (api_Version.mk 0 0 0 []) 0 [])).To).Major) fun v_5535 =>
      letv (((o0_4.getD v_5518.toNat (api_Record.mk 0 0 [] (api_Version.mk 0 0 0 []) (api_Version.mk 0 0 0 []) 0 [])).To).Minor) fun v_5537 =>
      letv (((o0_4.getD v_5518.toNat (api_Record.mk 0 0 [] (api_Version.mk 0 0 0 []) (api_Version.mk 0 0 0 []) 0 [])).To).Patch) fun v_5539 =>
      letv (((o0_4.getD v_5518.toNat (api_Record.mk 0 0 [] (api_Version.mk 0 0 0 []) (api_Version.mk 0 0 0 []) 0 [])).To).Early) fun v_5541 =>
      letv ((o0_4.getD v_5518.toNat (api_Record.mk 0 0 [] (api_Version.mk 0 0 0 []) (api_Version.mk 0 0 0 []) 0 [])).Result) fun v_5543 =>
      letv ((o0_4.getD v_5518.toNat (api_Record.mk 0 0 [] (api_Version.mk 0 0 0 []) (api_Version.mk 0 0 0 []) 0 [])).Note) fun v_5545 =>
      chk (0≤a_1∧a_1 < (o0_4.length:Int)) <|
      letv ((o0_4.getD a_1.toNat (api_Record.mk 0 0 [] (api_Version.mk 0 0 0 []) (api_Version.mk 0 0 0 []) 0 [])).Time) fun v_5548 =>
      letv ((o0_4.getD a_1.toNat (api_Record.mk 0 0 [] (api_Version.mk 0 0 0 []) (api_Version.mk 0 0 0 []) 0 [])).Kind) fun v_5550 =>
      letv ((o0_4.getD a_1.toNat (api_Record.mk 0 0 [] (api_Version.mk 0 0 0 []) (api_Version.mk 0 0 0 []) 0 [])).Pack) fun v_5552 =>
      letv (((o0_4.getD a_1.toNat (api_Record.mk 0 0 [] (api_Version.mk 0 0 0 []) (api_Version.mk 0 0 0 []) 0 [])).From).Major) fun v_5554 =>
      letv (((o0_4.getD a_1.toNat (api_Record.mk 0 0 [] (api_Version.mk 0 0 0 []) (api_Version.mk 0 0 0 []) 0 [])).From).Minor) fun v_5556 =>
      letv (((o0_4.getD a_1.toNat (api_Record.mk 0 0 [] (api_Version.mk 0 0 0 []) (api_Version.mk 0 0 0 []) 0 [])).From).Patch) fun v_5558 =>
      letv (((o0_4.getD a_1.toNat (api_Record.mk 0 0 [] (api_Version.mk 0 0 0 []) (api_Version.mk 0 0 0 []) 0 [])).From).Early) fun v_5560 =>
      letv (((o0_4.getD a_1.toNat (api_Record.mk 0 0 [] (api_Version.mk 0 0 0 []) (api_Version.mk 0 0 0 []) 0 [])).To).Major) fun v_5562 =>
      letv (((o0_4.getD a_1.toNat (api_Record.mk 0 0 [] (api_Version.mk 0 0 0 []) (api_Version.mk 0 0 0 []) 0 [])).To).Minor) fun v_5564 =>
      letv (((o0_4.getD a_1.toNat (api_Record.mk 0 0 [] (api_Version.mk 0 0 0 []) (api_Version.mk 0 0 0 []) 0 [])).To).Patch) fun v_5566 =>
      letv (((o0_4.getD a_1.toNat (api_Record.mk 0 0 [] (api_Version.mk 0 0 0 []) (api_Version.mk 0 0 0 []) 0 [])).To).Early) fun v_5568 =>
      letv ((o0_4.getD a_1.toNat (api_Record.mk 0 0 [] (api_Version.mk 0 0 0 []) (api_Version.mk 0 0 0 []) 0 [])).Result) fun v_5570 =>
      letv ((o0_4.getD a_1.toNat (api_Record.mk 0 0 [] (api_Version.mk 0 0 0 []) (api_Version.mk 0 0 0 []) 0 [])).Note) fun v_5572 =>
      call (zbs (api_Record.mk v_5521 v_5523 v_5525 (api_Version.mk v_5527 v_5529 v_5531 v_5533) (api_Version.mk v_5535 v_5537 v_5539 v_5541) v_5543 v_5545) (api_Record.mk v_5548 v_5550 v_5552 (api_Version.mk v_5554 v_5556 v_5558 v_5560) (api_Version.mk v_5562 v_5564 v_5566 v_5568) v_5570 v_5572)) fun r_5574 =>
      bif decide (r_5574 < 0) then
       nx_5517 (IntKind.i64.wrap (v_5518+1),j_5456)
      else
      nx_5517 (i_5455,v_5518)
     else
     k_5516 (i_5455,j_5456)) (m_2,b_3) (fun s=>match s with
    | (i_5455,j_5456) =>
     k_5070 i_5455)
  else
  k_3419 ()
noncomputable def zY (n_1:Int) (o0_2:List api_Record):Option (List api_Record) :=
 jp (S:=Int × List api_Record) (fun s=>match s with
  | (a_114,o0_115) =>
   call (zo a_114 n_1 o0_115) fun r_117 =>
   loopN zdd (fun s nx_170 k_169 =>
    match s with
    | (blockSize_143,o0_144) =>
     bif decide (blockSize_143 < n_1) then
      jp (S:=Int × List api_Record) (fun s=>match s with
       | (a_181,o0_182) =>
        bif decide ((IntKind.i64.wrap (a_181+blockSize_143)) < n_1) then
         call (zj zdd a_181 (IntKind.i64.wrap (a_181+blockSize_143)) n_1 o0_182) fun r_184 =>
         nx_170 (IntKind.i64.wrap (blockSize_143 * 2),r_184)
        else
        nx_170 (IntKind.i64.wrap (blockSize_143 * 2),o0_182)) fun k_183 =>
      loopN zdd (fun s nx_193 k_192 =>
       match s with
       | (a_188,b_189,o0_190) =>
        bif decide (b_189≤n_1) then
         call (zj zdd a_188 (IntKind.i64.wrap (a_188+blockSize_143)) b_189 o0_190) fun r_194 =>
         nx_193 (b_189,IntKind.i64.wrap (b_189+(IntKind.i64.wrap (2 * blockSize_143))),r_194)
        else
        k_192 (a_188,b_189,o0_190)) (0,IntKind.i64.wrap (2 * blockSize_143),o0_144) (fun s=>match s with
       | (a_188,b_189,o0_190) =>
        k_183 (a_188,o0_190))
     else
     k_169 (blockSize_143,o0_144)) (20,r_117) (fun s=>match s with
    | (blockSize_143,o0_144) =>
     some o0_144)) fun k_116 =>
 loopN zdd (fun s nx_203 k_202 =>
  match s with
  | (a_198,b_199,o0_200) =>
   bif decide (b_199≤n_1) then
    call (zo a_198 b_199 o0_200) fun r_204 =>
    nx_203 (b_199,IntKind.i64.wrap (b_199+20),r_204)
   else
   k_202 (a_198,b_199,o0_200)) (0,20,o0_2) (fun s=>match s with
  | (a_198,b_199,o0_200) =>
   k_116 (a_198,o0_200))
noncomputable def zp (o0_1:List api_Record):Option (List api_Record) :=
 call (zY (o0_1.length:Int) o0_1) fun r_3 =>
 some r_3
noncomputable def Law_could (l_1:List api_Record) (raw_2:Bool):Option (List api_Record) :=
 bif raw_2 then
  some l_1
 else
 chk (0≤min (l_1.length:Int) 60∧min (l_1.length:Int) 60≤(l_1.length:Int)) <|
 call (zx (List.take ((min (l_1.length:Int) 60).toNat) l_1)) fun r_4 =>
 call (zp r_4) fun r_5 =>
 jp (S:=List api_Record) (fun o1_42 =>
  some o1_42) fun k_43 =>
 forC r_5.length 0 (fun i_67 o1_55 nx_66 k_65 =>
  call (zaS (r_5.getD i_67 (api_Record.mk 0 0 [] (api_Version.mk 0 0 0 []) (api_Version.mk 0 0 0 []) 0 []))) fun r_71 =>
  callG (decide (r_71=0)) (zx o1_55) [] fun r_72 =>
  chk ((decide (r_71=0))=true→(r_72++[(r_5.getD i_67 (api_Record.mk 0 0 [] (api_Version.mk 0 0 0 []) (api_Version.mk 0 0 0 []) 0 []))]).length≤274877906944) <|
  callG (decide (r_71=0)) (zb8 (r_72++[(r_5.getD i_67 (api_Record.mk 0 0 [] (api_Version.mk 0 0 0 []) (api_Version.mk 0 0 0 []) 0 []))])) 0 fun r_74 =>
  bif ((decide (r_71=0)) && (decide (r_74=0))) then
   chk ((o1_55++[(r_5.getD i_67 (api_Record.mk 0 0 [] (api_Version.mk 0 0 0 []) (api_Version.mk 0 0 0 []) 0 []))]).length≤274877906944) <|
   nx_66 (o1_55++[(r_5.getD i_67 (api_Record.mk 0 0 [] (api_Version.mk 0 0 0 []) (api_Version.mk 0 0 0 []) 0 []))])
  else
  nx_66 o1_55) [] (fun o1_55 =>
  k_43 o1_55)
noncomputable def zdE (text_1:Str):Option (List Str × Int) :=
 call (zad text_1 ([10]:Str)) fun r_2 =>
 idx r_2 (IntKind.i64.wrap ((r_2.length:Int) - 1)) fun s_3 =>
 bif decide (s_3=[]) then
  chk (0≤IntKind.i64.wrap ((r_2.length:Int) - 1)∧IntKind.i64.wrap ((r_2.length:Int) - 1)≤(r_2.length:Int)) <|
  some (List.take ((IntKind.i64.wrap ((r_2.length:Int) - 1)).toNat) r_2,(-1))
 else
 some (r_2,IntKind.i64.wrap ((r_2.length:Int) - 1))
noncomputable def zam (sep_1:Str):Option (Int × Int) :=
 jp (S:=Int) (fun hash_8 =>
  jp (S:=Int) (fun pow_15 =>
   some (hash_8,pow_15)) fun k_16 =>
  loopN zdd (fun s nx_21 k_20 =>
   match s with
   | (pow_17,sq_18,i_19) =>
    bif decide (0 < i_19) then
     bif !decide ((zaw .and .i64 i_19 1)=0) then
      nx_21 (IntKind.u32.wrap (pow_17 * sq_18),IntKind.u32.wrap (sq_18 * sq_18),Int.fdiv i_19 (2 ^ (shI .i64 1)))
     else
     nx_21 (pow_17,IntKind.u32.wrap (sq_18 * sq_18),Int.fdiv i_19 (2 ^ (shI .i64 1)))
    else
    k_20 (pow_17,sq_18,i_19)) (1,16777619,(sep_1.length:Int)) (fun s=>match s with
   | (pow_17,sq_18,i_19) =>
    k_16 pow_17)) fun k_9 =>
 loopN zdd (fun s nx_26 k_25 =>
  match s with
  | (hash_22,i_23) =>
   bif decide (0≤i_23) then
    zdS sep_1 i_23 fun c_27 =>
    nx_26 (IntKind.u32.wrap ((IntKind.u32.wrap (hash_22 * 16777619))+(IntKind.u32.wrap c_27)),IntKind.i64.wrap (i_23 - 1))
   else
   k_25 (hash_22,i_23)) (0,IntKind.i64.wrap ((sep_1.length:Int) - 1)) (fun s=>match s with
  | (hash_22,i_23) =>
   k_9 hash_22)
noncomputable def zW (s_1:Str) (sep_2:Str):Option Int :=
 call (zam sep_2) fun r_3 =>
 jp (S:=Int) (fun h_10 =>
  chk ((decide (h_10=r_3.1))=true→(0≤IntKind.i64.wrap ((s_1.length:Int) - (sep_2.length:Int))∧IntKind.i64.wrap ((s_1.length:Int) - (sep_2.length:Int))≤(s_1.length:Int))) <|
  bif ((decide (h_10=r_3.1)) && (decide ((List.drop ((IntKind.i64.wrap ((s_1.length:Int) - (sep_2.length:Int))).toNat) s_1)=sep_2))) then
   some (IntKind.i64.wrap ((s_1.length:Int) - (sep_2.length:Int)))
  else
  jp (S:=Unit) (fun _ =>
   some (-1)) fun k_23 =>
  loopN zdd (fun s nx_30 k_29 =>
   match s with
   | (h_24,i_25) =>
    bif decide (0≤i_25) then
     zdS s_1 i_25 fun c_31 =>
     zdS s_1 (IntKind.i64.wrap (i_25+(sep_2.length:Int))) fun c_32 =>
     chk ((decide ((IntKind.u32.wrap ((IntKind.u32.wrap ((IntKind.u32.wrap (h_24 * 16777619))+(IntKind.u32.wrap c_31))) - (IntKind.u32.wrap (r_3.2 * (IntKind.u32.wrap c_32)))))=r_3.1))=true→(0≤i_25∧i_25≤(s_1.length:Int)∧0≤IntKind.i64.wrap (i_25+(sep_2.length:Int))∧IntKind.i64.wrap (i_25+(sep_2.length:Int))≤(s_1.length:Int)∧i_25≤IntKind.i64.wrap (i_25+(sep_2.length:Int)))) <|
     bif ((decide ((IntKind.u32.wrap ((IntKind.u32.wrap ((IntKind.u32.wrap (h_24 * 16777619))+(IntKind.u32.wrap c_31))) - (IntKind.u32.wrap (r_3.2 * (IntKind.u32.wrap c_32)))))=r_3.1)) && (decide ((List.take ((IntKind.i64.wrap (i_25+(sep_2.length:Int))).toNat - i_25.toNat) (List.drop i_25.toNat s_1))=sep_2))) then
      some i_25
     else
     nx_30 (IntKind.u32.wrap ((IntKind.u32.wrap ((IntKind.u32.wrap (h_24 * 16777619))+(IntKind.u32.wrap c_31))) - (IntKind.u32.wrap (r_3.2 * (IntKind.u32.wrap c_32)))),IntKind.i64.wrap (i_25 - 1))
    else
    k_29 (h_24,i_25)) (h_10,IntKind.i64.wrap ((IntKind.i64.wrap ((s_1.length:Int) - (sep_2.length:Int))) - 1)) (fun s=>match s with
   | (h_24,i_25) =>
    k_23 ())) fun k_11 =>
 loopN zdd (fun s nx_38 k_37 =>
  match s with
  | (h_34,i_35) =>
   bif decide ((IntKind.i64.wrap ((s_1.length:Int) - (sep_2.length:Int)))≤i_35) then
    zdS s_1 i_35 fun c_39 =>
    nx_38 (IntKind.u32.wrap ((IntKind.u32.wrap (h_34 * 16777619))+(IntKind.u32.wrap c_39)),IntKind.i64.wrap (i_35 - 1))
   else
   k_37 (h_34,i_35)) (0,IntKind.i64.wrap ((s_1.length:Int) - 1)) (fun s=>match s with
  | (h_34,i_35) =>
   k_11 h_34)
noncomputable def zbg (s_1:Str) (substr_2:Str):Option Int :=
 bif decide ((substr_2.length:Int)=0) then
  some (s_1.length:Int)
 else
 bif decide ((substr_2.length:Int)=1) then
  zdS substr_2 0 fun c_3 =>
  call (zz s_1 c_3) fun r_4 =>
  some r_4
 else
 bif decide ((substr_2.length:Int)=(s_1.length:Int)) then
  bif decide (substr_2=s_1) then
   some 0
  else
  some (-1)
 else
 bif decide ((s_1.length:Int) < (substr_2.length:Int)) then
  some (-1)
 else
 call (zW s_1 substr_2) fun r_5 =>
 some r_5
noncomputable def zbD (e_1:Int):Option (api_Record × Int) :=
 some ((api_Record.mk 0 0 [] (api_Version.mk 0 0 0 []) (api_Version.mk 0 0 0 []) 0 []),e_1)
noncomputable def zap (s_1:Str):Option Int :=
 call (zau s_1) fun r_2 =>
 callG (!(!r_2.2)) (strconv_Itoa r_2.1) [] fun r_3 =>
 bif ((((!r_2.2) || (!decide (r_3=s_1))) || (decide (r_2.1 < 0))) || (decide (18 < (s_1.length:Int)))) then
  some (-1)
 else
 some r_2.1
noncomputable def zM (s_1:List Str) (v_2:Str):Option Int :=
 jp (S:=Unit) (fun _ =>
  some (-1)) fun k_10 =>
 forL s_1 0 (fun i_15 s_17 s nx_14 k_13 =>
  bif decide (v_2=s_17) then
   some (i_15:Int)
  else
  nx_14 ()) () (fun _ =>
  k_10 ())
noncomputable def zdY (s_1:Str):Option (Str × Int) :=
 chk ((!(decide ((s_1.length:Int) < 2)))=true→(0≤0∧0 < (s_1.length:Int))) <|
 chk ((!((decide ((s_1.length:Int) < 2)) || (!decide (((s_1.getD 0 0).toNat:Int)=34))))=true→(0≤IntKind.i64.wrap ((s_1.length:Int) - 1)∧IntKind.i64.wrap ((s_1.length:Int) - 1) < (s_1.length:Int))) <|
 bif (((decide ((s_1.length:Int) < 2)) || (!decide (((s_1.getD 0 0).toNat:Int)=34))) || (!decide (((s_1.getD ((IntKind.i64.wrap ((s_1.length:Int) - 1)).toNat) 0).toNat:Int)=34))) then
  some ([],8)
 else
 jp (S:=List Int) (fun o0_64 =>
  call (R_Quote (Go.Vc.strOf o0_64)) fun r_66 =>
  bif !decide (r_66=s_1) then
   some ([],8)
  else
  some (Go.Vc.strOf o0_64,0)) fun k_65 =>
 chk (0≤1∧1≤(s_1.length:Int)∧0≤IntKind.i64.wrap ((s_1.length:Int) - 1)∧IntKind.i64.wrap ((s_1.length:Int) - 1)≤(s_1.length:Int)∧1≤IntKind.i64.wrap ((s_1.length:Int) - 1)) <|
 loopN zdd (fun s nx_108 k_107 =>
  match s with
  | (b_87,o0_88) =>
   bif !decide (b_87=[]) then
    zdS b_87 0 fun c_109 =>
    bif !decide (c_109=92) then
     chk ((o0_88++[c_109]).length≤274877906944) <|
     chk (0≤1∧1≤(b_87.length:Int)) <|
     nx_108 (List.drop 1 b_87,o0_88++[c_109])
    else
    chk ((decide (2≤(b_87.length:Int)))=true→(0≤1∧1 < (b_87.length:Int))) <|
    chk (((decide (2≤(b_87.length:Int))) && (!(decide (((b_87.getD 1 0).toNat:Int)=34))))=true→(0≤1∧1 < (b_87.length:Int))) <|
    bif ((decide (2≤(b_87.length:Int))) && ((decide (((b_87.getD 1 0).toNat:Int)=34)) || (decide (((b_87.getD 1 0).toNat:Int)=92)))) then
     zdS b_87 1 fun c_114 =>
     chk ((o0_88++[c_114]).length≤274877906944) <|
     chk (0≤2∧2≤(b_87.length:Int)) <|
     nx_108 (List.drop 2 b_87,o0_88++[c_114])
    else
    chk ((decide (2≤(b_87.length:Int)))=true→(0≤1∧1 < (b_87.length:Int))) <|
    bif ((decide (2≤(b_87.length:Int))) && (decide (((b_87.getD 1 0).toNat:Int)=110))) then
     chk ((o0_88++[10]).length≤274877906944) <|
     chk (0≤2∧2≤(b_87.length:Int)) <|
     nx_108 (List.drop 2 b_87,o0_88++[10])
    else
    chk ((decide (4≤(b_87.length:Int)))=true→(0≤1∧1 < (b_87.length:Int))) <|
    bif ((decide (4≤(b_87.length:Int))) && (decide (((b_87.getD 1 0).toNat:Int)=120))) then
     chk (0≤2∧2≤(b_87.length:Int)∧0≤3∧3≤(b_87.length:Int)∧2≤3) <|
     call (za0 ([48,49,50,51,52,53,54,55,56,57,97,98,99,100,101,102]:Str) (List.take (3 - 2) (List.drop 2 b_87))) fun r_122 =>
     chk (0≤3∧3≤(b_87.length:Int)∧0≤4∧4≤(b_87.length:Int)∧3≤4) <|
     call (za0 ([48,49,50,51,52,53,54,55,56,57,97,98,99,100,101,102]:Str) (List.take (4 - 3) (List.drop 3 b_87))) fun r_124 =>
     chk ((o0_88++[IntKind.u8.wrap (IntKind.i64.wrap ((IntKind.i64.wrap (r_122 * 16))+r_124))]).length≤274877906944) <|
     chk (0≤4∧4≤(b_87.length:Int)) <|
     nx_108 (List.drop 4 b_87,o0_88++[IntKind.u8.wrap (IntKind.i64.wrap ((IntKind.i64.wrap (r_122 * 16))+r_124))])
    else
    some ([],8)
   else
   k_107 (b_87,o0_88)) (List.take ((IntKind.i64.wrap ((s_1.length:Int) - 1)).toNat - 1) (List.drop 1 s_1),[]) (fun s=>match s with
  | (b_87,o0_88) =>
   k_65 o0_88)
noncomputable def zc3 (s_1:Str) (most_2:Int):Option (Int × Bool) :=
 callG (!((decide (s_1=[])) || (decide (most_2 < (s_1.length:Int))))) (R_Of s_1 ([48,49,50,51,52,53,54,55,56,57]:Str)) false fun r_3 =>
 chk (((!(((decide (s_1=[])) || (decide (most_2 < (s_1.length:Int)))) || (!r_3))) && (decide (1 < (s_1.length:Int))))=true→(0≤0∧0 < (s_1.length:Int))) <|
 bif ((((decide (s_1=[])) || (decide (most_2 < (s_1.length:Int)))) || (!r_3)) || ((decide (1 < (s_1.length:Int))) && (decide (((s_1.getD 0 0).toNat:Int)=48)))) then
  some (0,false)
 else
 call (zau s_1) fun r_5 =>
 some (r_5.1,r_5.2)
noncomputable def zV (s_1:Str):Option (api_Version × Int) :=
 call (zci s_1 ([45]:Str)) fun r_2 =>
 call (zad r_2.1 ([46]:Str)) fun r_3 =>
 bif ((!decide ((r_3.length:Int)=3)) || (r_2.2.2 && (decide (r_2.2.1=[])))) then
  some ((api_Version.mk 0 0 0 []),8)
 else
 jp (S:=Int × Int × Int) (fun s=>match s with
  | (o1_0_45,o1_1_46,o1_2_47) =>
   call (zbb [(api_Version.mk o1_0_45 o1_1_46 o1_2_47 r_2.2.1)]) fun r_49 =>
   bif !decide (r_49=0) then
    some ((api_Version.mk 0 0 0 []),r_49)
   else
   some ((api_Version.mk o1_0_45 o1_1_46 o1_2_47 r_2.2.1),0)) fun k_48 =>
 idx r_3 0 fun s_85 =>
 call (zc3 s_85 9) fun r_86 =>
 bif !r_86.2 then
  some ((api_Version.mk 0 0 0 []),8)
 else
 idx r_3 1 fun s_87 =>
 call (zc3 s_87 9) fun r_88 =>
 bif !r_88.2 then
  some ((api_Version.mk 0 0 0 []),8)
 else
 idx r_3 2 fun s_89 =>
 call (zc3 s_89 9) fun r_90 =>
 bif !r_90.2 then
  some ((api_Version.mk 0 0 0 []),8)
 else
 k_48 (r_86.1,r_88.1,r_90.1)
noncomputable def zbP (s_1:Str):Option (api_Record × Int) :=
 call (zbA s_1 ([32]:Str) 7) fun r_2 =>
 bif !decide ((r_2.length:Int)=7) then
  call (zbD 8) fun r_3 =>
  some (r_3.1,r_3.2)
 else
 idx r_2 0 fun s_7 =>
 call (zap s_7) fun r_8 =>
 idx r_2 1 fun s_9 =>
 idx r_2 2 fun s_10 =>
 call (zdx) fun r_11 =>
 call (zM r_11 s_9) fun r_12 =>
 idx r_2 5 fun s_13 =>
 call (zap s_13) fun r_14 =>
 idx r_2 6 fun s_15 =>
 call (zdY s_15) fun r_16 =>
 jp (S:=Bool × Int × Int × Int × Str × Int × Int × Int × Str) (fun s=>match s with
  | (ok_25,o1_3_26,o1_4_27,o1_5_28,o1_6_29,o1_7_30,o1_8_31,o1_9_32,o1_10_33) =>
   bif !ok_25 then
    call (zbD 8) fun r_35 =>
    some (r_35.1,r_35.2)
   else
   call (zaS (api_Record.mk r_8 r_12 s_10 (api_Version.mk o1_3_26 o1_4_27 o1_5_28 o1_6_29) (api_Version.mk o1_7_30 o1_8_31 o1_9_32 o1_10_33) r_14 r_16.1)) fun r_36 =>
   bif !decide (r_36=0) then
    call (zbD r_36) fun r_37 =>
    some (r_37.1,r_37.2)
   else
   some ((api_Record.mk r_8 r_12 s_10 (api_Version.mk o1_3_26 o1_4_27 o1_5_28 o1_6_29) (api_Version.mk o1_7_30 o1_8_31 o1_9_32 o1_10_33) r_14 r_16.1),0)) fun k_34 =>
 idx r_2 3 fun s_38 =>
 bif decide (s_38=([45]:Str)) then
  idx r_2 4 fun s_39 =>
  bif decide (s_39=([45]:Str)) then
   k_34 (((((decide (0≤r_8)) && (decide (0 < r_12))) && (decide (0≤r_14))) && (decide (r_16.2=0))),0,0,0,[],0,0,0,[])
  else
  call (zV s_39) fun r_40 =>
  bif ((!decide (r_40.2=0)) || ((decide (r_40.1.Major=0)) && ((decide (r_40.1.Minor=0)) && ((decide (r_40.1.Patch=0)) && (decide (r_40.1.Early=[])))))) then
   k_34 (false,0,0,0,[],r_40.1.Major,r_40.1.Minor,r_40.1.Patch,r_40.1.Early)
  else
  k_34 (((((decide (0≤r_8)) && (decide (0 < r_12))) && (decide (0≤r_14))) && (decide (r_16.2=0))),0,0,0,[],r_40.1.Major,r_40.1.Minor,r_40.1.Patch,r_40.1.Early)
 else
 call (zV s_38) fun r_41 =>
 bif ((!decide (r_41.2=0)) || ((decide (r_41.1.Major=0)) && ((decide (r_41.1.Minor=0)) && ((decide (r_41.1.Patch=0)) && (decide (r_41.1.Early=[])))))) then
  idx r_2 4 fun s_42 =>
  bif decide (s_42=([45]:Str)) then
   k_34 (false,r_41.1.Major,r_41.1.Minor,r_41.1.Patch,r_41.1.Early,0,0,0,[])
  else
  call (zV s_42) fun r_43 =>
  bif ((!decide (r_43.2=0)) || ((decide (r_43.1.Major=0)) && ((decide (r_43.1.Minor=0)) && ((decide (r_43.1.Patch=0)) && (decide (r_43.1.Early=[])))))) then
   k_34 (false,r_41.1.Major,r_41.1.Minor,r_41.1.Patch,r_41.1.Early,r_43.1.Major,r_43.1.Minor,r_43.1.Patch,r_43.1.Early)
  else
  k_34 (false,r_41.1.Major,r_41.1.Minor,r_41.1.Patch,r_41.1.Early,r_43.1.Major,r_43.1.Minor,r_43.1.Patch,r_43.1.Early)
 else
 idx r_2 4 fun s_44 =>
 bif decide (s_44=([45]:Str)) then
  k_34 (((((decide (0≤r_8)) && (decide (0 < r_12))) && (decide (0≤r_14))) && (decide (r_16.2=0))),r_41.1.Major,r_41.1.Minor,r_41.1.Patch,r_41.1.Early,0,0,0,[])
 else
 call (zV s_44) fun r_45 =>
 bif ((!decide (r_45.2=0)) || ((decide (r_45.1.Major=0)) && ((decide (r_45.1.Minor=0)) && ((decide (r_45.1.Patch=0)) && (decide (r_45.1.Early=[])))))) then
  k_34 (false,r_41.1.Major,r_41.1.Minor,r_41.1.Patch,r_41.1.Early,r_45.1.Major,r_45.1.Minor,r_45.1.Patch,r_45.1.Early)
 else
 k_34 (((((decide (0≤r_8)) && (decide (0 < r_12))) && (decide (0≤r_14))) && (decide (r_16.2=0))),r_41.1.Major,r_41.1.Minor,r_41.1.Patch,r_41.1.Early,r_45.1.Major,r_45.1.Minor,r_45.1.Patch,r_45.1.Early)
noncomputable def R_OpenLog (text_1:Str):Option (List api_Record) :=
 call (zdE text_1) fun r_2 =>
 jp (S:=(List (Str × api_Had)) × List api_Record) (fun s=>match s with
  | (m0_127,o1_128) =>
   some o1_128) fun k_129 =>
 forL r_2.1 0 (fun i_210 s_212 s nx_209 k_208 =>
  match s with
  | (sum_168,m0_170,o1_171) =>
   call (zbg s_212 ([32]:Str)) fun r_213 =>
   bif (((decide ((i_210:Int)=r_2.2)) || (decide (r_213 < 0))) || (decide ((o1_171.length:Int)=5000))) then
    k_208 (sum_168,m0_170,o1_171)
   else
   chk (0≤r_213∧r_213≤(s_212.length:Int)) <|
   call (zbP (List.take r_213.toNat s_212)) fun r_215 =>
   chk ((!(!decide (r_215.2=0)))=true→(0≤IntKind.i64.wrap (r_213+1)∧IntKind.i64.wrap (r_213+1)≤(s_212.length:Int))) <|
   chk ((!(!decide (r_215.2=0)))=true→(0≤r_213∧r_213≤(s_212.length:Int))) <|
   chk ((!(!decide (r_215.2=0)))=true→(sum_168++(List.take r_213.toNat s_212)).length≤274877906944) <|
   callG (!(!decide (r_215.2=0))) (R_SumOf (sum_168++(List.take r_213.toNat s_212))) [] fun r_219 =>
   chk (((!((!decide (r_215.2=0)) || (!decide ((List.drop ((IntKind.i64.wrap (r_213+1)).toNat) s_212)=r_219)))) && (decide (0 < (o1_171.length:Int))))=true→(0≤IntKind.i64.wrap ((o1_171.length:Int) - 1)∧IntKind.i64.wrap ((o1_171.length:Int) - 1) < (o1_171.length:Int))) <|
   callG (!(((!decide (r_215.2=0)) || (!decide ((List.drop ((IntKind.i64.wrap (r_213+1)).toNat) s_212)=r_219))) || ((decide (0 < (o1_171.length:Int))) && (decide (r_215.1.Time < ((o1_171.getD ((IntKind.i64.wrap ((o1_171.length:Int) - 1)).toNat) (api_Record.mk 0 0 [] (api_Version.mk 0 0 0 []) (api_Version.mk 0 0 0 []) 0 [])).Time)))))) (zdF r_215.1 m0_170) (false,m0_170) fun r_221 =>
   bif ((((!decide (r_215.2=0)) || (!decide ((List.drop ((IntKind.i64.wrap (r_213+1)).toNat) s_212)=r_219))) || ((decide (0 < (o1_171.length:Int))) && (decide (r_215.1.Time < ((o1_171.getD ((IntKind.i64.wrap ((o1_171.length:Int) - 1)).toNat) (api_Record.mk 0 0 [] (api_Version.mk 0 0 0 []) (api_Version.mk 0 0 0 []) 0 [])).Time))))) || (!r_221.1)) then
    k_208 (sum_168,r_221.2,o1_171)
   else
   chk (0≤IntKind.i64.wrap (r_213+1)∧IntKind.i64.wrap (r_213+1)≤(s_212.length:Int)) <|
   chk ((o1_171++[r_215.1]).length≤274877906944) <|
   nx_209 (List.drop ((IntKind.i64.wrap (r_213+1)).toNat) s_212,r_221.2,o1_171++[r_215.1])) ([],[],[]) (fun s=>match s with
  | (sum_168,m0_170,o1_171) =>
   k_129 (m0_170,o1_171))
noncomputable def zdc (l_1:List api_Record) (at_2:Int) (cut_3:Int) (by_4:Int):Option Bool :=
 call (zeE) fun r_5 =>
 bif !r_5 then
  some false
 else
 call (Law_could l_1 false) fun r_6 =>
 call (R_LogText r_6) fun r_7 =>
 bif decide (r_7.1=[]) then
  call (log_Open []) fun r_8 =>
  callG ((decide (r_8.2.1=0)) && (decide (r_8.1=0))) (zaH r_8.2.2.2.2.1 r_8.2.2.2.2.2.1 r_8.2.2.2.2.2.2 r_8.2.2.2.1 r_8.2.2.1) [] fun r_9 =>
  some (((decide (r_8.2.1=0)) && (decide (r_8.1=0))) && (decide ((r_9.length:Int)=0)))
 else
 chk (¬ (r_7.1.length:Int)=0) <|
 chk (¬ (r_7.1.length:Int)=0) <|
 letv (Int.tmod (IntKind.i64.wrap ((Int.tmod at_2 (r_7.1.length:Int))+(r_7.1.length:Int))) (r_7.1.length:Int)) fun v_12 =>
 chk (0≤v_12∧v_12 < (r_7.1.length:Int)) <|
 chk (0≤v_12∧v_12 < (r_7.1.length:Int)) <|
 letv (List.set (zbo r_7.1) v_12.toNat (zaw .xor .u8 ((zbo r_7.1).getD v_12.toNat 0) by_4)) fun v_16 =>
 chk (0≤IntKind.i64.wrap ((v_16.length:Int) - (min (max cut_3 0) (v_16.length:Int)))∧IntKind.i64.wrap ((v_16.length:Int) - (min (max cut_3 0) (v_16.length:Int)))≤(v_16.length:Int)) <|
 letv (List.take ((IntKind.i64.wrap ((v_16.length:Int) - (min (max cut_3 0) (v_16.length:Int)))).toNat) v_16) fun v_20 =>
 call (log_Open (Go.Vc.strOf v_20)) fun r_22 =>
 call (R_OpenLog (Go.Vc.strOf v_20)) fun r_23 =>
 callG (!((!decide (r_22.2.1=0)) || (!decide (r_22.1=(r_23.length:Int))))) (zaH r_22.2.2.2.2.1 r_22.2.2.2.2.2.1 r_22.2.2.2.2.2.2 r_22.2.2.2.1 r_22.2.2.1) [] fun r_24 =>
 callG (!((!decide (r_22.2.1=0)) || (!decide (r_22.1=(r_23.length:Int))))) (zu r_24 r_23) false fun r_25 =>
 bif (((!decide (r_22.2.1=0)) || (!decide (r_22.1=(r_23.length:Int)))) || (!r_25)) then
  some false
 else
 jp (S:=Int) (fun lines_32 =>
  jp (S:=Int) (fun lines_42 =>
   chk ((decide (r_22.1=lines_42))=true→(0≤r_22.1∧r_22.1≤(r_6.length:Int))) <|
   callG (decide (r_22.1=lines_42)) (zu r_23 (List.take r_22.1.toNat r_6)) false fun r_45 =>
   some ((decide (r_22.1=lines_42)) && r_45)) fun k_43 =>
  bif decide (by_4=0) then
   forL (Go.Vc.strOf v_20) 0 (fun i_51 c_53 lines_46 nx_50 k_49 =>
    bif decide ((c_53.toNat:Int)=10) then
     nx_50 (IntKind.i64.wrap (lines_46+1))
    else
    nx_50 lines_46) 0 (fun lines_46 =>
    k_43 lines_46)
  else
  k_43 lines_32) fun k_33 =>
 loopN zdd (fun s nx_58 k_57 =>
  match s with
  | (lines_54,t109_55) =>
   bif decide (t109_55 < (min v_12 ((Go.Vc.strOf v_20).length:Int))) then
    zdS r_7.1 t109_55 fun c_59 =>
    bif decide (c_59=10) then
     nx_58 (IntKind.i64.wrap (lines_54+1),IntKind.i64.wrap (t109_55+1))
    else
    nx_58 (lines_54,IntKind.i64.wrap (t109_55+1))
   else
   k_57 (lines_54,t109_55)) (0,0) (fun s=>match s with
  | (lines_54,t109_55) =>
   k_33 lines_54)
end Go.Md
