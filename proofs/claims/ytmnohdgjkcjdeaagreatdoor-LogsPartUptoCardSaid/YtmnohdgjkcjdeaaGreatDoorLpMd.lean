/- Models of the functions that the statement reaches: what each computes, in plain words. -/
import Derived.Test.YtmnohdgjkcjdeaaGreatDoorVc3
set_option linter.unusedVariables false
namespace Go.Md
open Go.Vc
def tabL_3:List Int:=[1,10,100,1000,10000,100000,1000000,10000000,100000000,1000000000,10000000000,100000000000,1000000000000,10000000000000,100000000000000,1000000000000000,10000000000000000,100000000000000000,1000000000000000000,10000000000000000000]
theorem tabL_3_len:tabL_3.length=20:=rfl
def tabL_7:List Int:=[0,1,56,2,57,49,28,3,61,58,42,50,38,29,17,4,62,47,59,36,45,43,51,22,53,39,33,30,24,18,12,5,63,55,48,27,60,41,37,16,46,35,44,21,52,32,23,11,54,26,40,15,34,20,31,10,25,14,19,9,13,8,7,6]
theorem tabL_7_len:tabL_7.length=64:=rfl
instance theTabs:Tabs:=⟨fun b=>bif Nat.beq b 3 then some (.u64,tabL_3) else bif Nat.beq b 7 then some (.u8,tabL_7) else none,fun b=>bif Nat.beq b 1 then true else bif Nat.beq b 2 then true else false⟩
theorem ifc_1:Tabs.ifc 1=true:=rfl
theorem ifc_2:Tabs.ifc 2=true:=rfl
theorem tab_3:Tabs.tab 3=some (.u64,tabL_3):=rfl
attribute [go_sem] tab_3 tabL_3_len
theorem tab_7:Tabs.tab 7=some (.u8,tabL_7):=rfl
attribute [go_sem] tab_7 tabL_7_len
def ecB (b:Bool):List Dt:=[.b b]
def ecS (x:Str):List Dt:=[.s x]
def ecI_i8 (n:Int):List Dt:=[.i .i8 n]
def ecI_i16 (n:Int):List Dt:=[.i .i16 n]
def ecI_i32 (n:Int):List Dt:=[.i .i32 n]
def zaK (n:Int):List Dt:=[.i .i64 n]
def zab (n:Int):List Dt:=[.i .u8 n]
def ecI_u16 (n:Int):List Dt:=[.i .u16 n]
def ecI_u32 (n:Int):List Dt:=[.i .u32 n]
def ecI_u64 (n:Int):List Dt:=[.i .u64 n]
theorem dec1_s:∀ r,zeJ r [.s]→∃ x,r=ecS x:=by
 intro r h
 rcases r with _ | ⟨d,_ | _⟩ <;> simp only [zeJ,and_false,and_true] at h
 cases d <;> simp only [zeI] at h
 exact ⟨_,rfl⟩
theorem dec1_i64:∀ r,zeJ r [.i .i64]→∃ x,r=zaK x:=by
 intro r h
 rcases r with _ | ⟨d,_ | _⟩ <;> simp only [zeJ,and_false,and_true] at h
 cases d <;> simp only [zeI] at h
 subst h
 exact ⟨_,rfl⟩
theorem dec1_u8:∀ r,zeJ r [.i .u8]→∃ x,r=zab x:=by
 intro r h
 rcases r with _ | ⟨d,_ | _⟩ <;> simp only [zeJ,and_false,and_true] at h
 cases d <;> simp only [zeI] at h
 subst h
 exact ⟨_,rfl⟩
structure api_Version where
 Major:Int
 Minor:Int
 Patch:Int
 Early:Str
def zo (x:api_Version):List Dt:=[.i .i64 x.Major,.i .i64 x.Minor,.i .i64 x.Patch,.s x.Early]
def zf1:List Sh:=[.i .i64,.i .i64,.i .i64,.s]
theorem dec_api_Version:∀ r,zeJ r zf1→∃ x:api_Version,r=zo x:=by
 intro r h
 unfold zf1 at h
 rcases r with _ | ⟨d0,_ | ⟨d1,_ | ⟨d2,_ | ⟨d3,_ | _⟩⟩⟩⟩ <;> simp only [zeJ,and_false,and_true] at h
 obtain ⟨h0,h1,h2,h3⟩:=h
 cases d0 <;> simp only [zeI] at h0
 subst h0
 cases d1 <;> simp only [zeI] at h1
 subst h1
 cases d2 <;> simp only [zeI] at h2
 subst h2
 cases d3 <;> simp only [zeI] at h3
 exact ⟨⟨_,_,_,_⟩,rfl⟩
structure api_Record where
 Time:Int
 Kind:Int
 Pack:Str
 From:api_Version
 To:api_Version
 Result:Int
 Note:Str
def za (x:api_Record):List Dt:=[.i .i64 x.Time,.i .i64 x.Kind,.s x.Pack,.i .i64 x.From.Major,.i .i64 x.From.Minor,.i .i64 x.From.Patch,.s x.From.Early,.i .i64 x.To.Major,.i .i64 x.To.Minor,.i .i64 x.To.Patch,.s x.To.Early,.i .i64 x.Result,.s x.Note]
def zbS:List Sh:=[.i .i64,.i .i64,.s,.i .i64,.i .i64,.i .i64,.s,.i .i64,.i .i64,.i .i64,.s,.i .i64,.s]
set_option maxRecDepth 100000 in
theorem zf8:∀ r,zeJ r zbS→∃ x:api_Record,r=za x:=by
 intro r h
 unfold zbS at h
 rcases r with _ | ⟨d0,_ | ⟨d1,_ | ⟨d2,_ | ⟨d3,_ | ⟨d4,_ | ⟨d5,_ | ⟨d6,_ | ⟨d7,_ | ⟨d8,_ | ⟨d9,_ | ⟨d10,_ | ⟨d11,_ | ⟨d12,_ | _⟩⟩⟩⟩⟩⟩⟩⟩⟩⟩⟩⟩⟩ <;> simp only [zeJ,and_false,and_true] at h
 obtain ⟨h0,h1,h2,h3,h4,h5,h6,h7,h8,h9,h10,h11,h12⟩:=h
 cases d0 <;> simp only [zeI] at h0
 subst h0
 cases d1 <;> simp only [zeI] at h1
 subst h1
 cases d2 <;> simp only [zeI] at h2
 cases d3 <;> simp only [zeI] at h3
 subst h3
 cases d4 <;> simp only [zeI] at h4
 subst h4
 cases d5 <;> simp only [zeI] at h5
 subst h5
 cases d6 <;> simp only [zeI] at h6
 cases d7 <;> simp only [zeI] at h7
 subst h7
 cases d8 <;> simp only [zeI] at h8
 subst h8
 cases d9 <;> simp only [zeI] at h9
 subst h9
 cases d10 <;> simp only [zeI] at h10
 cases d11 <;> simp only [zeI] at h11
 subst h11
 cases d12 <;> simp only [zeI] at h12
 exact ⟨⟨_,_,_,⟨_,_,_,_⟩,⟨_,_,_,_⟩,_,_⟩,rfl⟩
structure log_had where
 v:api_Version
 since:Int
def zm (x:log_had):List Dt:=[.i .i64 x.v.Major,.i .i64 x.v.Minor,.i .i64 x.v.Patch,.s x.v.Early,.i .i64 x.since]
def zjX:List Sh:=[.i .i64,.i .i64,.i .i64,.s,.i .i64]
theorem dec_log_had:∀ r,zeJ r zjX→∃ x:log_had,r=zm x:=by
 intro r h
 unfold zjX at h
 rcases r with _ | ⟨d0,_ | ⟨d1,_ | ⟨d2,_ | ⟨d3,_ | ⟨d4,_ | _⟩⟩⟩⟩⟩ <;> simp only [zeJ,and_false,and_true] at h
 obtain ⟨h0,h1,h2,h3,h4⟩:=h
 cases d0 <;> simp only [zeI] at h0
 subst h0
 cases d1 <;> simp only [zeI] at h1
 subst h1
 cases d2 <;> simp only [zeI] at h2
 subst h2
 cases d3 <;> simp only [zeI] at h3
 cases d4 <;> simp only [zeI] at h4
 subst h4
 exact ⟨⟨⟨_,_,_,_⟩,_⟩,rfl⟩
structure api_Had where
 Pack:Str
 Version:api_Version
 Since:Int
def zF (x:api_Had):List Dt:=[.s x.Pack,.i .i64 x.Version.Major,.i .i64 x.Version.Minor,.i .i64 x.Version.Patch,.s x.Version.Early,.i .i64 x.Since]
def zjY:List Sh:=[.s,.i .i64,.i .i64,.i .i64,.s,.i .i64]
theorem dec_api_Had:∀ r,zeJ r zjY→∃ x:api_Had,r=zF x:=by
 intro r h
 unfold zjY at h
 rcases r with _ | ⟨d0,_ | ⟨d1,_ | ⟨d2,_ | ⟨d3,_ | ⟨d4,_ | ⟨d5,_ | _⟩⟩⟩⟩⟩⟩ <;> simp only [zeJ,and_false,and_true] at h
 obtain ⟨h0,h1,h2,h3,h4,h5⟩:=h
 cases d0 <;> simp only [zeI] at h0
 cases d1 <;> simp only [zeI] at h1
 subst h1
 cases d2 <;> simp only [zeI] at h2
 subst h2
 cases d3 <;> simp only [zeI] at h3
 subst h3
 cases d4 <;> simp only [zeI] at h4
 cases d5 <;> simp only [zeI] at h5
 subst h5
 exact ⟨⟨_,⟨_,_,_,_⟩,_⟩,rfl⟩
def zK (x:List api_Record):List Dt:=[.l (List.map za x)]
def ze6 (x:List api_Had):List Dt:=[.l (List.map zF x)]
theorem sz_ecB:∀ l,zeN (1) (List.map ecB l)=True:=fun l=>eq_true (by intro r hr; obtain ⟨x,_,rfl⟩:=List.mem_map.1 hr; rfl)
theorem sz_ecS:∀ l,zeN (1) (List.map ecS l)=True:=fun l=>eq_true (by intro r hr; obtain ⟨x,_,rfl⟩:=List.mem_map.1 hr; rfl)
theorem sz_ecI_i64:∀ l,zeN (1) (List.map zaK l)=True:=fun l=>eq_true (by intro r hr; obtain ⟨x,_,rfl⟩:=List.mem_map.1 hr; rfl)
theorem sz_ecI_u8:∀ l,zeN (1) (List.map zab l)=True:=fun l=>eq_true (by intro r hr; obtain ⟨x,_,rfl⟩:=List.mem_map.1 hr; rfl)
theorem sz_ecI_u64:∀ l,zeN (1) (List.map ecI_u64 l)=True:=fun l=>eq_true (by intro r hr; obtain ⟨x,_,rfl⟩:=List.mem_map.1 hr; rfl)
theorem sz_ecI_i32:∀ l,zeN (1) (List.map ecI_i32 l)=True:=fun l=>eq_true (by intro r hr; obtain ⟨x,_,rfl⟩:=List.mem_map.1 hr; rfl)
theorem sz_ecI_u32:∀ l,zeN (1) (List.map ecI_u32 l)=True:=fun l=>eq_true (by intro r hr; obtain ⟨x,_,rfl⟩:=List.mem_map.1 hr; rfl)
theorem zgE:∀ l,zeN (4) (List.map zo l)=True:=fun l=>eq_true (by intro r hr; obtain ⟨x,_,rfl⟩:=List.mem_map.1 hr; rfl)
theorem zhf:∀ l,zeN (13) (List.map za l)=True:=fun l=>eq_true (by intro r hr; obtain ⟨x,_,rfl⟩:=List.mem_map.1 hr; rfl)
theorem zjB:∀ l,zeN (5) (List.map zm l)=True:=fun l=>eq_true (by intro r hr; obtain ⟨x,_,rfl⟩:=List.mem_map.1 hr; rfl)
theorem zjC:∀ l,zeN (6) (List.map zF l)=True:=fun l=>eq_true (by intro r hr; obtain ⟨x,_,rfl⟩:=List.mem_map.1 hr; rfl)
theorem ze9:∀ l,zeN (1) (List.map zK l)=True:=fun l=>eq_true (by intro r hr; obtain ⟨x,_,rfl⟩:=List.mem_map.1 hr; rfl)
theorem zgi:∀ l,zeN (1) (List.map ze6 l)=True:=fun l=>eq_true (by intro r hr; obtain ⟨x,_,rfl⟩:=List.mem_map.1 hr; rfl)
theorem allB_enc:∀ l:List Int,zfc (List.map zab l)=True
 | []=>by simp only [List.map_nil,zfc]
 | _::l=>by simp only [List.map_cons,zab,zfc,allB_enc l,and_self]
theorem unB_enc:∀ l:List Int,unB (List.map zab l)=Go.Vc.strOf l
 | []=>by simp only [List.map_nil,unB,Go.Vc.strOf]
 | _::l=>by simp only [List.map_cons,zab,unB,unB_enc l,Go.Vc.strOf]
theorem bR_enc (l:Str):bR l=List.map zab (zbC l):=by simp [bR,zbC,zab]
attribute [go_sem] allB_enc unB_enc bR_enc
attribute [go_sem] ecB ecS zaK zab ecI_u64 ecI_i32 ecI_u32 zo za zm zF zK ze6 sz_ecB sz_ecS sz_ecI_i64 sz_ecI_u8 sz_ecI_u64 sz_ecI_i32 sz_ecI_u32 zgE zhf zjB zjC ze9 zgi
noncomputable def zbH (c_1:Int):Option Bool :=
 some ((decide (97≤c_1)) && (decide (c_1≤122)))
noncomputable def zci (c_1:Int):Option Bool :=
 some ((decide (48≤c_1)) && (decide (c_1≤57)))
noncomputable def zc7 (c_1:Int):Option Bool :=
 call (zbH c_1) fun r_2 =>
 callG (!r_2) (zci c_1) false fun r_3 =>
 some (((r_2 || r_3) || (decide (c_1=45))) || (decide (c_1=46)))
noncomputable def zeM (s_1:Str) (most_2:Int):Option Bool :=
 jp (S:=Unit) (fun _ =>
  some ((!decide (s_1=[])) && (decide ((s_1.length:Int)≤most_2)))) fun k_3 =>
 forL s_1 0 (fun i_7 c_4 s nx_5 k_8 =>
  call (zc7 (c_4.toNat:Int)) fun r_6 =>
  bif !r_6 then
   some false
  else
  nx_5 ()) () (fun _ =>
  k_3 ())
noncomputable def zdz (s_1:Str):Option Bool :=
 call (zeM s_1 40) fun r_2 =>
 chk (r_2=true→(0≤0∧0 < (s_1.length:Int))) <|
 callG r_2 (zbH ((s_1.getD 0 0).toNat:Int)) false fun r_3 =>
 some (r_2 && r_3)
noncomputable def zeH :Option Bool :=
 call (zdz ([97]:Str)) fun r_1 =>
 some r_1
noncomputable def zfs :Option ((List (Str × log_had)) × Int) :=
 some ([],0)
noncomputable def zk3 :Option ((List (Str × log_had)) × Int × Str) :=
 call (zfs) fun r_1 =>
 some (r_1.1,r_1.2,[])
noncomputable def zgb (bad_1:Bool) (e_2:Int):Option Int :=
 bif bad_1 then
  some e_2
 else
 some 0
noncomputable def zg9 (s_2:Str):Option Bool :=
 jp (S:=Unit) (fun _ =>
  some ((!decide (s_2=[])) && (decide ((s_2.length:Int)≤40)))) fun k_3 =>
 forL s_2 0 (fun i_4 c_1 s nx_5 k_6 =>
  bif (((decide ((i_4:Int)=0)) && (!((decide (97≤(c_1.toNat:Int))) && (decide ((c_1.toNat:Int)≤122))))) || ((((!((decide (97≤(c_1.toNat:Int))) && (decide ((c_1.toNat:Int)≤122)))) && ((decide ((c_1.toNat:Int) < 48)) || (decide (57 < (c_1.toNat:Int))))) && (!decide ((c_1.toNat:Int)=45))) && (!decide ((c_1.toNat:Int)=46)))) then
   some false
  else
  nx_5 ()) () (fun _ =>
  k_3 ())
noncomputable def zgA (l_2:List Int):Option Int :=
 jp (S:=Unit) (fun _ =>
  some 0) fun k_3 =>
 forL l_2 0 (fun i_5 e_1 s nx_4 k_6 =>
  bif !decide (e_1=0) then
   some e_1
  else
  nx_4 ()) () (fun _ =>
  k_3 ())
noncomputable def R_In (n_1:Int) (low_2:Int) (high_3:Int):Option Bool :=
 some ((decide (low_2≤n_1)) && (decide (n_1≤high_3)))
noncomputable def zN (s_1:Str) (c_2:Int):Option Int :=
 some (zf6 s_1 c_2)
noncomputable def zU (s_2:Str) (substr_1:Str):Option Int :=
 bif ((decide ((substr_1.length:Int)=0)) || (decide (substr_1=s_2))) then
  some 0
 else
 bif decide ((substr_1.length:Int)=1) then
  zd1 substr_1 0 fun c_3 =>
  call (zN s_2 c_3) fun r_4 =>
  some r_4
 else
 bif decide ((s_2.length:Int)≤(substr_1.length:Int)) then
  some (-1)
 else
 none
noncomputable def zaZ (s_1:Str) (substr_2:Str):Option Int :=
 call (zU s_1 substr_2) fun r_3 =>
 some r_3
noncomputable def zcw (s_5:Str) (substr_1:Str):Option Int :=
 bif decide ((substr_1.length:Int)=0) then
  none
 else
 bif decide ((substr_1.length:Int)=1) then
  zd1 substr_1 0 fun c_6 =>
  some (zeW s_5 c_6)
 else
 loopN zc4 (fun s nx_7 k_8 =>
  match s with
  | (s_2,n_4) =>
   call (zaZ s_2 substr_1) fun r_3 =>
   bif decide (r_3=(-1)) then
    some n_4
   else
   chk (0≤IntKind.i64.wrap (r_3+(substr_1.length:Int))∧IntKind.i64.wrap (r_3+(substr_1.length:Int))≤(s_2.length:Int)) <|
   nx_7 (List.drop ((IntKind.i64.wrap (r_3+(substr_1.length:Int))).toNat) s_2,IntKind.i64.wrap (n_4+1))) (s_5,0) (fun s=>match s with
  | (s_2,n_4) =>
   some 0)
noncomputable def zav (s_3:Str) (sep_6:Str) (sepSave_9:Int) (n_10:Int):Option (List Str) :=
 bif decide (n_10=0) then
  some []
 else
 bif decide (sep_6=[]) then
  none
 else
 jp (S:=Int) (fun n_7 =>
  chk (0≤min n_7 (IntKind.i64.wrap ((s_3.length:Int)+1))∧min n_7 (IntKind.i64.wrap ((s_3.length:Int)+1))≤min n_7 (IntKind.i64.wrap ((s_3.length:Int)+1))∧min n_7 (IntKind.i64.wrap ((s_3.length:Int)+1))≤274877906944) <|
  jp (S:=Str × Int × List Str) (fun s=>match s with
   | (s_12,i_4,o0_11) =>
    chk (0≤i_4∧i_4 < (o0_11.length:Int)) <|
    chk (0≤IntKind.i64.wrap (i_4+1)∧IntKind.i64.wrap (i_4+1)≤((List.set o0_11 i_4.toNat s_12).length:Int)) <|
    some (List.take ((IntKind.i64.wrap (i_4+1)).toNat) (List.set o0_11 i_4.toNat s_12))) fun k_15 =>
  loopN zc4 (fun s nx_16 k_13 =>
   match s with
   | (s_1,i_2,o0_8) =>
    bif decide (i_2 < (IntKind.i64.wrap ((min n_7 (IntKind.i64.wrap ((s_3.length:Int)+1))) - 1))) then
     call (zaZ s_1 sep_6) fun r_5 =>
     bif decide (r_5 < 0) then
      k_13 (s_1,i_2,o0_8)
     else
     chk (0≤IntKind.i64.wrap (r_5+sepSave_9)∧IntKind.i64.wrap (r_5+sepSave_9)≤(s_1.length:Int)) <|
     chk (0≤i_2∧i_2 < (o0_8.length:Int)) <|
     chk (0≤IntKind.i64.wrap (r_5+(sep_6.length:Int))∧IntKind.i64.wrap (r_5+(sep_6.length:Int))≤(s_1.length:Int)) <|
     nx_16 (List.drop ((IntKind.i64.wrap (r_5+(sep_6.length:Int))).toNat) s_1,IntKind.i64.wrap (i_2+1),List.set o0_8 i_2.toNat (List.take ((IntKind.i64.wrap (r_5+sepSave_9)).toNat) s_1))
    else
    k_13 (s_1,i_2,o0_8)) (s_3,0,List.replicate ((min n_7 (IntKind.i64.wrap ((s_3.length:Int)+1))).toNat) []) (fun s=>match s with
   | (s_1,i_2,o0_8) =>
    k_15 (s_1,i_2,o0_8))) fun k_14 =>
 bif decide (n_10 < 0) then
  call (zcw s_3 sep_6) fun r_17 =>
  k_14 (IntKind.i64.wrap (r_17+1))
 else
 k_14 n_10
noncomputable def zae (s_1:Str) (sep_2:Str):Option (List Str) :=
 call (zav s_1 sep_2 0 (-1)) fun r_3 =>
 some r_3
noncomputable def zfi (s cut:Str):Option Str:=chk (cut.length≤4294967280∧(cut.all fun c=>decide (c.toNat < 128))=true) <| some (Go.Lib.trimS s cut)
noncomputable def zaA (s_1:Str) (c_2:Int):Option Int :=
 call (zN s_1 c_2) fun r_3 =>
 some r_3
noncomputable def zjy (s_1:Str) (bytes_2:Str):Option Bool :=
 jp (S:=Unit) (fun _ =>
  some true) fun k_3 =>
 forL s_1 0 (fun i_7 c_4 s nx_5 k_8 =>
  call (zaA bytes_2 (c_4.toNat:Int)) fun r_6 =>
  bif decide (r_6 < 0) then
   some false
  else
  nx_5 ()) () (fun _ =>
  k_3 ())
noncomputable def R_Of (s_1:Str) (bytes_2:Str):Option Bool :=
 call (zfi s_1 bytes_2) fun r_3 =>
 callG (decide (r_3=[])) (zjy s_1 bytes_2) false fun r_4 =>
 some ((decide (r_3=[])) && r_4)
noncomputable def zba (l_6:List api_Version):Option Int :=
 jp (S:=Unit) (fun _ =>
  some 0) fun k_7 =>
 forL l_6 0 (fun i_15 v_2 s nx_8 k_16 =>
  jp (S:=Unit) (fun _ =>
   nx_8 ()) fun k_4 =>
  jp (S:=Unit) (fun _ =>
   bif decide (v_2.Early=[]) then
    k_4 ()
   else
   bif decide (40 < (v_2.Early.length:Int)) then
    some 2
   else
   call (zae v_2.Early ([46]:Str)) fun r_9 =>
   forL r_9 0 (fun i_17 s_1 s nx_10 k_18 =>
    callG (!((decide (s_1=[])) || (decide (10 < (s_1.length:Int))))) (R_Of s_1 ([97,98,99,100,101,102,103,104,105,106,107,108,109,110,111,112,113,114,115,116,117,118,119,120,121,122,48,49,50,51,52,53,54,55,56,57]:Str)) false fun r_3 =>
    callG (!(((decide (s_1=[])) || (decide (10 < (s_1.length:Int)))) || (!r_3))) (R_Of s_1 ([48,49,50,51,52,53,54,55,56,57]:Str)) false fun r_5 =>
    chk (((!(((decide (s_1=[])) || (decide (10 < (s_1.length:Int)))) || (!r_3))) && (r_5 && (decide (1 < (s_1.length:Int)))))=true→(0≤0∧0 < (s_1.length:Int))) <|
    bif ((((decide (s_1=[])) || (decide (10 < (s_1.length:Int)))) || (!r_3)) || ((r_5 && (decide (1 < (s_1.length:Int)))) && (decide (((s_1.getD 0 0).toNat:Int)=48)))) then
     some 2
    else
    nx_10 ()) () (fun _ =>
    k_4 ())) fun k_11 =>
  forL [v_2.Major,v_2.Minor,v_2.Patch] 0 (fun i_19 n_12 s nx_13 k_20 =>
   call (R_In n_12 0 999999) fun r_14 =>
   bif !r_14 then
    some 3
   else
   nx_13 ()) () (fun _ =>
   k_11 ())) () (fun _ =>
  k_7 ())
noncomputable def zcJ (x_1:Int):Option Bool :=
 some (!decide (x_1=x_1))
noncomputable def zL (x_1:Int) (y_2:Int):Option Int :=
 call (zcJ x_1) fun r_4 =>
 call (zcJ y_2) fun r_3 =>
 bif r_4 then
  bif r_3 then
   some 0
  else
  some (-1)
 else
 bif r_3 then
  some 1
 else
 bif decide (x_1 < y_2) then
  some (-1)
 else
 bif decide (y_2 < x_1) then
  some 1
 else
 some 0
noncomputable def zdE (vals_2:List Int):Option Int :=
 jp (S:=Unit) (fun _ =>
  some 0) fun k_3 =>
 forL vals_2 0 (fun i_5 n_1 s nx_4 k_6 =>
  bif !decide (n_1=0) then
   some n_1
  else
  nx_4 ()) () (fun _ =>
  k_3 ())
noncomputable def zaw (s:Str):Option (Int × Bool):=some (zg8 s,atoiE s)
noncomputable def zaH (a_1:Str) (b_2:Str):Option Int :=
 some (zks a_1 b_2)
noncomputable def zbK (a_1:Str) (b_2:Str):Option Int :=
 call (zaH a_1 b_2) fun r_3 =>
 some r_3
noncomputable def zdZ (a_1:api_Version) (b_2:api_Version):Option Int :=
 call (zL a_1.Major b_2.Major) fun r_13 =>
 call (zL a_1.Minor b_2.Minor) fun r_14 =>
 call (zL a_1.Patch b_2.Patch) fun r_15 =>
 call (zdE [r_13,r_14,r_15]) fun r_9 =>
 bif !decide (r_9=0) then
  some r_9
 else
 bif ((decide (a_1.Early=[])) || (decide (b_2.Early=[]))) then
  call (zL (min 1 (b_2.Early.length:Int)) (min 1 (a_1.Early.length:Int))) fun r_16 =>
  some r_16
 else
 call (zae a_1.Early ([46]:Str)) fun r_5 =>
 call (zae b_2.Early ([46]:Str)) fun r_6 =>
 jp (S:=Unit) (fun _ =>
  call (zL (r_5.length:Int) (r_6.length:Int)) fun r_17 =>
  some r_17) fun k_18 =>
 loopN zc4 (fun t64_3 nx_19 k_20 =>
  bif decide (t64_3 < (min (r_5.length:Int) (r_6.length:Int))) then
   idx r_5 t64_3 fun s_7 =>
   call (R_Of s_7 ([48,49,50,51,52,53,54,55,56,57]:Str)) fun r_10 =>
   idx r_6 t64_3 fun s_8 =>
   call (R_Of s_8 ([48,49,50,51,52,53,54,55,56,57]:Str)) fun r_11 =>
   call (zaw s_7) fun r_21 =>
   call (zaw s_8) fun r_22 =>
   call (zbK s_7 s_8) fun r_23 =>
   jp (S:=Int) (fun c_12 =>
    bif !decide (c_12=0) then
     some c_12
    else
    nx_19 (IntKind.i64.wrap (t64_3+1))) fun k_4 =>
   bif (r_10 && r_11) then
    call (zL r_21.1 r_22.1) fun r_24 =>
    k_4 r_24
   else
   bif r_10 then
    k_4 (-1)
   else
   bif r_11 then
    k_4 1
   else
   k_4 r_23
  else
  k_20 t64_3) 0 (fun t64_3 =>
  k_18 ())
noncomputable def zfz (s_1:Str):Option Bool :=
 jp (S:=Unit) (fun _ =>
  some (decide ((s_1.length:Int)≤1000))) fun k_3 =>
 forL s_1 0 (fun i_5 c_2 s nx_4 k_6 =>
  bif ((decide ((c_2.toNat:Int) < 32)) || (decide (126 < (c_2.toNat:Int)))) then
   some false
  else
  nx_4 ()) () (fun _ =>
  k_3 ())
noncomputable def zaT (r_1:api_Record):Option Int :=
 call (zgb ((decide (r_1.Time < 0)) || (decide (1099511627776 < r_1.Time))) 3) fun r_6 =>
 call (zgb ((decide (r_1.Kind < 1)) || (decide (6 < r_1.Kind))) 1) fun r_7 =>
 call (zg9 r_1.Pack) fun r_8 =>
 call (zgb (!r_8) 5) fun r_9 =>
 call (zgA [r_6,r_7,r_9]) fun r_2 =>
 jp (S:=Int) (fun e_3 =>
  bif !decide (e_3=0) then
   some e_3
  else
  bif ((!decide ((!((decide (r_1.From.Major=0)) && ((decide (r_1.From.Minor=0)) && ((decide (r_1.From.Patch=0)) && (decide (r_1.From.Early=[]))))))=(((decide (r_1.Kind=2)) || (decide (r_1.Kind=3))) || (decide (r_1.Kind=4))))) || ((!decide ((!((decide (r_1.To.Major=0)) && ((decide (r_1.To.Minor=0)) && ((decide (r_1.To.Patch=0)) && (decide (r_1.To.Early=[]))))))=(!decide (r_1.Kind=4)))) && (!decide (r_1.Kind=6)))) then
   some 2
  else
  call (zdZ r_1.From r_1.To) fun r_4 =>
  call (zgb (((decide (r_1.Kind=2)) && (decide (0≤r_4))) || ((decide (r_1.Kind=3)) && (decide (r_4≤0)))) 11) fun r_10 =>
  call (zgb ((decide (r_1.Result < 0)) || (decide (18 < r_1.Result))) 3) fun r_11 =>
  call (zfz r_1.Note) fun r_12 =>
  call (zgb (!r_12) 2) fun r_13 =>
  call (zgA [r_10,r_11,r_13]) fun r_14 =>
  some r_14) fun k_5 =>
 bif decide (r_2=0) then
  call (zba [r_1.From]) fun r_15 =>
  call (zba [r_1.To]) fun r_16 =>
  call (zgA [r_15,r_16]) fun r_17 =>
  k_5 r_17
 else
 k_5 r_2
noncomputable def zx (s_1:List api_Record):Option (List api_Record) :=
 anyOf (fun b_2:Bool=>b_2=true→s_1=[]) fun b_2 =>
 bif b_2 then
  some []
 else
 chk (([]++s_1).length≤274877906944) <|
 some ([]++s_1)
noncomputable def zdH (r_1:api_Record) (m0_3:List (Str × api_Had)):Option (Bool × (List (Str × api_Had))) :=
 letv (zbD m0_3 r_1.Pack) fun q_2 =>
 jp (S:=Unit) (fun _ =>
  bif !decide (r_1.Result=0) then
   some (true,m0_3)
  else
  jp (S:=Bool) (fun t48_7 =>
   bif t48_7 then
    chk ((zik m0_3 r_1.Pack (api_Had.mk r_1.Pack r_1.To r_1.Time)).length≤274877906944) <|
    some (true,zik m0_3 r_1.Pack (api_Had.mk r_1.Pack r_1.To r_1.Time))
   else
   bif decide (r_1.Kind=4) then
    some (true,adel m0_3 r_1.Pack)
   else
   some (true,m0_3)) fun k_5 =>
  bif decide (r_1.Kind=1) then
   k_5 (decide (r_1.Kind=1))
  else
  bif decide (r_1.Kind=2) then
   k_5 (decide (r_1.Kind=2))
  else
  k_5 (decide (r_1.Kind=3))) fun k_4 =>
 bif decide (r_1.Kind=1) then
  bif q_2.isSome then
   some (false,m0_3)
  else
  k_4 ()
 else
 bif decide (r_1.Kind=5) then
  bif ((!q_2.isSome) || (!((decide ((((q_2.getD (api_Had.mk [] (api_Version.mk 0 0 0 []) 0)).Version).Major)=r_1.To.Major)) && ((decide ((((q_2.getD (api_Had.mk [] (api_Version.mk 0 0 0 []) 0)).Version).Minor)=r_1.To.Minor)) && ((decide ((((q_2.getD (api_Had.mk [] (api_Version.mk 0 0 0 []) 0)).Version).Patch)=r_1.To.Patch)) && (decide ((((q_2.getD (api_Had.mk [] (api_Version.mk 0 0 0 []) 0)).Version).Early)=r_1.To.Early))))))) then
   some (false,m0_3)
  else
  k_4 ()
 else
 jp (S:=Bool) (fun t30_8 =>
  bif t30_8 then
   bif ((!q_2.isSome) || (!((decide ((((q_2.getD (api_Had.mk [] (api_Version.mk 0 0 0 []) 0)).Version).Major)=r_1.From.Major)) && ((decide ((((q_2.getD (api_Had.mk [] (api_Version.mk 0 0 0 []) 0)).Version).Minor)=r_1.From.Minor)) && ((decide ((((q_2.getD (api_Had.mk [] (api_Version.mk 0 0 0 []) 0)).Version).Patch)=r_1.From.Patch)) && (decide ((((q_2.getD (api_Had.mk [] (api_Version.mk 0 0 0 []) 0)).Version).Early)=r_1.From.Early))))))) then
    some (false,m0_3)
   else
   k_4 ()
  else
  k_4 ()) fun k_6 =>
 bif decide (r_1.Kind=2) then
  k_6 (decide (r_1.Kind=2))
 else
 bif decide (r_1.Kind=3) then
  k_6 (decide (r_1.Kind=3))
 else
 k_6 (decide (r_1.Kind=4))
noncomputable def zca (l_2:List api_Record):Option Int :=
 bif decide (5000 < (l_2.length:Int)) then
  some 4
 else
 jp (S:=Unit) (fun _ =>
  some 0) fun k_11 =>
 forL l_2 0 (fun i_1 r_3 m0_4 nx_12 k_14 =>
  call (zaT r_3) fun r_5 =>
  jp (S:=Int) (fun e_6 =>
   jp (S:=Int × (List (Str × api_Had))) (fun s=>match s with
    | (e_8,m0_13) =>
     bif !decide (e_8=0) then
      some e_8
     else
     nx_12 m0_13) fun k_9 =>
   callG (decide (e_6=0)) (zdH r_3 m0_4) (false,m0_4) fun r_7 =>
   bif ((decide (e_6=0)) && (!r_7.1)) then
    k_9 (12,r_7.2)
   else
   k_9 (e_6,r_7.2)) fun k_10 =>
  chk (((decide (r_5=0)) && (decide (0 < (i_1:Int))))=true→(0≤IntKind.i64.wrap ((i_1:Int) - 1)∧IntKind.i64.wrap ((i_1:Int) - 1) < (l_2.length:Int))) <|
  bif (((decide (r_5=0)) && (decide (0 < (i_1:Int)))) && (decide (r_3.Time < ((l_2.getD ((IntKind.i64.wrap ((i_1:Int) - 1)).toNat) (api_Record.mk 0 0 [] (api_Version.mk 0 0 0 []) (api_Version.mk 0 0 0 []) 0 [])).Time)))) then
   k_10 7
  else
  k_10 r_5) [] (fun m0_4 =>
  k_11 ())
noncomputable def zcZ (n_1:Int) (low_2:Int) (high_3:Int):Option Bool :=
 some ((decide (n_1 < low_2)) || (decide (high_3 < n_1)))
noncomputable def zch (n_1:Int) (low_2:Int) (high_3:Int):Option Bool :=
 some ((decide (n_1 < low_2)) || (decide (high_3 < n_1)))
noncomputable def zcv (c_1:Int):Option Bool :=
 call (zbH c_1) fun r_2 =>
 callG (!r_2) (zci c_1) false fun r_3 =>
 some (r_2 || r_3)
noncomputable def zdK (s_1:Str) (most_2:Int):Option Bool :=
 jp (S:=Unit) (fun _ =>
  some ((!decide (s_1=[])) && (decide ((s_1.length:Int)≤most_2)))) fun k_3 =>
 forL s_1 0 (fun i_7 c_4 s nx_5 k_8 =>
  call (zcv (c_4.toNat:Int)) fun r_6 =>
  bif !r_6 then
   some false
  else
  nx_5 ()) () (fun _ =>
  k_3 ())
noncomputable def zcP (s_1:Str) (most_2:Int):Option Bool :=
 jp (S:=Unit) (fun _ =>
  some ((!decide (s_1=[])) && (decide ((s_1.length:Int)≤most_2)))) fun k_3 =>
 forL s_1 0 (fun i_7 c_4 s nx_5 k_8 =>
  call (zci (c_4.toNat:Int)) fun r_6 =>
  bif !r_6 then
   some false
  else
  nx_5 ()) () (fun _ =>
  k_3 ())
noncomputable def zbp (s_1:Str):Option Bool :=
 call (zcP s_1 10) fun r_2 =>
 some r_2
noncomputable def zdJ (s_3:Str):Option Bool :=
 jp (S:=Unit) (fun _ =>
  some (decide ((s_3.length:Int)≤40))) fun k_5 =>
 call (zae s_3 ([46]:Str)) fun r_6 =>
 forL r_6 0 (fun i_8 s_1 s nx_7 k_9 =>
  call (zdK s_1 10) fun r_2 =>
  callG (!(!r_2)) (zbp s_1) false fun r_4 =>
  chk (((!(!r_2)) && r_4)=true→(0≤0∧0 < (s_1.length:Int))) <|
  bif ((!r_2) || ((r_4 && (decide (((s_1.getD 0 0).toNat:Int)=48))) && (!decide (s_1=([48]:Str))))) then
   some false
  else
  nx_7 ()) () (fun _ =>
  k_5 ())
noncomputable def zc8 (v_1:api_Version):Option Int :=
 jp (S:=Unit) (fun _ =>
  callG (!decide (v_1.Early=[])) (zdJ v_1.Early) false fun r_2 =>
  bif ((!decide (v_1.Early=[])) && (!r_2)) then
   some 2
  else
  some 0) fun k_3 =>
 call (zch v_1.Major 0 999999) fun r_4 =>
 bif r_4 then
  some 3
 else
 call (zch v_1.Minor 0 999999) fun r_5 =>
 bif r_5 then
  some 3
 else
 call (zch v_1.Patch 0 999999) fun r_6 =>
 bif r_6 then
  some 3
 else
 k_3 ()
noncomputable def zgV (kind_1:Int):Option (Bool × Bool) :=
 jp (S:=Bool) (fun t5_3 =>
  bif t5_3 then
   some (true,true)
  else
  bif decide (kind_1=4) then
   some (true,false)
  else
  some (false,true)) fun k_2 =>
 bif decide (kind_1=2) then
  k_2 (decide (kind_1=2))
 else
 k_2 (decide (kind_1=3))
noncomputable def zbr (a_1:Str) (b_2:Str):Option Int :=
 call (zbp a_1) fun r_3 =>
 call (zbp b_2) fun r_4 =>
 jp (S:=Unit) (fun _ =>
  call (zbK a_1 b_2) fun r_6 =>
  some r_6) fun k_5 =>
 bif (r_3 && r_4) then
  bif !decide ((a_1.length:Int)=(b_2.length:Int)) then
   call (zL (a_1.length:Int) (b_2.length:Int)) fun r_7 =>
   some r_7
  else
  k_5 ()
 else
 bif r_3 then
  some (-1)
 else
 bif r_4 then
  some 1
 else
 k_5 ()
noncomputable def zbs (a_2:Str) (b_3:Str):Option Int :=
 bif decide (a_2=b_3) then
  some 0
 else
 bif decide (a_2=[]) then
  some 1
 else
 bif decide (b_3=[]) then
  some (-1)
 else
 call (zae a_2 ([46]:Str)) fun r_4 =>
 call (zae b_3 ([46]:Str)) fun r_5 =>
 jp (S:=Unit) (fun _ =>
  call (zL (r_4.length:Int) (r_5.length:Int)) fun r_7 =>
  some r_7) fun k_8 =>
 loopN zc4 (fun t28_1 nx_9 k_10 =>
  bif decide (t28_1 < (min (r_4.length:Int) (r_5.length:Int))) then
   idx r_4 t28_1 fun s_11 =>
   idx r_5 t28_1 fun s_12 =>
   call (zbr s_11 s_12) fun r_6 =>
   bif !decide (r_6=0) then
    some r_6
   else
   nx_9 (IntKind.i64.wrap (t28_1+1))
  else
  k_10 t28_1) 0 (fun t28_1 =>
  k_8 ())
noncomputable def zff (a_1:api_Version) (b_2:api_Version):Option Int :=
 call (zL a_1.Major b_2.Major) fun r_3 =>
 call (zL a_1.Minor b_2.Minor) fun r_4 =>
 call (zL a_1.Patch b_2.Patch) fun r_5 =>
 call (zbs a_1.Early b_2.Early) fun r_6 =>
 call (zdE [r_3,r_4,r_5,r_6]) fun r_7 =>
 some r_7
noncomputable def zdl (c_1:Int):Option Bool :=
 some ((decide (32≤c_1)) && (decide (c_1≤126)))
noncomputable def zeL (s_1:Str) (most_2:Int):Option Bool :=
 jp (S:=Unit) (fun _ =>
  some ((!decide (s_1=[])) && (decide ((s_1.length:Int)≤most_2)))) fun k_3 =>
 forL s_1 0 (fun i_7 c_4 s nx_5 k_8 =>
  call (zdl (c_4.toNat:Int)) fun r_6 =>
  bif !r_6 then
   some false
  else
  nx_5 ()) () (fun _ =>
  k_3 ())
noncomputable def zdL (s_1:Str):Option Bool :=
 callG (!(decide (s_1=[]))) (zeL s_1 1000) false fun r_2 =>
 some ((decide (s_1=[])) || r_2)
noncomputable def zaU (r_1:api_Record):Option Int :=
 call (zcZ r_1.Time 0 1099511627776) fun r_6 =>
 bif r_6 then
  some 3
 else
 call (zcZ r_1.Kind 1 6) fun r_7 =>
 bif r_7 then
  some 1
 else
 call (zdz r_1.Pack) fun r_8 =>
 bif !r_8 then
  some 5
 else
 jp (S:=Unit) (fun _ =>
  call (zgV r_1.Kind) fun r_2 =>
  bif ((!decide (r_2.1=(!((decide (r_1.From.Major=0)) && ((decide (r_1.From.Minor=0)) && ((decide (r_1.From.Patch=0)) && (decide (r_1.From.Early=[])))))))) || ((!decide (r_2.2=(!((decide (r_1.To.Major=0)) && ((decide (r_1.To.Minor=0)) && ((decide (r_1.To.Patch=0)) && (decide (r_1.To.Early=[])))))))) && (!decide (r_1.Kind=6)))) then
   some 2
  else
  call (zff r_1.From r_1.To) fun r_3 =>
  bif (((decide (r_1.Kind=2)) && (decide (0≤r_3))) || ((decide (r_1.Kind=3)) && (decide (r_3≤0)))) then
   some 11
  else
  call (zcZ r_1.Result 0 18) fun r_9 =>
  bif r_9 then
   some 3
  else
  call (zdL r_1.Note) fun r_10 =>
  bif !r_10 then
   some 2
  else
  some 0) fun k_11 =>
 call (zc8 r_1.From) fun r_4 =>
 bif !decide (r_4=0) then
  some r_4
 else
 call (zc8 r_1.To) fun r_5 =>
 bif !decide (r_5=0) then
  some r_5
 else
 k_11 ()
noncomputable def za4 (r_1:api_Record) (o0_1_5:Int) (m1_6:List (Str × log_had)):Option Int :=
 bif decide (r_1.Time < o0_1_5) then
  some 7
 else
 letv (zbD m1_6 r_1.Pack) fun q_2 =>
 jp (S:=Bool) (fun bad_7 =>
  bif bad_7 then
   some 12
  else
  some 0) fun k_3 =>
 bif decide (r_1.Kind=1) then
  k_3 q_2.isSome
 else
 jp (S:=Bool) (fun t30_8 =>
  bif t30_8 then
   k_3 ((!q_2.isSome) || (!((decide ((((q_2.getD (log_had.mk (api_Version.mk 0 0 0 []) 0)).v).Major)=r_1.From.Major)) && ((decide ((((q_2.getD (log_had.mk (api_Version.mk 0 0 0 []) 0)).v).Minor)=r_1.From.Minor)) && ((decide ((((q_2.getD (log_had.mk (api_Version.mk 0 0 0 []) 0)).v).Patch)=r_1.From.Patch)) && (decide ((((q_2.getD (log_had.mk (api_Version.mk 0 0 0 []) 0)).v).Early)=r_1.From.Early)))))))
  else
  bif decide (r_1.Kind=5) then
   k_3 ((!q_2.isSome) || (!((decide ((((q_2.getD (log_had.mk (api_Version.mk 0 0 0 []) 0)).v).Major)=r_1.To.Major)) && ((decide ((((q_2.getD (log_had.mk (api_Version.mk 0 0 0 []) 0)).v).Minor)=r_1.To.Minor)) && ((decide ((((q_2.getD (log_had.mk (api_Version.mk 0 0 0 []) 0)).v).Patch)=r_1.To.Patch)) && (decide ((((q_2.getD (log_had.mk (api_Version.mk 0 0 0 []) 0)).v).Early)=r_1.To.Early)))))))
  else
  k_3 false) fun k_4 =>
 bif decide (r_1.Kind=2) then
  k_4 (decide (r_1.Kind=2))
 else
 bif decide (r_1.Kind=3) then
  k_4 (decide (r_1.Kind=3))
 else
 k_4 (decide (r_1.Kind=4))
noncomputable def strconv_Itoa (n:Int):Option Str:=chk (-9223372036854775808≤n∧n≤9223372036854775807) <| some (Go.Lib.itoa n)
noncomputable def zdu :Option (List Str) :=
 some [[],([105,110,115,116,97,108,108]:Str),([117,112,100,97,116,101]:Str),([98,97,99,107]:Str),([114,101,109,111,118,101]:Str),([114,101,112,97,105,114]:Str),([99,104,101,99,107]:Str)]
noncomputable def zfC (v_1:api_Version):Option Str :=
 call (strconv_Itoa v_1.Major) fun r_2 =>
 chk ((r_2++([46]:Str)).length≤274877906944) <|
 call (strconv_Itoa v_1.Minor) fun r_3 =>
 chk (((r_2++([46]:Str))++r_3).length≤274877906944) <|
 chk ((((r_2++([46]:Str))++r_3)++([46]:Str)).length≤274877906944) <|
 call (strconv_Itoa v_1.Patch) fun r_4 =>
 chk (((((r_2++([46]:Str))++r_3)++([46]:Str))++r_4).length≤274877906944) <|
 bif !decide (v_1.Early=[]) then
  chk ((([45]:Str)++v_1.Early).length≤274877906944) <|
  chk ((((((r_2++([46]:Str))++r_3)++([46]:Str))++r_4)++(([45]:Str)++v_1.Early)).length≤274877906944) <|
  some (((((r_2++([46]:Str))++r_3)++([46]:Str))++r_4)++(([45]:Str)++v_1.Early))
 else
 some ((((r_2++([46]:Str))++r_3)++([46]:Str))++r_4)
noncomputable def zfd (v_1:api_Version):Option (Str × Int) :=
 call (zc8 v_1) fun r_2 =>
 bif !decide (r_2=0) then
  some ([],r_2)
 else
 call (zfC v_1) fun r_3 =>
 some (r_3,0)
noncomputable def zbl (v_1:api_Version):Option Str :=
 bif ((decide (v_1.Major=0)) && ((decide (v_1.Minor=0)) && ((decide (v_1.Patch=0)) && (decide (v_1.Early=[]))))) then
  some ([45]:Str)
 else
 call (zfd v_1) fun r_2 =>
 some r_2.1
noncomputable def zeB (s_4:Str):Option Str :=
 chk (0≤0∧0≤IntKind.i64.wrap ((s_4.length:Int)+2)∧IntKind.i64.wrap ((s_4.length:Int)+2)≤274877906944) <|
 chk (((List.replicate 0 0)++[34]).length≤274877906944) <|
 jp (S:=List Int) (fun o0_5 =>
  chk ((o0_5++[34]).length≤274877906944) <|
  some (Go.Vc.strOf (o0_5++[34]))) fun k_8 =>
 forL s_4 0 (fun i_9 c_1 o0_2 nx_3 k_10 =>
  bif ((decide ((c_1.toNat:Int)=92)) || (decide ((c_1.toNat:Int)=34))) then
   chk ((o0_2++[92,(c_1.toNat:Int)]).length≤274877906944) <|
   nx_3 (o0_2++[92,(c_1.toNat:Int)])
  else
  bif decide ((c_1.toNat:Int)=10) then
   chk ((o0_2++[92,110]).length≤274877906944) <|
   nx_3 (o0_2++[92,110])
  else
  bif ((decide ((c_1.toNat:Int) < 32)) || (decide (126 < (c_1.toNat:Int)))) then
   zd1 ([48,49,50,51,52,53,54,55,56,57,97,98,99,100,101,102]:Str) (Int.fdiv (c_1.toNat:Int) (2 ^ (shI .u8 4))) fun c_6 =>
   zd1 ([48,49,50,51,52,53,54,55,56,57,97,98,99,100,101,102]:Str) (zaz .and .u8 (c_1.toNat:Int) 15) fun c_7 =>
   chk ((o0_2++[92,120,c_6,c_7]).length≤274877906944) <|
   nx_3 (o0_2++[92,120,c_6,c_7])
  else
  chk ((o0_2++[(c_1.toNat:Int)]).length≤274877906944) <|
  nx_3 (o0_2++[(c_1.toNat:Int)])) ((List.replicate 0 0)++[34]) (fun o0_2 =>
  k_8 o0_2)
noncomputable def zaN (n:Int) (o0:Str):Option Unit:=chk (0≤n∧n≤274877906944) <| some ()
noncomputable def zbF (o1_1:Str):Option Unit :=
 some ()
noncomputable def zbE (o1_1:Str):Option Unit :=
 some ()
noncomputable def zaQ (o0:Str):Option Unit:=some ()
noncomputable def zh (s_1:Str) (o1_2:Str):Option (Int × Str) :=
 call (zaQ o1_2) fun r_3 =>
 chk ((o1_2++s_1).length≤274877906944) <|
 some ((s_1.length:Int),o1_2++s_1)
noncomputable def zA (o1_1:Str):Option Str :=
 some o1_1
noncomputable def zbJ (elems_1:List Str) (sep_2:Str):Option Str :=
 bif decide ((elems_1.length:Int)=0) then
  some []
 else
 bif decide ((elems_1.length:Int)=1) then
  idx elems_1 0 fun s_7 =>
  some s_7
 else
 jp (S:=Int) (fun n_8 =>
  jp (S:=Int) (fun n_9 =>
   call (zaN n_9 []) fun r_21 =>
   idx elems_1 0 fun s_10 =>
   call (zh s_10 []) fun r_11 =>
   jp (S:=Str) (fun o1_12 =>
    call (zA o1_12) fun r_13 =>
    some r_13) fun k_14 =>
   chk (0≤1∧1≤(elems_1.length:Int)) <|
   forL (List.drop 1 elems_1) 0 (fun i_22 s_15 o1_4 nx_16 k_23 =>
    call (zh sep_2 o1_4) fun r_17 =>
    call (zh s_15 r_17.2) fun r_18 =>
    nx_16 r_18.2) r_11.2 (fun o1_4 =>
    k_14 o1_4)) fun k_19 =>
  forL elems_1 0 (fun i_24 s_5 n_3 nx_20 k_25 =>
   bif decide ((IntKind.i64.wrap (9223372036854775807 - n_3)) < (s_5.length:Int)) then
    none
   else
   nx_20 (IntKind.i64.wrap (n_3+(s_5.length:Int)))) n_8 (fun n_3 =>
   k_19 n_3)) fun k_6 =>
 bif decide (0 < (sep_2.length:Int)) then
  chk (¬ (IntKind.i64.wrap ((elems_1.length:Int) - 1))=0) <|
  bif decide ((IntKind.i64.wrap (Int.tdiv 9223372036854775807 (IntKind.i64.wrap ((elems_1.length:Int) - 1))))≤(sep_2.length:Int)) then
   none
  else
  k_6 (IntKind.i64.wrap (0+(IntKind.i64.wrap ((sep_2.length:Int) * (IntKind.i64.wrap ((elems_1.length:Int) - 1))))))
 else
 k_6 0
noncomputable def zb5 (r_1:api_Record):Option Str :=
 call (strconv_Itoa r_1.Time) fun r_2 =>
 call (zdu) fun r_3 =>
 idx r_3 r_1.Kind fun s_4 =>
 call (zbl r_1.From) fun r_5 =>
 call (zbl r_1.To) fun r_6 =>
 call (strconv_Itoa r_1.Result) fun r_7 =>
 call (zeB r_1.Note) fun r_8 =>
 call (zbJ [r_2,s_4,r_1.Pack,r_5,r_6,r_7,r_8] ([32]:Str)) fun r_9 =>
 some r_9
noncomputable def zdC (text_4:Str):Option Str :=
 jp (S:=Int) (fun n_5 =>
  jp (S:=List Int) (fun o0_6 =>
   some (Go.Vc.strOf o0_6)) fun k_7 =>
  loopN zc4 (fun s nx_8 k_9 =>
   match s with
   | (t23_1,o0_2) =>
    bif decide (t23_1 < ((List.replicate 16 0).length:Int)) then
     chk (0≤(IntKind.i64.wrap (60 - (IntKind.i64.wrap (4 * t23_1))))) <|
     zd1 ([48,49,50,51,52,53,54,55,56,57,97,98,99,100,101,102]:Str) (zaz .and .u64 (Int.fdiv n_5 (2 ^ (shI .u64 (IntKind.i64.wrap (60 - (IntKind.i64.wrap (4 * t23_1))))))) 15) fun c_10 =>
     chk (0≤t23_1∧t23_1 < (o0_2.length:Int)) <|
     nx_8 (IntKind.i64.wrap (t23_1+1),List.set o0_2 t23_1.toNat c_10)
    else
    k_9 (t23_1,o0_2)) (0,List.replicate 16 0) (fun s=>match s with
   | (t23_1,o0_2) =>
    k_7 o0_2)) fun k_11 =>
 forL text_4 0 (fun i_14 c_12 n_3 nx_13 k_15 =>
  nx_13 (IntKind.u64.wrap ((zaz .xor .u64 n_3 (IntKind.u64.wrap (c_12.toNat:Int))) * 1099511628211))) 14695981039346656037 (fun n_3 =>
  k_11 n_3)
noncomputable def zbv (r_1:api_Record) (o0_1_5:Int) (m1_2:List (Str × log_had)):Option (Int × (List (Str × log_had))) :=
 bif !decide (r_1.Result=0) then
  some (r_1.Time,m1_2)
 else
 jp (S:=Bool) (fun t14_4 =>
  bif t14_4 then
   chk ((zik m1_2 r_1.Pack (log_had.mk r_1.To r_1.Time)).length≤274877906944) <|
   some (r_1.Time,zik m1_2 r_1.Pack (log_had.mk r_1.To r_1.Time))
  else
  bif decide (r_1.Kind=4) then
   some (r_1.Time,adel m1_2 r_1.Pack)
  else
  some (r_1.Time,m1_2)) fun k_3 =>
 bif decide (r_1.Kind=1) then
  k_3 (decide (r_1.Kind=1))
 else
 bif decide (r_1.Kind=2) then
  k_3 (decide (r_1.Kind=2))
 else
 k_3 (decide (r_1.Kind=3))
noncomputable def zb6 (r_3:api_Record) (o0_2_4:Str) (o1_1:List api_Record) (o2_5:List Str) (o3_1_6:Int) (m4_7:List (Str × log_had)):Option (Int × Str × List api_Record × List Str × Int × (List (Str × log_had))) :=
 call (zaU r_3) fun r_10 =>
 bif !decide (r_10=0) then
  some (r_10,o0_2_4,o1_1,o2_5,o3_1_6,m4_7)
 else
 call (za4 r_3 o3_1_6 m4_7) fun r_9 =>
 bif decide (r_9=7) then
  some (r_9,o0_2_4,o1_1,o2_5,o3_1_6,m4_7)
 else
 bif decide (5000≤(o1_1.length:Int)) then
  some (15,o0_2_4,o1_1,o2_5,o3_1_6,m4_7)
 else
 bif !decide (r_9=0) then
  some (r_9,o0_2_4,o1_1,o2_5,o3_1_6,m4_7)
 else
 call (zb5 r_3) fun r_2 =>
 chk ((o0_2_4++r_2).length≤274877906944) <|
 call (zdC (o0_2_4++r_2)) fun r_8 =>
 chk ((o1_1++[r_3]).length≤274877906944) <|
 chk ((r_2++([32]:Str)).length≤274877906944) <|
 chk (((r_2++([32]:Str))++r_8).length≤274877906944) <|
 chk ((((r_2++([32]:Str))++r_8)++([10]:Str)).length≤274877906944) <|
 chk ((o2_5++[((r_2++([32]:Str))++r_8)++([10]:Str)]).length≤274877906944) <|
 call (zbv r_3 o3_1_6 m4_7) fun r_11 =>
 some (0,r_8,o1_1++[r_3],o2_5++[((r_2++([32]:Str))++r_8)++([10]:Str)],r_11.1,r_11.2)
noncomputable def zdy :Option (List Str) :=
 some [[],([105,110,115,116,97,108,108]:Str),([117,112,100,97,116,101]:Str),([98,97,99,107]:Str),([114,101,109,111,118,101]:Str),([114,101,112,97,105,114]:Str),([99,104,101,99,107]:Str)]
noncomputable def zcM (v_1:api_Version):Option Str :=
 call (strconv_Itoa v_1.Major) fun r_2 =>
 chk ((r_2++([46]:Str)).length≤274877906944) <|
 call (strconv_Itoa v_1.Minor) fun r_3 =>
 chk (((r_2++([46]:Str))++r_3).length≤274877906944) <|
 chk ((((r_2++([46]:Str))++r_3)++([46]:Str)).length≤274877906944) <|
 call (strconv_Itoa v_1.Patch) fun r_4 =>
 chk (((((r_2++([46]:Str))++r_3)++([46]:Str))++r_4).length≤274877906944) <|
 bif !decide (v_1.Early=[]) then
  chk ((([45]:Str)++v_1.Early).length≤274877906944) <|
  chk ((((((r_2++([46]:Str))++r_3)++([46]:Str))++r_4)++(([45]:Str)++v_1.Early)).length≤274877906944) <|
  some (((((r_2++([46]:Str))++r_3)++([46]:Str))++r_4)++(([45]:Str)++v_1.Early))
 else
 some ((((r_2++([46]:Str))++r_3)++([46]:Str))++r_4)
noncomputable def zbA (v_1:api_Version):Option Str :=
 bif ((decide (v_1.Major=0)) && ((decide (v_1.Minor=0)) && ((decide (v_1.Patch=0)) && (decide (v_1.Early=[]))))) then
  some ([45]:Str)
 else
 call (zcM v_1) fun r_2 =>
 some r_2
noncomputable def zhB (s_3:Str):Option Str :=
 jp (S:=Str) (fun out_6 =>
  chk ((out_6++([34]:Str)).length≤274877906944) <|
  some (out_6++([34]:Str))) fun k_7 =>
 forL s_3 0 (fun i_2 c_1 out_4 nx_5 k_8 =>
  bif ((decide ((c_1.toNat:Int)=34)) || (decide ((c_1.toNat:Int)=92))) then
   chk (0≤(i_2:Int)∧(i_2:Int)≤(s_3.length:Int)∧0≤IntKind.i64.wrap ((i_2:Int)+1)∧IntKind.i64.wrap ((i_2:Int)+1)≤(s_3.length:Int)∧(i_2:Int)≤IntKind.i64.wrap ((i_2:Int)+1)) <|
   chk ((([92]:Str)++(List.take ((IntKind.i64.wrap ((i_2:Int)+1)).toNat - i_2) (List.drop i_2 s_3))).length≤274877906944) <|
   chk ((out_4++(([92]:Str)++(List.take ((IntKind.i64.wrap ((i_2:Int)+1)).toNat - i_2) (List.drop i_2 s_3)))).length≤274877906944) <|
   nx_5 (out_4++(([92]:Str)++(List.take ((IntKind.i64.wrap ((i_2:Int)+1)).toNat - i_2) (List.drop i_2 s_3))))
  else
  bif decide ((c_1.toNat:Int)=10) then
   chk ((out_4++([92,110]:Str)).length≤274877906944) <|
   nx_5 (out_4++([92,110]:Str))
  else
  bif ((decide ((c_1.toNat:Int) < 32)) || (decide (126 < (c_1.toNat:Int)))) then
   chk (0≤Int.fdiv (c_1.toNat:Int) (2 ^ (shI .u8 4))∧Int.fdiv (c_1.toNat:Int) (2 ^ (shI .u8 4))≤(([48,49,50,51,52,53,54,55,56,57,97,98,99,100,101,102]:Str).length:Int)∧0≤IntKind.u8.wrap ((Int.fdiv (c_1.toNat:Int) (2 ^ (shI .u8 4)))+1)∧IntKind.u8.wrap ((Int.fdiv (c_1.toNat:Int) (2 ^ (shI .u8 4)))+1)≤(([48,49,50,51,52,53,54,55,56,57,97,98,99,100,101,102]:Str).length:Int)∧Int.fdiv (c_1.toNat:Int) (2 ^ (shI .u8 4))≤IntKind.u8.wrap ((Int.fdiv (c_1.toNat:Int) (2 ^ (shI .u8 4)))+1)) <|
   chk ((([92,120]:Str)++(List.take ((IntKind.u8.wrap ((Int.fdiv (c_1.toNat:Int) (2 ^ (shI .u8 4)))+1)).toNat - (Int.fdiv (c_1.toNat:Int) (2 ^ (shI .u8 4))).toNat) (List.drop ((Int.fdiv (c_1.toNat:Int) (2 ^ (shI .u8 4))).toNat) ([48,49,50,51,52,53,54,55,56,57,97,98,99,100,101,102]:Str)))).length≤274877906944) <|
   chk (0≤zaz .and .u8 (c_1.toNat:Int) 15∧zaz .and .u8 (c_1.toNat:Int) 15≤(([48,49,50,51,52,53,54,55,56,57,97,98,99,100,101,102]:Str).length:Int)∧0≤IntKind.u8.wrap ((zaz .and .u8 (c_1.toNat:Int) 15)+1)∧IntKind.u8.wrap ((zaz .and .u8 (c_1.toNat:Int) 15)+1)≤(([48,49,50,51,52,53,54,55,56,57,97,98,99,100,101,102]:Str).length:Int)∧zaz .and .u8 (c_1.toNat:Int) 15≤IntKind.u8.wrap ((zaz .and .u8 (c_1.toNat:Int) 15)+1)) <|
   chk (((([92,120]:Str)++(List.take ((IntKind.u8.wrap ((Int.fdiv (c_1.toNat:Int) (2 ^ (shI .u8 4)))+1)).toNat - (Int.fdiv (c_1.toNat:Int) (2 ^ (shI .u8 4))).toNat) (List.drop ((Int.fdiv (c_1.toNat:Int) (2 ^ (shI .u8 4))).toNat) ([48,49,50,51,52,53,54,55,56,57,97,98,99,100,101,102]:Str))))++(List.take ((IntKind.u8.wrap ((zaz .and .u8 (c_1.toNat:Int) 15)+1)).toNat - (zaz .and .u8 (c_1.toNat:Int) 15).toNat) (List.drop ((zaz .and .u8 (c_1.toNat:Int) 15).toNat) ([48,49,50,51,52,53,54,55,56,57,97,98,99,100,101,102]:Str)))).length≤274877906944) <|
   chk ((out_4++((([92,120]:Str)++(List.take ((IntKind.u8.wrap ((Int.fdiv (c_1.toNat:Int) (2 ^ (shI .u8 4)))+1)).toNat - (Int.fdiv (c_1.toNat:Int) (2 ^ (shI .u8 4))).toNat) (List.drop ((Int.fdiv (c_1.toNat:Int) (2 ^ (shI .u8 4))).toNat) ([48,49,50,51,52,53,54,55,56,57,97,98,99,100,101,102]:Str))))++(List.take ((IntKind.u8.wrap ((zaz .and .u8 (c_1.toNat:Int) 15)+1)).toNat - (zaz .and .u8 (c_1.toNat:Int) 15).toNat) (List.drop ((zaz .and .u8 (c_1.toNat:Int) 15).toNat) ([48,49,50,51,52,53,54,55,56,57,97,98,99,100,101,102]:Str))))).length≤274877906944) <|
   nx_5 (out_4++((([92,120]:Str)++(List.take ((IntKind.u8.wrap ((Int.fdiv (c_1.toNat:Int) (2 ^ (shI .u8 4)))+1)).toNat - (Int.fdiv (c_1.toNat:Int) (2 ^ (shI .u8 4))).toNat) (List.drop ((Int.fdiv (c_1.toNat:Int) (2 ^ (shI .u8 4))).toNat) ([48,49,50,51,52,53,54,55,56,57,97,98,99,100,101,102]:Str))))++(List.take ((IntKind.u8.wrap ((zaz .and .u8 (c_1.toNat:Int) 15)+1)).toNat - (zaz .and .u8 (c_1.toNat:Int) 15).toNat) (List.drop ((zaz .and .u8 (c_1.toNat:Int) 15).toNat) ([48,49,50,51,52,53,54,55,56,57,97,98,99,100,101,102]:Str)))))
  else
  chk (0≤(i_2:Int)∧(i_2:Int)≤(s_3.length:Int)∧0≤IntKind.i64.wrap ((i_2:Int)+1)∧IntKind.i64.wrap ((i_2:Int)+1)≤(s_3.length:Int)∧(i_2:Int)≤IntKind.i64.wrap ((i_2:Int)+1)) <|
  chk ((out_4++(List.take ((IntKind.i64.wrap ((i_2:Int)+1)).toNat - i_2) (List.drop i_2 s_3))).length≤274877906944) <|
  nx_5 (out_4++(List.take ((IntKind.i64.wrap ((i_2:Int)+1)).toNat - i_2) (List.drop i_2 s_3)))) ([34]:Str) (fun out_4 =>
  k_7 out_4)
noncomputable def zdd (r_1:api_Record):Option Str :=
 call (strconv_Itoa r_1.Time) fun r_2 =>
 call (zdy) fun r_3 =>
 idx r_3 r_1.Kind fun s_4 =>
 call (zbA r_1.From) fun r_5 =>
 call (zbA r_1.To) fun r_6 =>
 call (strconv_Itoa r_1.Result) fun r_7 =>
 call (zhB r_1.Note) fun r_8 =>
 call (zbJ [r_2,s_4,r_1.Pack,r_5,r_6,r_7,r_8] ([32]:Str)) fun r_9 =>
 some r_9
noncomputable def zal (x_1:Int):Option Bool :=
 some (decide ((zaz .and .i64 x_1 (IntKind.i64.wrap (x_1 - 1)))=0))
noncomputable def za9 (x_1:Int):Option Int :=
 bif decide (x_1=0) then
  some 64
 else
 chk (0≤Int.fdiv (IntKind.u64.wrap ((zaz .and .u64 x_1 (IntKind.u64.wrap (-x_1))) * 285870213051353865)) (2 ^ (shI .u64 58))∧Int.fdiv (IntKind.u64.wrap ((zaz .and .u64 x_1 (IntKind.u64.wrap (-x_1))) * 285870213051353865)) (2 ^ (shI .u64 58)) < (64:Int)) <|
 some (IntKind.i64.wrap (tabL_7.getD ((Int.fdiv (IntKind.u64.wrap ((zaz .and .u64 x_1 (IntKind.u64.wrap (-x_1))) * 285870213051353865)) (2 ^ (shI .u64 58))).toNat) 0))
noncomputable def zaS (x_1:Int):Option Int :=
 call (za9 x_1) fun r_2 =>
 some r_2
noncomputable def zad (dst_38:List Int) (u_14:Int) (base_1:Int) (neg_15:Bool) (append__23:Bool):Option (List Int × Str) :=
 jp (S:=Unit) (fun _ =>
  jp (S:=Int) (fun u_16 =>
   jp (S:=Int × List Int) (fun s=>match s with
    | (i_7,o0_12) =>
     jp (S:=Int × List Int) (fun s=>match s with
      | (i_5,o0_13) =>
       bif append__23 then
        chk (o0_13.length=65∧0≤i_5∧i_5≤(65:Int)) <|
        none
       else
       chk (o0_13.length=65∧0≤i_5∧i_5≤(65:Int)) <|
       some ([],Go.Vc.strOf (List.take (65 - i_5.toNat) (List.drop i_5.toNat o0_13)))) fun k_17 =>
     bif neg_15 then
      chk (0≤IntKind.i64.wrap (i_7 - 1)∧IntKind.i64.wrap (i_7 - 1) < (65:Int)∧65=o0_12.length) <|
      k_17 (IntKind.i64.wrap (i_7 - 1),List.set o0_12 ((IntKind.i64.wrap (i_7 - 1)).toNat) 45)
     else
     k_17 (i_7,o0_12)) fun k_18 =>
   call (zal base_1) fun r_24 =>
   bif r_24 then
    call (zaS (IntKind.u64.wrap base_1)) fun r_19 =>
    jp (S:=Int × Int × List Int) (fun s=>match s with
     | (u_25,i_10,o0_20) =>
      zd1 ([48,49,50,51,52,53,54,55,56,57,97,98,99,100,101,102,103,104,105,106,107,108,109,110,111,112,113,114,115,116,117,118,119,120,121,122]:Str) u_25 fun c_26 =>
      chk (0≤IntKind.i64.wrap (i_10 - 1)∧IntKind.i64.wrap (i_10 - 1) < (65:Int)∧65=o0_20.length) <|
      k_18 (IntKind.i64.wrap (i_10 - 1),List.set o0_20 ((IntKind.i64.wrap (i_10 - 1)).toNat) c_26)) fun k_27 =>
    loopN zc4 (fun s nx_28 k_29 =>
     match s with
     | (u_6,i_2,o0_8) =>
      bif decide ((IntKind.u64.wrap base_1)≤u_6) then
       zd1 ([48,49,50,51,52,53,54,55,56,57,97,98,99,100,101,102,103,104,105,106,107,108,109,110,111,112,113,114,115,116,117,118,119,120,121,122]:Str) (zaz .and .u64 u_6 (IntKind.u64.wrap ((IntKind.u64.wrap base_1) - 1))) fun c_30 =>
       chk (0≤IntKind.i64.wrap (i_2 - 1)∧IntKind.i64.wrap (i_2 - 1) < (65:Int)∧65=o0_8.length) <|
       chk (0≤(IntKind.u64.wrap r_19)) <|
       nx_28 (Int.fdiv u_6 (2 ^ (shI .u64 (IntKind.u64.wrap r_19))),IntKind.i64.wrap (i_2 - 1),List.set o0_8 ((IntKind.i64.wrap (i_2 - 1)).toNat) c_30)
      else
      k_29 (u_6,i_2,o0_8)) (u_16,65,List.replicate 65 0) (fun s=>match s with
     | (u_6,i_2,o0_8) =>
      k_27 (u_6,i_2,o0_8))
   else
   jp (S:=Int × Int × List Int) (fun s=>match s with
    | (u_31,i_11,o0_21) =>
     zd1 ([48,49,50,51,52,53,54,55,56,57,97,98,99,100,101,102,103,104,105,106,107,108,109,110,111,112,113,114,115,116,117,118,119,120,121,122]:Str) u_31 fun c_32 =>
     chk (0≤IntKind.i64.wrap (i_11 - 1)∧IntKind.i64.wrap (i_11 - 1) < (65:Int)∧65=o0_21.length) <|
     k_18 (IntKind.i64.wrap (i_11 - 1),List.set o0_21 ((IntKind.i64.wrap (i_11 - 1)).toNat) c_32)) fun k_33 =>
   loopN zc4 (fun s nx_34 k_35 =>
    match s with
    | (u_3,i_4,o0_9) =>
     bif decide ((IntKind.u64.wrap base_1)≤u_3) then
      chk (¬ (IntKind.u64.wrap base_1)=0) <|
      zd1 ([48,49,50,51,52,53,54,55,56,57,97,98,99,100,101,102,103,104,105,106,107,108,109,110,111,112,113,114,115,116,117,118,119,120,121,122]:Str) (IntKind.u64.wrap (u_3 - (IntKind.u64.wrap ((IntKind.u64.wrap (Int.tdiv u_3 (IntKind.u64.wrap base_1))) * (IntKind.u64.wrap base_1))))) fun c_36 =>
      chk (0≤IntKind.i64.wrap (i_4 - 1)∧IntKind.i64.wrap (i_4 - 1) < (65:Int)∧65=o0_9.length) <|
      nx_34 (IntKind.u64.wrap (Int.tdiv u_3 (IntKind.u64.wrap base_1)),IntKind.i64.wrap (i_4 - 1),List.set o0_9 ((IntKind.i64.wrap (i_4 - 1)).toNat) c_36)
     else
     k_35 (u_3,i_4,o0_9)) (u_16,65,List.replicate 65 0) (fun s=>match s with
    | (u_3,i_4,o0_9) =>
     k_33 (u_3,i_4,o0_9))) fun k_22 =>
  bif neg_15 then
   k_22 (IntKind.u64.wrap (-u_14))
  else
  k_22 u_14) fun k_37 =>
 bif (((decide (base_1 < 2)) || (decide (base_1=10))) || (decide (36 < base_1))) then
  none
 else
 k_37 ()
noncomputable def zas (i_1:Int) (base_2:Int):Option Str :=
 bif decide (base_2=10) then
  bif decide (i_1 < 100) then
   none
  else
  none
 else
 call (zad [] i_1 base_2 false false) fun r_3 =>
 some r_3.2
noncomputable def za0 (i_1:Int) (base_2:Int):Option Str :=
 call (zas i_1 base_2) fun r_3 =>
 some r_3
noncomputable def zdR (x_1:Int) (y_2:Int):Option (Int × Int) :=
 some (IntKind.u64.wrap ((IntKind.u64.wrap ((IntKind.u64.wrap ((Int.fdiv x_1 (2 ^ (shI .u64 32))) * (Int.fdiv y_2 (2 ^ (shI .u64 32)))))+(Int.fdiv (IntKind.u64.wrap ((IntKind.u64.wrap ((Int.fdiv x_1 (2 ^ (shI .u64 32))) * (zaz .and .u64 y_2 4294967295)))+(Int.fdiv (IntKind.u64.wrap ((zaz .and .u64 x_1 4294967295) * (zaz .and .u64 y_2 4294967295))) (2 ^ (shI .u64 32))))) (2 ^ (shI .u64 32)))))+(Int.fdiv (IntKind.u64.wrap ((zaz .and .u64 (IntKind.u64.wrap ((IntKind.u64.wrap ((Int.fdiv x_1 (2 ^ (shI .u64 32))) * (zaz .and .u64 y_2 4294967295)))+(Int.fdiv (IntKind.u64.wrap ((zaz .and .u64 x_1 4294967295) * (zaz .and .u64 y_2 4294967295))) (2 ^ (shI .u64 32))))) 4294967295)+(IntKind.u64.wrap ((zaz .and .u64 x_1 4294967295) * (Int.fdiv y_2 (2 ^ (shI .u64 32))))))) (2 ^ (shI .u64 32)))),IntKind.u64.wrap (x_1 * y_2))
noncomputable def zds (x_2:Int) (y_3:Int):Option (Int × Int) :=
 call (zdR x_2 y_3) fun r_1 =>
 some (r_1.1,r_1.2)
noncomputable def zaG (s_2:Str) (prefix_1:Str):Option Bool :=
 chk ((decide ((prefix_1.length:Int)≤(s_2.length:Int)))=true→(0≤(prefix_1.length:Int)∧(prefix_1.length:Int)≤(s_2.length:Int))) <|
 some ((decide ((prefix_1.length:Int)≤(s_2.length:Int))) && (decide ((List.take prefix_1.length s_2)=prefix_1)))
noncomputable def z6 (s_1:Str) (prefix_2:Str):Option Bool :=
 call (zaG s_1 prefix_2) fun r_3 =>
 some r_3
noncomputable def zay (o1_1:Str):Option Int :=
 some (o1_1.length:Int)
noncomputable def zb3 (s_2:Str) (count_6:Int):Option Str :=
 bif decide (count_6=0) then
  some []
 else
 bif decide (count_6=1) then
  some s_2
 else
 jp (S:=Unit) (fun _ =>
  call (zds (IntKind.u64.wrap (s_2.length:Int)) (IntKind.u64.wrap count_6)) fun r_1 =>
  jp (S:=Unit) (fun _ =>
   bif decide ((s_2.length:Int)=0) then
    some []
   else
   jp (S:=Unit) (fun _ =>
    jp (S:=Int) (fun chunkMax_7 =>
     call (zaN (IntKind.i64.wrap r_1.2) []) fun r_29 =>
     call (zh s_2 []) fun r_13 =>
     jp (S:=Str) (fun o1_14 =>
      call (zA o1_14) fun r_15 =>
      some r_15) fun k_16 =>
     loopN zc4 (fun o1_4 nx_17 k_18 =>
      call (zay o1_4) fun r_19 =>
      bif decide (r_19 < (IntKind.i64.wrap r_1.2)) then
       call (zay o1_4) fun r_8 =>
       call (zay o1_4) fun r_9 =>
       call (zA o1_4) fun r_11 =>
       chk (0≤min (min (IntKind.i64.wrap ((IntKind.i64.wrap r_1.2) - r_8)) r_9) chunkMax_7∧min (min (IntKind.i64.wrap ((IntKind.i64.wrap r_1.2) - r_8)) r_9) chunkMax_7≤(r_11.length:Int)) <|
       call (zh (List.take ((min (min (IntKind.i64.wrap ((IntKind.i64.wrap r_1.2) - r_8)) r_9) chunkMax_7).toNat) r_11) o1_4) fun r_20 =>
       nx_17 r_20.2
      else
      k_18 o1_4) r_13.2 (fun o1_4 =>
      k_16 o1_4)) fun k_10 =>
    bif decide (8192 < (IntKind.i64.wrap r_1.2)) then
     chk (¬ (s_2.length:Int)=0) <|
     bif decide ((IntKind.i64.wrap ((IntKind.i64.wrap (Int.tdiv 8192 (s_2.length:Int))) * (s_2.length:Int)))=0) then
      k_10 (s_2.length:Int)
     else
     k_10 (IntKind.i64.wrap ((IntKind.i64.wrap (Int.tdiv 8192 (s_2.length:Int))) * (s_2.length:Int)))
    else
    k_10 (IntKind.i64.wrap r_1.2)) fun k_12 =>
   zd1 s_2 0 fun c_3 =>
   jp (S:=Bool) (fun t43_21 =>
    bif t43_21 then
     callG (decide ((IntKind.i64.wrap r_1.2)≤128)) (z6 ((List.append [32,32,32,32,32,32,32,32,32,32,32,32,32,32,32,32,32,32,32,32,32,32,32,32,32,32,32,32,32,32,32,32,32,32,32,32,32,32,32,32,32,32,32,32,32,32,32,32,32,32,32,32,32,32,32,32,32,32,32,32,32,32,32,32] [32,32,32,32,32,32,32,32,32,32,32,32,32,32,32,32,32,32,32,32,32,32,32,32,32,32,32,32,32,32,32,32,32,32,32,32,32,32,32,32,32,32,32,32,32,32,32,32,32,32,32,32,32,32,32,32,32,32,32,32,32,32,32,32]):Str) s_2) false fun r_22 =>
     bif ((decide ((IntKind.i64.wrap r_1.2)≤128)) && r_22) then
      chk (0≤IntKind.i64.wrap r_1.2∧IntKind.i64.wrap r_1.2≤(((List.append [32,32,32,32,32,32,32,32,32,32,32,32,32,32,32,32,32,32,32,32,32,32,32,32,32,32,32,32,32,32,32,32,32,32,32,32,32,32,32,32,32,32,32,32,32,32,32,32,32,32,32,32,32,32,32,32,32,32,32,32,32,32,32,32] [32,32,32,32,32,32,32,32,32,32,32,32,32,32,32,32,32,32,32,32,32,32,32,32,32,32,32,32,32,32,32,32,32,32,32,32,32,32,32,32,32,32,32,32,32,32,32,32,32,32,32,32,32,32,32,32,32,32,32,32,32,32,32,32]):Str).length:Int)) <|
      some (List.take ((IntKind.i64.wrap r_1.2).toNat) ((List.append [32,32,32,32,32,32,32,32,32,32,32,32,32,32,32,32,32,32,32,32,32,32,32,32,32,32,32,32,32,32,32,32,32,32,32,32,32,32,32,32,32,32,32,32,32,32,32,32,32,32,32,32,32,32,32,32,32,32,32,32,32,32,32,32] [32,32,32,32,32,32,32,32,32,32,32,32,32,32,32,32,32,32,32,32,32,32,32,32,32,32,32,32,32,32,32,32,32,32,32,32,32,32,32,32,32,32,32,32,32,32,32,32,32,32,32,32,32,32,32,32,32,32,32,32,32,32,32,32]):Str))
     else
     callG (decide ((IntKind.i64.wrap r_1.2)≤128)) (z6 ((List.append [45,45,45,45,45,45,45,45,45,45,45,45,45,45,45,45,45,45,45,45,45,45,45,45,45,45,45,45,45,45,45,45,45,45,45,45,45,45,45,45,45,45,45,45,45,45,45,45,45,45,45,45,45,45,45,45,45,45,45,45,45,45,45,45] [45,45,45,45,45,45,45,45,45,45,45,45,45,45,45,45,45,45,45,45,45,45,45,45,45,45,45,45,45,45,45,45,45,45,45,45,45,45,45,45,45,45,45,45,45,45,45,45,45,45,45,45,45,45,45,45,45,45,45,45,45,45,45,45]):Str) s_2) false fun r_23 =>
     bif ((decide ((IntKind.i64.wrap r_1.2)≤128)) && r_23) then
      chk (0≤IntKind.i64.wrap r_1.2∧IntKind.i64.wrap r_1.2≤(((List.append [45,45,45,45,45,45,45,45,45,45,45,45,45,45,45,45,45,45,45,45,45,45,45,45,45,45,45,45,45,45,45,45,45,45,45,45,45,45,45,45,45,45,45,45,45,45,45,45,45,45,45,45,45,45,45,45,45,45,45,45,45,45,45,45] [45,45,45,45,45,45,45,45,45,45,45,45,45,45,45,45,45,45,45,45,45,45,45,45,45,45,45,45,45,45,45,45,45,45,45,45,45,45,45,45,45,45,45,45,45,45,45,45,45,45,45,45,45,45,45,45,45,45,45,45,45,45,45,45]):Str).length:Int)) <|
      some (List.take ((IntKind.i64.wrap r_1.2).toNat) ((List.append [45,45,45,45,45,45,45,45,45,45,45,45,45,45,45,45,45,45,45,45,45,45,45,45,45,45,45,45,45,45,45,45,45,45,45,45,45,45,45,45,45,45,45,45,45,45,45,45,45,45,45,45,45,45,45,45,45,45,45,45,45,45,45,45] [45,45,45,45,45,45,45,45,45,45,45,45,45,45,45,45,45,45,45,45,45,45,45,45,45,45,45,45,45,45,45,45,45,45,45,45,45,45,45,45,45,45,45,45,45,45,45,45,45,45,45,45,45,45,45,45,45,45,45,45,45,45,45,45]):Str))
     else
     callG (decide ((IntKind.i64.wrap r_1.2)≤64)) (z6 ([48,48,48,48,48,48,48,48,48,48,48,48,48,48,48,48,48,48,48,48,48,48,48,48,48,48,48,48,48,48,48,48,48,48,48,48,48,48,48,48,48,48,48,48,48,48,48,48,48,48,48,48,48,48,48,48,48,48,48,48,48,48,48,48]:Str) s_2) false fun r_24 =>
     bif ((decide ((IntKind.i64.wrap r_1.2)≤64)) && r_24) then
      chk (0≤IntKind.i64.wrap r_1.2∧IntKind.i64.wrap r_1.2≤(([48,48,48,48,48,48,48,48,48,48,48,48,48,48,48,48,48,48,48,48,48,48,48,48,48,48,48,48,48,48,48,48,48,48,48,48,48,48,48,48,48,48,48,48,48,48,48,48,48,48,48,48,48,48,48,48,48,48,48,48,48,48,48,48]:Str).length:Int)) <|
      some (List.take ((IntKind.i64.wrap r_1.2).toNat) ([48,48,48,48,48,48,48,48,48,48,48,48,48,48,48,48,48,48,48,48,48,48,48,48,48,48,48,48,48,48,48,48,48,48,48,48,48,48,48,48,48,48,48,48,48,48,48,48,48,48,48,48,48,48,48,48,48,48,48,48,48,48,48,48]:Str))
     else
     callG (decide ((IntKind.i64.wrap r_1.2)≤128)) (z6 ((List.append [61,61,61,61,61,61,61,61,61,61,61,61,61,61,61,61,61,61,61,61,61,61,61,61,61,61,61,61,61,61,61,61,61,61,61,61,61,61,61,61,61,61,61,61,61,61,61,61,61,61,61,61,61,61,61,61,61,61,61,61,61,61,61,61] [61,61,61,61,61,61,61,61,61,61,61,61,61,61,61,61,61,61,61,61,61,61,61,61,61,61,61,61,61,61,61,61,61,61,61,61,61,61,61,61,61,61,61,61,61,61,61,61,61,61,61,61,61,61,61,61,61,61,61,61,61,61,61,61]):Str) s_2) false fun r_25 =>
     bif ((decide ((IntKind.i64.wrap r_1.2)≤128)) && r_25) then
      chk (0≤IntKind.i64.wrap r_1.2∧IntKind.i64.wrap r_1.2≤(((List.append [61,61,61,61,61,61,61,61,61,61,61,61,61,61,61,61,61,61,61,61,61,61,61,61,61,61,61,61,61,61,61,61,61,61,61,61,61,61,61,61,61,61,61,61,61,61,61,61,61,61,61,61,61,61,61,61,61,61,61,61,61,61,61,61] [61,61,61,61,61,61,61,61,61,61,61,61,61,61,61,61,61,61,61,61,61,61,61,61,61,61,61,61,61,61,61,61,61,61,61,61,61,61,61,61,61,61,61,61,61,61,61,61,61,61,61,61,61,61,61,61,61,61,61,61,61,61,61,61]):Str).length:Int)) <|
      some (List.take ((IntKind.i64.wrap r_1.2).toNat) ((List.append [61,61,61,61,61,61,61,61,61,61,61,61,61,61,61,61,61,61,61,61,61,61,61,61,61,61,61,61,61,61,61,61,61,61,61,61,61,61,61,61,61,61,61,61,61,61,61,61,61,61,61,61,61,61,61,61,61,61,61,61,61,61,61,61] [61,61,61,61,61,61,61,61,61,61,61,61,61,61,61,61,61,61,61,61,61,61,61,61,61,61,61,61,61,61,61,61,61,61,61,61,61,61,61,61,61,61,61,61,61,61,61,61,61,61,61,61,61,61,61,61,61,61,61,61,61,61,61,61]):Str))
     else
     callG (decide ((IntKind.i64.wrap r_1.2)≤64)) (z6 ([9,9,9,9,9,9,9,9,9,9,9,9,9,9,9,9,9,9,9,9,9,9,9,9,9,9,9,9,9,9,9,9,9,9,9,9,9,9,9,9,9,9,9,9,9,9,9,9,9,9,9,9,9,9,9,9,9,9,9,9,9,9,9,9]:Str) s_2) false fun r_26 =>
     bif ((decide ((IntKind.i64.wrap r_1.2)≤64)) && r_26) then
      chk (0≤IntKind.i64.wrap r_1.2∧IntKind.i64.wrap r_1.2≤(([9,9,9,9,9,9,9,9,9,9,9,9,9,9,9,9,9,9,9,9,9,9,9,9,9,9,9,9,9,9,9,9,9,9,9,9,9,9,9,9,9,9,9,9,9,9,9,9,9,9,9,9,9,9,9,9,9,9,9,9,9,9,9,9]:Str).length:Int)) <|
      some (List.take ((IntKind.i64.wrap r_1.2).toNat) ([9,9,9,9,9,9,9,9,9,9,9,9,9,9,9,9,9,9,9,9,9,9,9,9,9,9,9,9,9,9,9,9,9,9,9,9,9,9,9,9,9,9,9,9,9,9,9,9,9,9,9,9,9,9,9,9,9,9,9,9,9,9,9,9]:Str))
     else
     k_12 ()
    else
    k_12 ()) fun k_5 =>
   bif decide (c_3=32) then
    k_5 (decide (c_3=32))
   else
   bif decide (c_3=45) then
    k_5 (decide (c_3=45))
   else
   bif decide (c_3=48) then
    k_5 (decide (c_3=48))
   else
   bif decide (c_3=61) then
    k_5 (decide (c_3=61))
   else
   k_5 (decide (c_3=9))) fun k_27 =>
  bif ((decide (0 < r_1.1)) || (decide (9223372036854775807 < r_1.2))) then
   none
  else
  k_27 ()) fun k_28 =>
 bif decide (count_6 < 0) then
  none
 else
 k_28 ()
noncomputable def zhz (s_4:Str):Option Str :=
 jp (S:=Int) (fun h_5 =>
  call (za0 h_5 16) fun r_1 =>
  call (zb3 ([48]:Str) (IntKind.i64.wrap (16 - (r_1.length:Int)))) fun r_3 =>
  chk ((r_3++r_1).length≤274877906944) <|
  some (r_3++r_1)) fun k_6 =>
 forL s_4 0 (fun i_9 c_7 h_2 nx_8 k_10 =>
  nx_8 (IntKind.u64.wrap ((zaz .xor .u64 h_2 (IntKind.u64.wrap (c_7.toNat:Int))) * 1099511628211))) 14695981039346656037 (fun h_2 =>
  k_6 h_2)
noncomputable def zeG (l_5:List api_Record):Option (Str × Str) :=
 jp (S:=Str × Str) (fun s=>match s with
  | (sum_6,o1_7) =>
   call (zA o1_7) fun r_8 =>
   some (r_8,sum_6)) fun k_9 =>
 forL l_5 0 (fun i_13 r_10 s nx_11 k_14 =>
  match s with
  | (sum_2,o1_4) =>
   call (zdd r_10) fun r_1 =>
   chk ((sum_2++r_1).length≤274877906944) <|
   call (zhz (sum_2++r_1)) fun r_3 =>
   chk ((r_1++([32]:Str)).length≤274877906944) <|
   chk (((r_1++([32]:Str))++r_3).length≤274877906944) <|
   chk ((((r_1++([32]:Str))++r_3)++([10]:Str)).length≤274877906944) <|
   call (zh (((r_1++([32]:Str))++r_3)++([10]:Str)) o1_4) fun r_12 =>
   nx_11 (r_3,r_12.2)) ([],[]) (fun s=>match s with
  | (sum_2,o1_4) =>
   k_9 (sum_2,o1_4))
noncomputable def zaI (s_2:Str) (sep_3:Str):Option (Str × Str × Bool) :=
 call (zU s_2 sep_3) fun r_1 =>
 bif decide (0≤r_1) then
  chk (0≤r_1∧r_1≤(s_2.length:Int)) <|
  chk (0≤IntKind.i64.wrap (r_1+(sep_3.length:Int))∧IntKind.i64.wrap (r_1+(sep_3.length:Int))≤(s_2.length:Int)) <|
  some (List.take r_1.toNat s_2,List.drop ((IntKind.i64.wrap (r_1+(sep_3.length:Int))).toNat) s_2,true)
 else
 some (s_2,[],false)
noncomputable def zcj (s_2:Str) (sep_3:Str):Option (Str × Str × Bool) :=
 call (zaI s_2 sep_3) fun r_1 =>
 some (r_1.1,r_1.2.1,r_1.2.2)
noncomputable def zz (s_2:Str) (c_3:Int):Option Int :=
 jp (S:=Unit) (fun _ =>
  some (-1)) fun k_4 =>
 loopN zc4 (fun i_1 nx_5 k_6 =>
  bif decide (0≤i_1) then
   zd1 s_2 i_1 fun c_7 =>
   bif decide (c_7=c_3) then
    some i_1
   else
   nx_5 (IntKind.i64.wrap (i_1 - 1))
  else
  k_6 i_1) (IntKind.i64.wrap ((s_2.length:Int) - 1)) (fun i_1 =>
  k_4 ())
noncomputable def zC (s_1:Str) (c_2:Int):Option Int :=
 call (zz s_1 c_2) fun r_3 =>
 some r_3
noncomputable def zby (s_1:Str) (sep_2:Str) (n_3:Int):Option (List Str) :=
 call (zav s_1 sep_2 0 n_3) fun r_4 =>
 some r_4
noncomputable def zcq (s_1:Str):Option (Int × Bool) :=
 chk ((!((decide (s_1=[])) || (decide (18 < (s_1.length:Int)))))=true→(0≤0∧0 < (s_1.length:Int))) <|
 bif (((decide (s_1=[])) || (decide (18 < (s_1.length:Int)))) || ((decide (((s_1.getD 0 0).toNat:Int)=48)) && (!decide (s_1=([48]:Str))))) then
  some (0,false)
 else
 jp (S:=Unit) (fun _ =>
  call (zaw s_1) fun r_2 =>
  some (r_2.1,r_2.2)) fun k_4 =>
 forL s_1 0 (fun i_6 c_3 s nx_5 k_7 =>
  bif ((decide ((c_3.toNat:Int) < 48)) || (decide (57 < (c_3.toNat:Int)))) then
   some (0,false)
  else
  nx_5 ()) () (fun _ =>
  k_4 ())
noncomputable def zbx (s_1:Str):Option (Int × Bool) :=
 call (zcP s_1 9) fun r_2 =>
 chk ((!(!r_2))=true→(0≤0∧0 < (s_1.length:Int))) <|
 bif ((!r_2) || ((decide (((s_1.getD 0 0).toNat:Int)=48)) && (!decide (s_1=([48]:Str))))) then
  some (0,false)
 else
 call (zaw s_1) fun r_3 =>
 some (r_3.1,r_3.2)
noncomputable def zfe (text_10:Str):Option (api_Version × Int) :=
 call (zcj text_10 ([45]:Str)) fun r_1 =>
 call (zae r_1.1 ([46]:Str)) fun r_2 =>
 bif ((!decide ((r_2.length:Int)=3)) || (r_1.2.2 && (decide (r_1.2.1=[])))) then
  some ((api_Version.mk 0 0 0 []),8)
 else
 jp (S:=Int × Int × Int) (fun s=>match s with
  | (o1_0_3,o1_1_4,o1_2_5) =>
   call (zc8 (api_Version.mk o1_0_3 o1_1_4 o1_2_5 r_1.2.1)) fun r_6 =>
   bif !decide (r_6=0) then
    some ((api_Version.mk 0 0 0 []),r_6)
   else
   some ((api_Version.mk o1_0_3 o1_1_4 o1_2_5 r_1.2.1),0)) fun k_11 =>
 chk ((r_2.length:Int)=3) <|
 idx r_2 0 fun s_12 =>
 call (zbx s_12) fun r_7 =>
 bif !r_7.2 then
  some ((api_Version.mk 0 0 0 []),8)
 else
 idx r_2 1 fun s_13 =>
 call (zbx s_13) fun r_8 =>
 bif !r_8.2 then
  some ((api_Version.mk 0 0 0 []),8)
 else
 idx r_2 2 fun s_14 =>
 call (zbx s_14) fun r_9 =>
 bif !r_9.2 then
  some ((api_Version.mk 0 0 0 []),8)
 else
 k_11 (r_7.1,r_8.1,r_9.1)
noncomputable def za3 (s_2:Str):Option (api_Version × Bool) :=
 bif decide (s_2=([45]:Str)) then
  some ((api_Version.mk 0 0 0 []),true)
 else
 call (zfe s_2) fun r_1 =>
 some (r_1.1,((decide (r_1.2=0)) && (!((decide (r_1.1.Major=0)) && ((decide (r_1.1.Minor=0)) && ((decide (r_1.1.Patch=0)) && (decide (r_1.1.Early=[]))))))))
noncomputable def zdV (s_1:Str):Option (Int × Int) :=
 bif decide (s_1=[]) then
  some (0,0)
 else
 zd1 s_1 0 fun c_2 =>
 bif ((decide (c_2=92)) || (decide (c_2=34))) then
  some (c_2,1)
 else
 bif decide (c_2=110) then
  some (10,1)
 else
 bif ((!decide (c_2=120)) || (decide ((s_1.length:Int) < 3))) then
  some (0,0)
 else
 zd1 s_1 1 fun c_5 =>
 call (zaA ([48,49,50,51,52,53,54,55,56,57,97,98,99,100,101,102]:Str) c_5) fun r_3 =>
 zd1 s_1 2 fun c_6 =>
 call (zaA ([48,49,50,51,52,53,54,55,56,57,97,98,99,100,101,102]:Str) c_6) fun r_4 =>
 bif ((decide (r_3 < 0)) || (decide (r_4 < 0))) then
  some (0,0)
 else
 bif (((decide (32≤(IntKind.u8.wrap (IntKind.i64.wrap ((IntKind.i64.wrap (16 * r_3))+r_4))))) && (decide ((IntKind.u8.wrap (IntKind.i64.wrap ((IntKind.i64.wrap (16 * r_3))+r_4)))≤126))) || (decide ((IntKind.u8.wrap (IntKind.i64.wrap ((IntKind.i64.wrap (16 * r_3))+r_4)))=10))) then
  some (0,0)
 else
 some (IntKind.u8.wrap (IntKind.i64.wrap ((IntKind.i64.wrap (16 * r_3))+r_4)),3)
noncomputable def zct (s_1:Str):Option (Str × Int) :=
 chk ((!(decide ((s_1.length:Int) < 2)))=true→(0≤0∧0 < (s_1.length:Int))) <|
 chk ((!((decide ((s_1.length:Int) < 2)) || (!decide (((s_1.getD 0 0).toNat:Int)=34))))=true→(0≤IntKind.i64.wrap ((s_1.length:Int) - 1)∧IntKind.i64.wrap ((s_1.length:Int) - 1) < (s_1.length:Int))) <|
 bif (((decide ((s_1.length:Int) < 2)) || (!decide (((s_1.getD 0 0).toNat:Int)=34))) || (!decide (((s_1.getD ((IntKind.i64.wrap ((s_1.length:Int) - 1)).toNat) 0).toNat:Int)=34))) then
  some ([],8)
 else
 chk (0≤1∧1≤(s_1.length:Int)∧0≤IntKind.i64.wrap ((s_1.length:Int) - 1)∧IntKind.i64.wrap ((s_1.length:Int) - 1)≤(s_1.length:Int)∧1≤IntKind.i64.wrap ((s_1.length:Int) - 1)) <|
 chk (0≤0∧0≤((List.take ((IntKind.i64.wrap ((s_1.length:Int) - 1)).toNat - 1) (List.drop 1 s_1)).length:Int)∧((List.take ((IntKind.i64.wrap ((s_1.length:Int) - 1)).toNat - 1) (List.drop 1 s_1)).length:Int)≤274877906944) <|
 jp (S:=List Int) (fun o0_7 =>
  some (Go.Vc.strOf o0_7,0)) fun k_8 =>
 loopN zc4 (fun s nx_6 k_9 =>
  match s with
  | (i_2,o0_3) =>
   bif decide (i_2 < ((List.take ((IntKind.i64.wrap ((s_1.length:Int) - 1)).toNat - 1) (List.drop 1 s_1)).length:Int)) then
    zd1 (List.take ((IntKind.i64.wrap ((s_1.length:Int) - 1)).toNat - 1) (List.drop 1 s_1)) i_2 fun c_4 =>
    bif (((decide (c_4 < 32)) || (decide (126 < c_4))) || (decide (c_4=34))) then
     some ([],8)
    else
    bif decide (c_4=92) then
     chk (0≤IntKind.i64.wrap (i_2+1)∧IntKind.i64.wrap (i_2+1)≤((List.take ((IntKind.i64.wrap ((s_1.length:Int) - 1)).toNat - 1) (List.drop 1 s_1)).length:Int)) <|
     call (zdV (List.drop ((IntKind.i64.wrap (i_2+1)).toNat) (List.take ((IntKind.i64.wrap ((s_1.length:Int) - 1)).toNat - 1) (List.drop 1 s_1)))) fun r_5 =>
     bif decide (r_5.2=0) then
      some ([],8)
     else
     chk ((o0_3++[r_5.1]).length≤274877906944) <|
     nx_6 (IntKind.i64.wrap ((IntKind.i64.wrap (i_2+r_5.2))+1),o0_3++[r_5.1])
    else
    chk ((o0_3++[c_4]).length≤274877906944) <|
    nx_6 (IntKind.i64.wrap (i_2+1),o0_3++[c_4])
   else
   k_9 (i_2,o0_3)) (0,List.replicate 0 0) (fun s=>match s with
  | (i_2,o0_3) =>
   k_8 o0_3)
noncomputable def zbN (line_13:Str):Option (api_Record × Int) :=
 call (zby line_13 ([32]:Str) 7) fun r_1 =>
 chk ((!(!decide ((r_1.length:Int)=7)))=true→(0≤2∧2 < (r_1.length:Int))) <|
 bif ((!decide ((r_1.length:Int)=7)) || (decide ((r_1.getD 2 [])=[]))) then
  some ((api_Record.mk 0 0 [] (api_Version.mk 0 0 0 []) (api_Version.mk 0 0 0 []) 0 []),8)
 else
 idx r_1 2 fun s_10 =>
 jp (S:=Int) (fun o1_1_2 =>
  idx r_1 0 fun s_14 =>
  call (zcq s_14) fun r_3 =>
  idx r_1 3 fun s_15 =>
  call (za3 s_15) fun r_4 =>
  idx r_1 4 fun s_16 =>
  call (za3 s_16) fun r_5 =>
  idx r_1 5 fun s_17 =>
  call (zcq s_17) fun r_6 =>
  idx r_1 6 fun s_18 =>
  call (zct s_18) fun r_7 =>
  bif ((((((decide (o1_1_2=0)) || (!r_3.2)) || (!r_4.2)) || (!r_5.2)) || (!r_6.2)) || (!decide (r_7.2=0))) then
   some ((api_Record.mk 0 0 [] (api_Version.mk 0 0 0 []) (api_Version.mk 0 0 0 []) 0 []),8)
  else
  call (zaU (api_Record.mk r_3.1 o1_1_2 s_10 r_4.1 r_5.1 r_6.1 r_7.1)) fun r_11 =>
  bif !decide (r_11=0) then
   some ((api_Record.mk 0 0 [] (api_Version.mk 0 0 0 []) (api_Version.mk 0 0 0 []) 0 []),r_11)
  else
  some ((api_Record.mk r_3.1 o1_1_2 s_10 r_4.1 r_5.1 r_6.1 r_7.1),0)) fun k_19 =>
 call (zdu) fun r_20 =>
 forL r_20 0 (fun i_8 s_21 o1_1_9 nx_12 k_22 =>
  chk ((decide (0 < (i_8:Int)))=true→(0≤1∧1 < (r_1.length:Int))) <|
  bif ((decide (0 < (i_8:Int))) && (decide (s_21=(r_1.getD 1 [])))) then
   nx_12 (i_8:Int)
  else
  nx_12 o1_1_9) 0 (fun o1_1_9 =>
  k_19 o1_1_9)
noncomputable def zfG (text_12:Str):Option (Int × Int × (List (Str × log_had)) × Int × Str × List api_Record × List Str) :=
 bif decide (4194304 < (text_12.length:Int)) then
  none
 else
 call (zk3) fun r_11 =>
 jp (S:=(List (Str × log_had)) × Int × Str × List api_Record × List Str) (fun s=>match s with
  | (m0_16,o1_1_17,o2_2_18,o3_13,o4_19) =>
   some ((o3_13.length:Int),0,m0_16,o1_1_17,o2_2_18,o3_13,o4_19)) fun k_20 =>
 loopN zc4 (fun s nx_21 k_14 =>
  match s with
  | (text_10,m0_6,o1_1_7,o2_2_4,o3_8,o4_9) =>
   call (zcj text_10 ([10]:Str)) fun r_2 =>
   call (zC r_2.1 32) fun r_1 =>
   bif ((!r_2.2.2) || (decide (r_1 < 0))) then
    k_14 (text_10,m0_6,o1_1_7,o2_2_4,o3_8,o4_9)
   else
   chk (0≤r_1∧r_1≤(r_2.1.length:Int)) <|
   call (zbN (List.take r_1.toNat r_2.1)) fun r_5 =>
   chk ((!(!decide (r_5.2=0)))=true→(0≤IntKind.i64.wrap (r_1+1)∧IntKind.i64.wrap (r_1+1)≤(r_2.1.length:Int))) <|
   chk ((!(!decide (r_5.2=0)))=true→(0≤r_1∧r_1≤(r_2.1.length:Int))) <|
   chk ((!(!decide (r_5.2=0)))=true→(o2_2_4++(List.take r_1.toNat r_2.1)).length≤274877906944) <|
   callG (!(!decide (r_5.2=0))) (zdC (o2_2_4++(List.take r_1.toNat r_2.1))) [] fun r_15 =>
   callG (!((!decide (r_5.2=0)) || (!decide ((List.drop ((IntKind.i64.wrap (r_1+1)).toNat) r_2.1)=r_15)))) (zb6 r_5.1 o2_2_4 o3_8 o4_9 o1_1_7 m0_6) (0,o2_2_4,o3_8,o4_9,o1_1_7,m0_6) fun r_3 =>
   bif (((!decide (r_5.2=0)) || (!decide ((List.drop ((IntKind.i64.wrap (r_1+1)).toNat) r_2.1)=r_15))) || (!decide (r_3.1=0))) then
    k_14 (text_10,r_3.2.2.2.2.2,r_3.2.2.2.2.1,r_3.2.1,r_3.2.2.1,r_3.2.2.2.1)
   else
   nx_21 (r_2.2.1,r_3.2.2.2.2.2,r_3.2.2.2.2.1,r_3.2.1,r_3.2.2.1,r_3.2.2.2.1)) (text_12,r_11.1,r_11.2.1,r_11.2.2,[],[]) (fun s=>match s with
  | (text_10,m0_6,o1_1_7,o2_2_4,o3_8,o4_9) =>
   k_20 (m0_6,o1_1_7,o2_2_4,o3_8,o4_9))
noncomputable def zbq (a_1:api_Record) (b_2:api_Record):Option Int :=
 some (IntKind.i64.wrap (a_1.Time - b_2.Time))
noncomputable def zq (a_3:Int) (b_6:Int) (o0_7:List api_Record):Option (List api_Record) :=
 loopN zc4 (fun s nx_8 k_9 =>
  match s with
  | (i_4,o0_5) =>
   bif decide (i_4 < b_6) then
    jp (S:=List api_Record) (fun o0_10 =>
     nx_8 (IntKind.i64.wrap (i_4+1),o0_10)) fun k_11 =>
    loopN zc4 (fun s nx_12 k_13 =>
     match s with
     | (j_1,o0_2) =>
      chk ((decide (a_3 < j_1))=true→(0≤j_1∧j_1 < (o0_2.length:Int))) <|
      chk ((decide (a_3 < j_1))=true→(0≤IntKind.i64.wrap (j_1 - 1)∧IntKind.i64.wrap (j_1 - 1) < (o0_2.length:Int))) <|
      callG (decide (a_3 < j_1)) (zbq (o0_2.getD j_1.toNat (api_Record.mk 0 0 [] (api_Version.mk 0 0 0 []) (api_Version.mk 0 0 0 []) 0 [])) (o0_2.getD ((IntKind.i64.wrap (j_1 - 1)).toNat) (api_Record.mk 0 0 [] (api_Version.mk 0 0 0 []) (api_Version.mk 0 0 0 []) 0 []))) 0 fun r_14 =>
      bif ((decide (a_3 < j_1)) && (decide (r_14 < 0))) then
       chk (0≤IntKind.i64.wrap (j_1 - 1)∧IntKind.i64.wrap (j_1 - 1) < (o0_2.length:Int)) <|
       chk (0≤j_1∧j_1 < (o0_2.length:Int)) <|
       chk (0≤j_1∧j_1 < (o0_2.length:Int)) <|
       chk (0≤IntKind.i64.wrap (j_1 - 1)∧IntKind.i64.wrap (j_1 - 1) < ((List.set o0_2 j_1.toNat (o0_2.getD ((IntKind.i64.wrap (j_1 - 1)).toNat) (api_Record.mk 0 0 [] (api_Version.mk 0 0 0 []) (api_Version.mk 0 0 0 []) 0 []))).length:Int)) <|
       nx_12 (IntKind.i64.wrap (j_1 - 1),List.set (List.set o0_2 j_1.toNat (o0_2.getD ((IntKind.i64.wrap (j_1 - 1)).toNat) (api_Record.mk 0 0 [] (api_Version.mk 0 0 0 []) (api_Version.mk 0 0 0 []) 0 []))) ((IntKind.i64.wrap (j_1 - 1)).toNat) (o0_2.getD j_1.toNat (api_Record.mk 0 0 [] (api_Version.mk 0 0 0 []) (api_Version.mk 0 0 0 []) 0 [])))
      else
      k_13 (j_1,o0_2)) (i_4,o0_5) (fun s=>match s with
     | (j_1,o0_2) =>
      k_11 o0_2)
   else
   k_9 (i_4,o0_5)) (IntKind.i64.wrap (a_3+1),o0_7) (fun s=>match s with
  | (i_4,o0_5) =>
   some o0_5)
noncomputable def zp (a_3:Int) (b_4:Int) (n_5:Int) (o0_6:List api_Record):Option (List api_Record) :=
 loopN zc4 (fun s nx_7 k_8 =>
  match s with
  | (i_1,o0_2) =>
   bif decide (i_1 < n_5) then
    chk (0≤IntKind.i64.wrap (b_4+i_1)∧IntKind.i64.wrap (b_4+i_1) < (o0_2.length:Int)) <|
    chk (0≤IntKind.i64.wrap (a_3+i_1)∧IntKind.i64.wrap (a_3+i_1) < (o0_2.length:Int)) <|
    chk (0≤IntKind.i64.wrap (a_3+i_1)∧IntKind.i64.wrap (a_3+i_1) < (o0_2.length:Int)) <|
    chk (0≤IntKind.i64.wrap (b_4+i_1)∧IntKind.i64.wrap (b_4+i_1) < ((List.set o0_2 ((IntKind.i64.wrap (a_3+i_1)).toNat) (o0_2.getD ((IntKind.i64.wrap (b_4+i_1)).toNat) (api_Record.mk 0 0 [] (api_Version.mk 0 0 0 []) (api_Version.mk 0 0 0 []) 0 []))).length:Int)) <|
    nx_7 (IntKind.i64.wrap (i_1+1),List.set (List.set o0_2 ((IntKind.i64.wrap (a_3+i_1)).toNat) (o0_2.getD ((IntKind.i64.wrap (b_4+i_1)).toNat) (api_Record.mk 0 0 [] (api_Version.mk 0 0 0 []) (api_Version.mk 0 0 0 []) 0 []))) ((IntKind.i64.wrap (b_4+i_1)).toNat) (o0_2.getD ((IntKind.i64.wrap (a_3+i_1)).toNat) (api_Record.mk 0 0 [] (api_Version.mk 0 0 0 []) (api_Version.mk 0 0 0 []) 0 [])))
   else
   k_8 (i_1,o0_2)) (0,o0_6) (fun s=>match s with
  | (i_1,o0_2) =>
   some o0_2)
noncomputable def zO (a_7:Int) (m_3:Int) (b_8:Int) (o0_9:List api_Record):Option (List api_Record) :=
 jp (S:=Int × List api_Record) (fun s=>match s with
  | (i_5,o0_10) =>
   call (zp (IntKind.i64.wrap (m_3 - i_5)) m_3 i_5 o0_10) fun r_11 =>
   some r_11) fun k_12 =>
 loopN zc4 (fun s nx_6 k_13 =>
  match s with
  | (i_1,j_2,o0_4) =>
   bif !decide (i_1=j_2) then
    bif decide (j_2 < i_1) then
     call (zp (IntKind.i64.wrap (m_3 - i_1)) m_3 j_2 o0_4) fun r_14 =>
     nx_6 (IntKind.i64.wrap (i_1 - j_2),j_2,r_14)
    else
    call (zp (IntKind.i64.wrap (m_3 - i_1)) (IntKind.i64.wrap ((IntKind.i64.wrap (m_3+j_2)) - i_1)) i_1 o0_4) fun r_15 =>
    nx_6 (i_1,IntKind.i64.wrap (j_2 - i_1),r_15)
   else
   k_13 (i_1,j_2,o0_4)) (IntKind.i64.wrap (m_3 - a_7),IntKind.i64.wrap (b_8 - m_3),o0_9) (fun s=>match s with
  | (i_1,j_2,o0_4) =>
   k_12 (i_1,o0_4))
noncomputable def zj:Nat→Int→Int→Int→List api_Record→Option (List api_Record)
 | 0,_,_,_,_=>none
 | nrec+1,a_9,m_2,b_13,o0_1 =>
  jp (S:=Unit) (fun _ =>
   jp (S:=Unit) (fun _ =>
    letv (IntKind.i64.wrap (Int.fdiv (IntKind.u64.wrap (IntKind.i64.wrap (a_9+b_13))) (2 ^ (shI .u64 1)))) fun v_8 =>
    jp (S:=Int × Int) (fun s=>match s with
     | (start_30,r_31) =>
      jp (S:=Int) (fun start_12 =>
       jp (S:=List api_Record) (fun o0_20 =>
        jp (S:=List api_Record) (fun o0_21 =>
         letv (((decide (v_8 < (IntKind.i64.wrap ((IntKind.i64.wrap (v_8+m_2)) - start_12)))) && (decide ((IntKind.i64.wrap ((IntKind.i64.wrap (v_8+m_2)) - start_12)) < b_13)))) fun v_32 =>
         bif v_32 then
          call (zj nrec v_8 (IntKind.i64.wrap ((IntKind.i64.wrap (v_8+m_2)) - start_12)) b_13 o0_21) fun r_33 =>
          some r_33
         else
         some o0_21) fun k_22 =>
        bif ((decide (a_9 < start_12)) && (decide (start_12 < v_8))) then
         call (zj nrec a_9 start_12 v_8 o0_20) fun r_34 =>
         k_22 r_34
        else
        k_22 o0_20) fun k_23 =>
       letv (((decide (start_12 < m_2)) && (decide (m_2 < (IntKind.i64.wrap ((IntKind.i64.wrap (v_8+m_2)) - start_12)))))) fun v_35 =>
       bif v_35 then
        call (zO start_12 m_2 (IntKind.i64.wrap ((IntKind.i64.wrap (v_8+m_2)) - start_12)) o0_1) fun r_36 =>
        k_23 r_36
       else
       k_23 o0_1) fun k_37 =>
      loopN zc4 (fun s nx_24 k_38 =>
       match s with
       | (start_14,r_17) =>
        bif decide (start_14 < r_17) then
         letv (IntKind.i64.wrap (Int.fdiv (IntKind.u64.wrap (IntKind.i64.wrap (start_14+r_17))) (2 ^ (shI .u64 1)))) fun v_7 =>
         chk (0≤IntKind.i64.wrap ((IntKind.i64.wrap ((IntKind.i64.wrap (v_8+m_2)) - 1)) - v_7)∧IntKind.i64.wrap ((IntKind.i64.wrap ((IntKind.i64.wrap (v_8+m_2)) - 1)) - v_7) < (o0_1.length:Int)) <|
         letv ((o0_1.getD ((IntKind.i64.wrap ((IntKind.i64.wrap ((IntKind.i64.wrap (v_8+m_2)) - 1)) - v_7)).toNat) (api_Record.mk 0 0 [] (api_Version.mk 0 0 0 []) (api_Version.mk 0 0 0 []) 0 [])).Time) fun v_39 =>
         letv ((o0_1.getD ((IntKind.i64.wrap ((IntKind.i64.wrap ((IntKind.i64.wrap (v_8+m_2)) - 1)) - v_7)).toNat) (api_Record.mk 0 0 [] (api_Version.mk 0 0 0 []) (api_Version.mk 0 0 0 []) 0 [])).Kind) fun v_40 =>
         letv ((o0_1.getD ((IntKind.i64.wrap ((IntKind.i64.wrap ((IntKind.i64.wrap (v_8+m_2)) - 1)) - v_7)).toNat) (api_Record.mk 0 0 [] (api_Version.mk 0 0 0 []) (api_Version.mk 0 0 0 []) 0 [])).Pack) fun v_41 =>
         letv (((o0_1.getD ((IntKind.i64.wrap ((IntKind.i64.wrap ((IntKind.i64.wrap (v_8+m_2)) - 1)) - v_7)).toNat) (api_Record.mk 0 0 [] (api_Version.mk 0 0 0 []) (api_Version.mk 0 0 0 []) 0 [])).From).Major) fun v_42 =>
         letv (((o0_1.getD ((IntKind.i64.wrap ((IntKind.i64.wrap ((IntKind.i64.wrap (v_8+m_2)) - 1)) - v_7)).toNat) (api_Record.mk 0 0 [] (api_Version.mk 0 0 0 []) (api_Version.mk 0 0 0 []) 0 [])).From).Minor) fun v_43 =>
         letv (((o0_1.getD ((IntKind.i64.wrap ((IntKind.i64.wrap ((IntKind.i64.wrap (v_8+m_2)) - 1)) - v_7)).toNat) (api_Record.mk 0 0 [] (api_Version.mk 0 0 0 []) (api_Version.mk 0 0 0 []) 0 [])).From).Patch) fun v_44 =>
         letv (((o0_1.getD ((IntKind.i64.wrap ((IntKind.i64.wrap ((IntKind.i64.wrap (v_8+m_2)) - 1)) - v_7)).toNat) (api_Record.mk 0 0 [] (api_Version.mk 0 0 0 []) (api_Version.mk 0 0 0 []) 0 [])).From).Early) fun v_45 =>
         letv (((o0_1.getD ((IntKind.i64.wrap ((IntKind.i64.wrap ((IntKind.i64.wrap (v_8+m_2)) - 1)) - v_7)).toNat) (api_Record.mk 0 0 [] (api_Version.mk 0 0 0 []) (api_Version.mk 0 0 0 []) 0 [])).To).Major) fun v_46 =>
         letv (((o0_1.getD ((IntKind.i64.wrap ((IntKind.i64.wrap ((IntKind.i64.wrap (v_8+m_2)) - 1)) - v_7)).toNat) (api_Record.mk 0 0 [] (api_Version.mk 0 0 0 []) (api_Version.mk 0 0 0 []) 0 [])).To).Minor) fun v_47 =>
         letv (((o0_1.getD ((IntKind.i64.wrap ((IntKind.i64.wrap ((IntKind.i64.wrap (v_8+m_2)) - 1)) - v_7)).toNat) (api_Record.mk 0 0 [] (api_Version.mk 0 0 0 []) (api_Version.mk 0 0 0 []) 0 [])).To).Patch) fun v_48 =>
         letv (((o0_1.getD ((IntKind.i64.wrap ((IntKind.i64.wrap ((IntKind.i64.wrap (v_8+m_2)) - 1)) - v_7)).toNat) (api_Record.mk 0 0 [] (api_Version.mk 0 0 0 []) (api_Version.mk 0 0 0 []) 0 [])).To).Early) fun v_49 =>
         letv ((o0_1.getD ((IntKind.i64.wrap ((IntKind.i64.wrap ((IntKind.i64.wrap (v_8+m_2)) - 1)) - v_7)).toNat) (api_Record.mk 0 0 [] (api_Version.mk 0 0 0 []) (api_Version.mk 0 0 0 []) 0 [])).Result) fun v_50 =>
         letv ((o0_1.getD ((IntKind.i64.wrap ((IntKind.i64.wrap ((IntKind.i64.wrap (v_8+m_2)) - 1)) - v_7)).toNat) (api_Record.mk 0 0 [] (api_Version.mk 0 0 0 []) (api_Version.mk 0 0 0 []) 0 [])).Note) fun v_51 =>
         chk (0≤v_7∧v_7 < (o0_1.length:Int)) <|
         letv ((o0_1.getD v_7.toNat (api_Record.mk 0 0 [] (api_Version.mk 0 0 0 []) (api_Version.mk 0 0 0 []) 0 [])).Time) fun v_52 =>
         letv ((o0_1.getD v_7.toNat (api_Record.mk 0 0 [] (api_Version.mk 0 0 0 []) (api_Version.mk 0 0 0 []) 0 [])).Kind) fun v_53 =>
         letv ((o0_1.getD v_7.toNat (api_Record.mk 0 0 [] (api_Version.mk 0 0 0 []) (api_Version.mk 0 0 0 []) 0 [])).Pack) fun v_54 =>
         letv (((o0_1.getD v_7.toNat (api_Record.mk 0 0 [] (api_Version.mk 0 0 0 []) (api_Version.mk 0 0 0 []) 0 [])).From).Major) fun v_55 =>
         letv (((o0_1.getD v_7.toNat (api_Record.mk 0 0 [] (api_Version.mk 0 0 0 []) (api_Version.mk 0 0 0 []) 0 [])).From).Minor) fun v_56 =>
         letv (((o0_1.getD v_7.toNat (api_Record.mk 0 0 [] (api_Version.mk 0 0 0 []) (api_Version.mk 0 0 0 []) 0 [])).From).Patch) fun v_57 =>
         letv (((o0_1.getD v_7.toNat (api_Record.mk 0 0 [] (api_Version.mk 0 0 0 []) (api_Version.mk 0 0 0 []) 0 [])).From).Early) fun v_58 =>
         letv (((o0_1.getD v_7.toNat (api_Record.mk 0 0 [] (api_Version.mk 0 0 0 []) (api_Version.mk 0 0 0 []) 0 [])).To).Major) fun v_59 =>
         letv (((o0_1.getD v_7.toNat (api_Record.mk 0 0 [] (api_Version.mk 0 0 0 []) (api_Version.mk 0 0 0 []) 0 [])).To).Minor) fun v_60 =>
         letv (((o0_1.getD v_7.toNat (api_Record.mk 0 0 [] (api_Version.mk 0 0 0 []) (api_Version.mk 0 0 0 []) 0 [])).To).Patch) fun v_61 =>
         letv (((o0_1.getD v_7.toNat (api_Record.mk 0 0 [] (api_Version.mk 0 0 0 []) (api_Version.mk 0 0 0 []) 0 [])).To).Early) fun v_62 =>
         letv ((o0_1.getD v_7.toNat (api_Record.mk 0 0 [] (api_Version.mk 0 0 0 []) (api_Version.mk 0 0 0 []) 0 [])).Result) fun v_63 =>
         letv ((o0_1.getD v_7.toNat (api_Record.mk 0 0 [] (api_Version.mk 0 0 0 []) (api_Version.mk 0 0 0 []) 0 [])).Note) fun v_64 =>
         call (zbq (api_Record.mk v_39 v_40 v_41 (api_Version.mk v_42 v_43 v_44 v_45) (api_Version.mk v_46 v_47 v_48 v_49) v_50 v_51) (api_Record.mk v_52 v_53 v_54 (api_Version.mk v_55 v_56 v_57 v_58) (api_Version.mk v_59 v_60 v_61 v_62) v_63 v_64)) fun r_65 =>
         bif !(decide (r_65 < 0)) then
          nx_24 (IntKind.i64.wrap (v_7+1),r_17)
         else
         nx_24 (start_14,v_7)
        else
        k_38 (start_14,r_17)) (start_30,r_31) (fun s=>match s with
       | (start_14,r_17) =>
        k_37 start_14)) fun k_25 =>
    bif decide (v_8 < m_2) then
     k_25 (IntKind.i64.wrap ((IntKind.i64.wrap (v_8+m_2)) - b_13),v_8)
    else
    k_25 (a_9,m_2)) fun k_66 =>
   bif decide ((IntKind.i64.wrap (b_13 - m_2))=1) then
    jp (S:=Int) (fun i_67 =>
     jp (S:=List api_Record) (fun o0_68 =>
      some o0_68) fun k_69 =>
     loopN zc4 (fun s nx_70 k_71 =>
      match s with
      | (k_3,o0_5) =>
       bif decide (i_67 < k_3) then
        chk (0≤IntKind.i64.wrap (k_3 - 1)∧IntKind.i64.wrap (k_3 - 1) < (o0_5.length:Int)) <|
        letv ((o0_5.getD ((IntKind.i64.wrap (k_3 - 1)).toNat) (api_Record.mk 0 0 [] (api_Version.mk 0 0 0 []) (api_Version.mk 0 0 0 []) 0 [])).Time) fun v_72 =>
        letv ((o0_5.getD ((IntKind.i64.wrap (k_3 - 1)).toNat) (api_Record.mk 0 0 [] (api_Version.mk 0 0 0 []) (api_Version.mk 0 0 0 []) 0 [])).Kind) fun v_73 =>
        letv ((o0_5.getD ((IntKind.i64.wrap (k_3 - 1)).toNat) (api_Record.mk 0 0 [] (api_Version.mk 0 0 0 []) (api_Version.mk 0 0 0 []) 0 [])).Pack) fun v_74 =>
        letv (((o0_5.getD ((IntKind.i64.wrap (k_3 - 1)).toNat) (api_Record.mk 0 0 [] (api_Version.mk 0 0 0 []) (api_Version.mk 0 0 0 []) 0 [])).From).Major) fun v_75 =>
        letv (((o0_5.getD ((IntKind.i64.wrap (k_3 - 1)).toNat) (api_Record.mk 0 0 [] (api_Version.mk 0 0 0 []) (api_Version.mk 0 0 0 []) 0 [])).From).Minor) fun v_76 =>
        letv (((o0_5.getD ((IntKind.i64.wrap (k_3 - 1)).toNat) (api_Record.mk 0 0 [] (api_Version.mk 0 0 0 []) (api_Version.mk 0 0 0 []) 0 [])).From).Patch) fun v_77 =>
        letv (((o0_5.getD ((IntKind.i64.wrap (k_3 - 1)).toNat) (api_Record.mk 0 0 [] (api_Version.mk 0 0 0 []) (api_Version.mk 0 0 0 []) 0 [])).From).Early) fun v_78 =>
        letv (((o0_5.getD ((IntKind.i64.wrap (k_3 - 1)).toNat) (api_Record.mk 0 0 [] (api_Version.mk 0 0 0 []) (api_Version.mk 0 0 0 []) 0 [])).To).Major) fun v_79 =>
        letv (((o0_5.getD ((IntKind.i64.wrap (k_3 - 1)).toNat) (api_Record.mk 0 0 [] (api_Version.mk 0 0 0 []) (api_Version.mk 0 0 0 []) 0 [])).To).Minor) fun v_80 =>
        letv (((o0_5.getD ((IntKind.i64.wrap (k_3 - 1)).toNat) (api_Record.mk 0 0 [] (api_Version.mk 0 0 0 []) (api_Version.mk 0 0 0 []) 0 [])).To).Patch) fun v_81 =>
        letv (((o0_5.getD ((IntKind.i64.wrap (k_3 - 1)).toNat) (api_Record.mk 0 0 [] (api_Version.mk 0 0 0 []) (api_Version.mk 0 0 0 []) 0 [])).To).Early) fun v_82 =>
        letv ((o0_5.getD ((IntKind.i64.wrap (k_3 - 1)).toNat) (api_Record.mk 0 0 [] (api_Version.mk 0 0 0 []) (api_Version.mk 0 0 0 []) 0 [])).Result) fun v_83 =>
        letv ((o0_5.getD ((IntKind.i64.wrap (k_3 - 1)).toNat) (api_Record.mk 0 0 [] (api_Version.mk 0 0 0 []) (api_Version.mk 0 0 0 []) 0 [])).Note) fun v_84 =>
        chk (0≤k_3∧k_3 < (o0_5.length:Int)) <|
        letv ((o0_5.getD k_3.toNat (api_Record.mk 0 0 [] (api_Version.mk 0 0 0 []) (api_Version.mk 0 0 0 []) 0 [])).Time) fun v_85 =>
        letv ((o0_5.getD k_3.toNat (api_Record.mk 0 0 [] (api_Version.mk 0 0 0 []) (api_Version.mk 0 0 0 []) 0 [])).Kind) fun v_86 =>
        letv ((o0_5.getD k_3.toNat (api_Record.mk 0 0 [] (api_Version.mk 0 0 0 []) (api_Version.mk 0 0 0 []) 0 [])).Pack) fun v_87 =>
        letv (((o0_5.getD k_3.toNat (api_Record.mk 0 0 [] (api_Version.mk 0 0 0 []) (api_Version.mk 0 0 0 []) 0 [])).From).Major) fun v_88 =>
        letv (((o0_5.getD k_3.toNat (api_Record.mk 0 0 [] (api_Version.mk 0 0 0 []) (api_Version.mk 0 0 0 []) 0 [])).From).Minor) fun v_89 =>
        letv (((o0_5.getD k_3.toNat (api_Record.mk 0 0 [] (api_Version.mk 0 0 0 []) (api_Version.mk 0 0 0 []) 0 [])).From).Patch) fun v_90 =>
        letv (((o0_5.getD k_3.toNat (api_Record.mk 0 0 [] (api_Version.mk 0 0 0 []) (api_Version.mk 0 0 0 []) 0 [])).From).Early) fun v_91 =>
        letv (((o0_5.getD k_3.toNat (api_Record.mk 0 0 [] (api_Version.mk 0 0 0 []) (api_Version.mk 0 0 0 []) 0 [])).To).Major) fun v_92 =>
        letv (((o0_5.getD k_3.toNat (api_Record.mk 0 0 [] (api_Version.mk 0 0 0 []) (api_Version.mk 0 0 0 []) 0 [])).To).Minor) fun v_93 =>
        letv (((o0_5.getD k_3.toNat (api_Record.mk 0 0 [] (api_Version.mk 0 0 0 []) (api_Version.mk 0 0 0 []) 0 [])).To).Patch) fun v_94 =>
        letv (((o0_5.getD k_3.toNat (api_Record.mk 0 0 [] (api_Version.mk 0 0 0 []) (api_Version.mk 0 0 0 []) 0 [])).To).Early) fun v_95 =>
        letv ((o0_5.getD k_3.toNat (api_Record.mk 0 0 [] (api_Version.mk 0 0 0 []) (api_Version.mk 0 0 0 []) 0 [])).Result) fun v_96 =>
        letv ((o0_5.getD k_3.toNat (api_Record.mk 0 0 [] (api_Version.mk 0 0 0 []) (api_Version.mk 0 0 0 []) 0 [])).Note) fun v_97 =>
        chk (0≤k_3∧k_3 < (o0_5.length:Int)) <|
        letv (List.set o0_5 k_3.toNat (api_Record.mk v_72 v_73 v_74 (api_Version.mk v_75 v_76 v_77 v_78) (api_Version.mk v_79 v_80 v_81 v_82) v_83 v_84)) fun v_26 =>
        chk (0≤IntKind.i64.wrap (k_3 - 1)∧IntKind.i64.wrap (k_3 - 1) < (v_26.length:Int)) <|
        letv (List.set v_26 ((IntKind.i64.wrap (k_3 - 1)).toNat) (api_Record.mk v_85 v_86 v_87 (api_Version.mk v_88 v_89 v_90 v_91) (api_Version.mk v_92 v_93 v_94 v_95) v_96 v_97)) fun v_98 =>
        nx_70 (IntKind.i64.wrap (k_3 - 1),v_98)
       else
       k_71 (k_3,o0_5)) (m_2,o0_1) (fun s=>match s with
      | (k_3,o0_5) =>
       k_69 o0_5)) fun k_99 =>
    loopN zc4 (fun s nx_27 k_100 =>
     match s with
     | (i_15,j_18) =>
      bif decide (i_15 < j_18) then
       letv (IntKind.i64.wrap (Int.fdiv (IntKind.u64.wrap (IntKind.i64.wrap (i_15+j_18))) (2 ^ (shI .u64 1)))) fun v_10 =>
       chk (0≤m_2∧m_2 < (o0_1.length:Int)) <|
       letv ((o0_1.getD m_2.toNat (api_Record.mk 0 0 [] (api_Version.mk 0 0 0 []) (api_Version.mk 0 0 0 []) 0 [])).Time) fun v_101 =>
       letv ((o0_1.getD m_2.toNat (api_Record.mk 0 0 [] (api_Version.mk 0 0 0 []) (api_Version.mk 0 0 0 []) 0 [])).Kind) fun v_102 =>
       letv ((o0_1.getD m_2.toNat (api_Record.mk 0 0 [] (api_Version.mk 0 0 0 []) (api_Version.mk 0 0 0 []) 0 [])).Pack) fun v_103 =>
       letv (((o0_1.getD m_2.toNat (api_Record.mk 0 0 [] (api_Version.mk 0 0 0 []) (api_Version.mk 0 0 0 []) 0 [])).From).Major) fun v_104 =>
       letv (((o0_1.getD m_2.toNat (api_Record.mk 0 0 [] (api_Version.mk 0 0 0 []) (api_Version.mk 0 0 0 []) 0 [])).From).Minor) fun v_105 =>
       letv (((o0_1.getD m_2.toNat (api_Record.mk 0 0 [] (api_Version.mk 0 0 0 []) (api_Version.mk 0 0 0 []) 0 [])).From).Patch) fun v_106 =>
       letv (((o0_1.getD m_2.toNat (api_Record.mk 0 0 [] (api_Version.mk 0 0 0 []) (api_Version.mk 0 0 0 []) 0 [])).From).Early) fun v_107 =>
       letv (((o0_1.getD m_2.toNat (api_Record.mk 0 0 [] (api_Version.mk 0 0 0 []) (api_Version.mk 0 0 0 []) 0 [])).To).Major) fun v_108 =>
       letv (((o0_1.getD m_2.toNat (api_Record.mk 0 0 [] (api_Version.mk 0 0 0 []) (api_Version.mk 0 0 0 []) 0 [])).To).Minor) fun v_109 =>
       letv (((o0_1.getD m_2.toNat (api_Record.mk 0 0 [] (api_Version.mk 0 0 0 []) (api_Version.mk 0 0 0 []) 0 [])).To).Patch) fun v_110 =>
       letv (((o0_1.getD m_2.toNat (api_Record.mk 0 0 [] (api_Version.mk 0 0 0 []) (api_Version.mk 0 0 0 []) 0 [])).To).Early) fun v_111 =>
       letv ((o0_1.getD m_2.toNat (api_Record.mk 0 0 [] (api_Version.mk 0 0 0 []) (api_Version.mk 0 0 0 []) 0 [])).Result) fun v_112 =>
       letv ((o0_1.getD m_2.toNat (api_Record.mk 0 0 [] (api_Version.mk 0 0 0 []) (api_Version.mk 0 0 0 []) 0 [])).Note) fun v_113 =>
       chk (0≤v_10∧v_10 < (o0_1.length:Int)) <|
       letv ((o0_1.getD v_10.toNat (api_Record.mk 0 0 [] (api_Version.mk 0 0 0 []) (api_Version.mk 0 0 0 []) 0 [])).Time) fun v_114 =>
       letv ((o0_1.getD v_10.toNat (api_Record.mk 0 0 [] (api_Version.mk 0 0 0 []) (api_Version.mk 0 0 0 []) 0 [])).Kind) fun v_115 =>
       letv ((o0_1.getD v_10.toNat (api_Record.mk 0 0 [] (api_Version.mk 0 0 0 []) (api_Version.mk 0 0 0 []) 0 [])).Pack) fun v_116 =>
       letv (((o0_1.getD v_10.toNat (api_Record.mk 0 0 [] (api_Version.mk 0 0 0 []) (api_Version.mk 0 0 0 []) 0 [])).From).Major) fun v_117 =>
       letv (((o0_1.getD v_10.toNat (api_Record.mk 0 0 [] (api_Version.mk 0 0 0 []) (api_Version.mk 0 0 0 []) 0 [])).From).Minor) fun v_118 =>
       letv (((o0_1.getD v_10.toNat (api_Record.mk 0 0 [] (api_Version.mk 0 0 0 []) (api_Version.mk 0 0 0 []) 0 [])).From).Patch) fun v_119 =>
       letv (((o0_1.getD v_10.toNat (api_Record.mk 0 0 [] (api_Version.mk 0 0 0 []) (api_Version.mk 0 0 0 []) 0 [])).From).Early) fun v_120 =>
       letv (((o0_1.getD v_10.toNat (api_Record.mk 0 0 [] (api_Version.mk 0 0 0 []) (api_Version.mk 0 0 0 []) 0 [])).To).Major) fun v_121 =>
       letv (((o0_1.getD v_10.toNat (api_Record.mk 0 0 [] (api_Version.mk 0 0 0 []) (api_Version.mk 0 0 0 []) 0 [])).To).Minor) fun v_122 =>
       letv (((o0_1.getD v_10.toNat (api_Record.mk 0 0 [] (api_Version.mk 0 0 0 []) (api_Version.mk 0 0 0 []) 0 [])).To).Patch) fun v_123 =>
       letv (((o0_1.getD v_10.toNat (api_Record.mk 0 0 [] (api_Version.mk 0 0 0 []) (api_Version.mk 0 0 0 []) 0 [])).To).Early) fun v_124 =>
       letv ((o0_1.getD v_10.toNat (api_Record.mk 0 0 [] (api_Version.mk 0 0 0 []) (api_Version.mk 0 0 0 []) 0 [])).Result) fun v_125 =>
       letv ((o0_1.getD v_10.toNat (api_Record.mk 0 0 [] (api_Version.mk 0 0 0 []) (api_Version.mk 0 0 0 []) 0 [])).Note) fun v_126 =>
       call (zbq (api_Record.mk v_101 v_102 v_103 (api_Version.mk v_104 v_105 v_106 v_107) (api_Version.mk v_108 v_109 v_110 v_111) v_112 v_113) (api_Record.mk v_114 v_115 v_116 (api_Version.mk v_117 v_118 v_119 v_120) (api_Version.mk v_121 v_122 v_123 v_124) v_125 v_126)) fun r_127 =>
       bif !(decide (r_127 < 0)) then
        nx_27 (IntKind.i64.wrap (v_10+1),j_18)
       else
       nx_27 (i_15,v_10)
      else
      k_100 (i_15,j_18)) (a_9,m_2) (fun s=>match s with
     | (i_15,j_18) =>
      k_99 i_15)
   else
   k_66 ()) fun k_128 =>
  bif decide ((IntKind.i64.wrap (m_2 - a_9))=1) then
   jp (S:=Int) (fun i_129 =>
    jp (S:=List api_Record) (fun o0_130 =>
     some o0_130) fun k_131 =>
    loopN zc4 (fun s nx_132 k_133 =>
     match s with
     | (k_4,o0_6) =>
      bif decide (k_4 < (IntKind.i64.wrap (i_129 - 1))) then
       chk (0≤IntKind.i64.wrap (k_4+1)∧IntKind.i64.wrap (k_4+1) < (o0_6.length:Int)) <|
       letv ((o0_6.getD ((IntKind.i64.wrap (k_4+1)).toNat) (api_Record.mk 0 0 [] (api_Version.mk 0 0 0 []) (api_Version.mk 0 0 0 []) 0 [])).Time) fun v_134 =>
       letv ((o0_6.getD ((IntKind.i64.wrap (k_4+1)).toNat) (api_Record.mk 0 0 [] (api_Version.mk 0 0 0 []) (api_Version.mk 0 0 0 []) 0 [])).Kind) fun v_135 =>
       letv ((o0_6.getD ((IntKind.i64.wrap (k_4+1)).toNat) (api_Record.mk 0 0 [] (api_Version.mk 0 0 0 []) (api_Version.mk 0 0 0 []) 0 [])).Pack) fun v_136 =>
       letv (((o0_6.getD ((IntKind.i64.wrap (k_4+1)).toNat) (api_Record.mk 0 0 [] (api_Version.mk 0 0 0 []) (api_Version.mk 0 0 0 []) 0 [])).From).Major) fun v_137 =>
       letv (((o0_6.getD ((IntKind.i64.wrap (k_4+1)).toNat) (api_Record.mk 0 0 [] (api_Version.mk 0 0 0 []) (api_Version.mk 0 0 0 []) 0 [])).From).Minor) fun v_138 =>
       letv (((o0_6.getD ((IntKind.i64.wrap (k_4+1)).toNat) (api_Record.mk 0 0 [] (api_Version.mk 0 0 0 []) (api_Version.mk 0 0 0 []) 0 [])).From).Patch) fun v_139 =>
       letv (((o0_6.getD ((IntKind.i64.wrap (k_4+1)).toNat) (api_Record.mk 0 0 [] (api_Version.mk 0 0 0 []) (api_Version.mk 0 0 0 []) 0 [])).From).Early) fun v_140 =>
       letv (((o0_6.getD ((IntKind.i64.wrap (k_4+1)).toNat) (api_Record.mk 0 0 [] (api_Version.mk 0 0 0 []) (api_Version.mk 0 0 0 []) 0 [])).To).Major) fun v_141 =>
       letv (((o0_6.getD ((IntKind.i64.wrap (k_4+1)).toNat) (api_Record.mk 0 0 [] (api_Version.mk 0 0 0 []) (api_Version.mk 0 0 0 []) 0 [])).To).Minor) fun v_142 =>
       letv (((o0_6.getD ((IntKind.i64.wrap (k_4+1)).toNat) (api_Record.mk 0 0 [] (api_Version.mk 0 0 0 []) (api_Version.mk 0 0 0 []) 0 [])).To).Patch) fun v_143 =>
       letv (((o0_6.getD ((IntKind.i64.wrap (k_4+1)).toNat) (api_Record.mk 0 0 [] (api_Version.mk 0 0 0 []) (api_Version.mk 0 0 0 []) 0 [])).To).Early) fun v_144 =>
       letv ((o0_6.getD ((IntKind.i64.wrap (k_4+1)).toNat) (api_Record.mk 0 0 [] (api_Version.mk 0 0 0 []) (api_Version.mk 0 0 0 []) 0 [])).Result) fun v_145 =>
       letv ((o0_6.getD ((IntKind.i64.wrap (k_4+1)).toNat) (api_Record.mk 0 0 [] (api_Version.mk 0 0 0 []) (api_Version.mk 0 0 0 []) 0 [])).Note) fun v_146 =>
       chk (0≤k_4∧k_4 < (o0_6.length:Int)) <|
       letv ((o0_6.getD k_4.toNat (api_Record.mk 0 0 [] (api_Version.mk 0 0 0 []) (api_Version.mk 0 0 0 []) 0 [])).Time) fun v_147 =>
       letv ((o0_6.getD k_4.toNat (api_Record.mk 0 0 [] (api_Version.mk 0 0 0 []) (api_Version.mk 0 0 0 []) 0 [])).Kind) fun v_148 =>
       letv ((o0_6.getD k_4.toNat (api_Record.mk 0 0 [] (api_Version.mk 0 0 0 []) (api_Version.mk 0 0 0 []) 0 [])).Pack) fun v_149 =>
       letv (((o0_6.getD k_4.toNat (api_Record.mk 0 0 [] (api_Version.mk 0 0 0 []) (api_Version.mk 0 0 0 []) 0 [])).From).Major) fun v_150 =>
       letv (((o0_6.getD k_4.toNat (api_Record.mk 0 0 [] (api_Version.mk 0 0 0 []) (api_Version.mk 0 0 0 []) 0 [])).From).Minor) fun v_151 =>
       letv (((o0_6.getD k_4.toNat (api_Record.mk 0 0 [] (api_Version.mk 0 0 0 []) (api_Version.mk 0 0 0 []) 0 [])).From).Patch) fun v_152 =>
       letv (((o0_6.getD k_4.toNat (api_Record.mk 0 0 [] (api_Version.mk 0 0 0 []) (api_Version.mk 0 0 0 []) 0 [])).From).Early) fun v_153 =>
       letv (((o0_6.getD k_4.toNat (api_Record.mk 0 0 [] (api_Version.mk 0 0 0 []) (api_Version.mk 0 0 0 []) 0 [])).To).Major) fun v_154 =>
       letv (((o0_6.getD k_4.toNat (api_Record.mk 0 0 [] (api_Version.mk 0 0 0 []) (api_Version.mk 0 0 0 []) 0 [])).To).Minor) fun v_155 =>
       letv (((o0_6.getD k_4.toNat (api_Record.mk 0 0 [] (api_Version.mk 0 0 0 []) (api_Version.mk 0 0 0 []) 0 [])).To).Patch) fun v_156 =>
       letv (((o0_6.getD k_4.toNat (api_Record.mk 0 0 [] (api_Version.mk 0 0 0 []) (api_Version.mk 0 0 0 []) 0 [])).To).Early) fun v_157 =>
       letv ((o0_6.getD k_4.toNat (api_Record.mk 0 0 [] (api_Version.mk 0 0 0 []) (api_Version.mk 0 0 0 []) 0 [])).Result) fun v_158 =>
       letv ((o0_6.getD k_4.toNat (api_Record.mk 0 0 [] (api_Version.mk 0 0 0 []) (api_Version.mk 0 0 0 []) 0 [])).Note) fun v_159 =>
       chk (0≤k_4∧k_4 < (o0_6.length:Int)) <|
       letv (List.set o0_6 k_4.toNat (api_Record.mk v_134 v_135 v_136 (api_Version.mk v_137 v_138 v_139 v_140) (api_Version.mk v_141 v_142 v_143 v_144) v_145 v_146)) fun v_28 =>
       chk (0≤IntKind.i64.wrap (k_4+1)∧IntKind.i64.wrap (k_4+1) < (v_28.length:Int)) <|
       letv (List.set v_28 ((IntKind.i64.wrap (k_4+1)).toNat) (api_Record.mk v_147 v_148 v_149 (api_Version.mk v_150 v_151 v_152 v_153) (api_Version.mk v_154 v_155 v_156 v_157) v_158 v_159)) fun v_160 =>
       nx_132 (IntKind.i64.wrap (k_4+1),v_160)
      else
      k_133 (k_4,o0_6)) (a_9,o0_1) (fun s=>match s with
     | (k_4,o0_6) =>
      k_131 o0_6)) fun k_161 =>
   loopN zc4 (fun s nx_29 k_162 =>
    match s with
    | (i_16,j_19) =>
     bif decide (i_16 < j_19) then
      letv (IntKind.i64.wrap (Int.fdiv (IntKind.u64.wrap (IntKind.i64.wrap (i_16+j_19))) (2 ^ (shI .u64 1)))) fun v_11 =>
      chk (0≤v_11∧v_11 < (o0_1.length:Int)) <|
      letv ((o0_1.getD v_11.toNat (api_Record.mk 0 0 [] (api_Version.mk 0 0 0 []) (api_Version.mk 0 0 0 []) 0 [])).Time) fun v_163 =>
      letv ((o0_1.getD v_11.toNat (api_Record.mk 0 0 [] (api_Version.mk 0 0 0 []) (api_Version.mk 0 0 0 []) 0 [])).Kind) fun v_164 =>
      letv ((o0_1.getD v_11.toNat (api_Record.mk 0 0 [] (api_Version.mk 0 0 0 []) (api_Version.mk 0 0 0 []) 0 [])).Pack) fun v_165 =>
      letv (((o0_1.getD v_11.toNat (api_Record.mk 0 0 [] (api_Version.mk 0 0 0 []) (api_Version.mk 0 0 0 []) 0 [])).From).Major) fun v_166 =>
      letv (((o0_1.getD v_11.toNat (api_Record.mk 0 0 [] (api_Version.mk 0 0 0 []) (api_Version.mk 0 0 0 []) 0 [])).From).Minor) fun v_167 =>
      letv (((o0_1.getD v_11.toNat (api_Record.mk 0 0 [] (api_Version.mk 0 0 0 []) (api_Version.mk 0 0 0 []) 0 [])).From).Patch) fun v_168 =>
      letv (((o0_1.getD v_11.toNat (api_Record.mk 0 0 [] (api_Version.mk 0 0 0 []) (api_Version.mk 0 0 0 []) 0 [])).From).Early) fun v_169 =>
      letv (((o0_1.getD v_11.toNat (api_Record.mk 0 0 [] (api_Version.mk 0 0 0 []) (api_Version.mk 0 0 0 []) 0 [])).To).Major) fun v_170 =>
      letv (((o0_1.getD v_11.toNat (api_Record.mk 0 0 [] (api_Version.mk 0 0 0 []) (api_Version.mk 0 0 0 []) 0 [])).To).Minor) fun v_171 =>
      letv (((o0_1.getD v_11.toNat (api_Record.mk 0 0 [] (api_Version.mk 0 0 0 []) (api_Version.mk 0 0 0 []) 0 [])).To).Patch) fun v_172 =>
      letv (((o0_1.getD v_11.toNat (api_Record.mk 0 0 [] (api_Version.mk 0 0 0 []) (api_Version.mk 0 0 0 []) 0 [])).To).Early) fun v_173 =>
      letv ((o0_1.getD v_11.toNat (api_Record.mk 0 0 [] (api_Version.mk 0 0 0 []) (api_Version.mk 0 0 0 []) 0 [])).Result) fun v_174 =>
      letv ((o0_1.getD v_11.toNat (api_Record.mk 0 0 [] (api_Version.mk 0 0 0 []) (api_Version.mk 0 0 0 []) 0 [])).Note) fun v_175 =>
      chk (0≤a_9∧a_9 < (o0_1.length:Int)) <|
      letv ((o0_1.getD a_9.toNat (api_Record.mk 0 0 [] (api_Version.mk 0 0 0 []) (api_Version.mk 0 0 0 []) 0 [])).Time) fun v_176 =>
      letv ((o0_1.getD a_9.toNat (api_Record.mk 0 0 [] (api_Version.mk 0 0 0 []) (api_Version.mk 0 0 0 []) 0 [])).Kind) fun v_177 =>
      letv ((o0_1.getD a_9.toNat (api_Record.mk 0 0 [] (api_Version.mk 0 0 0 []) (api_Version.mk 0 0 0 []) 0 [])).Pack) fun v_178 =>
      letv (((o0_1.getD a_9.toNat (api_Record.mk 0 0 [] (api_Version.mk 0 0 0 []) (api_Version.mk 0 0 0 []) 0 [])).From).Major) fun v_179 =>
      letv (((o0_1.getD a_9.toNat (api_Record.mk 0 0 [] (api_Version.mk 0 0 0 []) (api_Version.mk 0 0 0 []) 0 [])).From).Minor) fun v_180 =>
      letv (((o0_1.getD a_9.toNat (api_Record.mk 0 0 [] (api_Version.mk 0 0 0 []) (api_Version.mk 0 0 0 []) 0 [])).From).Patch) fun v_181 =>
      letv (((o0_1.getD a_9.toNat (api_Record.mk 0 0 [] (api_Version.mk 0 0 0 []) (api_Version.mk 0 0 0 []) 0 [])).From).Early) fun v_182 =>
      letv (((o0_1.getD a_9.toNat (api_Record.mk 0 0 [] (api_Version.mk 0 0 0 []) (api_Version.mk 0 0 0 []) 0 [])).To).Major) fun v_183 =>
      letv (((o0_1.getD a_9.toNat (api_Record.mk 0 0 [] (api_Version.mk 0 0 0 []) (api_Version.mk 0 0 0 []) 0 [])).To).Minor) fun v_184 =>
      letv (((o0_1.getD a_9.toNat (api_Record.mk 0 0 [] (api_Version.mk 0 0 0 []) (api_Version.mk 0 0 0 []) 0 [])).To).Patch) fun v_185 =>
      letv (((o0_1.getD a_9.toNat (api_Record.mk 0 0 [] (api_Version.mk 0 0 0 []) (api_Version.mk 0 0 0 []) 0 [])).To).Early) fun v_186 =>
      letv ((o0_1.getD a_9.toNat (api_Record.mk 0 0 [] (api_Version.mk 0 0 0 []) (api_Version.mk 0 0 0 []) 0 [])).Result) fun v_187 =>
      letv ((o0_1.getD a_9.toNat (api_Record.mk 0 0 [] (api_Version.mk 0 0 0 []) (api_Version.mk 0 0 0 []) 0 [])).Note) fun v_188 =>
      call (zbq (api_Record.mk v_163 v_164 v_165 (api_Version.mk v_166 v_167 v_168 v_169) (api_Version.mk v_170 v_171 v_172 v_173) v_174 v_175) (api_Record.mk v_176 v_177 v_178 (api_Version.mk v_179 v_180 v_181 v_182) (api_Version.mk v_183 v_184 v_185 v_186) v_187 v_188)) fun r_189 =>
      bif decide (r_189 < 0) then
       nx_29 (IntKind.i64.wrap (v_11+1),j_19)
      else
      nx_29 (i_16,v_11)
     else
     k_162 (i_16,j_19)) (m_2,b_13) (fun s=>match s with
    | (i_16,j_19) =>
     k_161 i_16)
  else
  k_128 ()
noncomputable def zY (n_2:Int) (o0_13:List api_Record):Option (List api_Record) :=
 jp (S:=Int × List api_Record) (fun s=>match s with
  | (a_14,o0_15) =>
   call (zq a_14 n_2 o0_15) fun r_16 =>
   loopN zc4 (fun s nx_11 k_17 =>
    match s with
    | (blockSize_1,o0_6) =>
     bif decide (blockSize_1 < n_2) then
      jp (S:=Int × List api_Record) (fun s=>match s with
       | (a_10,o0_12) =>
        bif decide ((IntKind.i64.wrap (a_10+blockSize_1)) < n_2) then
         call (zj zc4 a_10 (IntKind.i64.wrap (a_10+blockSize_1)) n_2 o0_12) fun r_18 =>
         nx_11 (IntKind.i64.wrap (blockSize_1 * 2),r_18)
        else
        nx_11 (IntKind.i64.wrap (blockSize_1 * 2),o0_12)) fun k_19 =>
      loopN zc4 (fun s nx_20 k_21 =>
       match s with
       | (a_5,b_3,o0_7) =>
        bif decide (b_3≤n_2) then
         call (zj zc4 a_5 (IntKind.i64.wrap (a_5+blockSize_1)) b_3 o0_7) fun r_22 =>
         nx_20 (b_3,IntKind.i64.wrap (b_3+(IntKind.i64.wrap (2 * blockSize_1))),r_22)
        else
        k_21 (a_5,b_3,o0_7)) (0,IntKind.i64.wrap (2 * blockSize_1),o0_6) (fun s=>match s with
       | (a_5,b_3,o0_7) =>
        k_19 (a_5,o0_7))
     else
     k_17 (blockSize_1,o0_6)) (20,r_16) (fun s=>match s with
    | (blockSize_1,o0_6) =>
     some o0_6)) fun k_23 =>
 loopN zc4 (fun s nx_24 k_25 =>
  match s with
  | (a_8,b_4,o0_9) =>
   bif decide (b_4≤n_2) then
    call (zq a_8 b_4 o0_9) fun r_26 =>
    nx_24 (b_4,IntKind.i64.wrap (b_4+20),r_26)
   else
   k_25 (a_8,b_4,o0_9)) (0,20,o0_13) (fun s=>match s with
  | (a_8,b_4,o0_9) =>
   k_23 (a_8,o0_9))
noncomputable def zt (o0_1:List api_Record):Option (List api_Record) :=
 call (zY (o0_1.length:Int) o0_1) fun r_2 =>
 some r_2
noncomputable def zd0 (l_1:List api_Record) (raw_8:Bool):Option (List api_Record) :=
 bif raw_8 then
  some l_1
 else
 chk (0≤min (l_1.length:Int) 60∧min (l_1.length:Int) 60≤(l_1.length:Int)) <|
 call (zx (List.take ((min (l_1.length:Int) 60).toNat) l_1)) fun r_9 =>
 call (zt r_9) fun r_2 =>
 jp (S:=List api_Record) (fun o1_10 =>
  some o1_10) fun k_11 =>
 forC r_2.length 0 (fun i_4 o1_3 nx_6 k_13 =>
  call (zaT (r_2.getD i_4 (api_Record.mk 0 0 [] (api_Version.mk 0 0 0 []) (api_Version.mk 0 0 0 []) 0 []))) fun r_5 =>
  callG (decide (r_5=0)) (zx o1_3) [] fun r_7 =>
  chk ((decide (r_5=0))=true→(r_7++[(r_2.getD i_4 (api_Record.mk 0 0 [] (api_Version.mk 0 0 0 []) (api_Version.mk 0 0 0 []) 0 []))]).length≤274877906944) <|
  callG (decide (r_5=0)) (zca (r_7++[(r_2.getD i_4 (api_Record.mk 0 0 [] (api_Version.mk 0 0 0 []) (api_Version.mk 0 0 0 []) 0 []))])) 0 fun r_12 =>
  bif ((decide (r_5=0)) && (decide (r_12=0))) then
   chk ((o1_3++[(r_2.getD i_4 (api_Record.mk 0 0 [] (api_Version.mk 0 0 0 []) (api_Version.mk 0 0 0 []) 0 []))]).length≤274877906944) <|
   nx_6 (o1_3++[(r_2.getD i_4 (api_Record.mk 0 0 [] (api_Version.mk 0 0 0 []) (api_Version.mk 0 0 0 []) 0 []))])
  else
  nx_6 o1_3) [] (fun o1_3 =>
  k_11 o1_3)
noncomputable def zdG (text_2:Str):Option (List Str × Int) :=
 call (zae text_2 ([10]:Str)) fun r_1 =>
 idx r_1 (IntKind.i64.wrap ((r_1.length:Int) - 1)) fun s_3 =>
 bif decide (s_3=[]) then
  chk (0≤IntKind.i64.wrap ((r_1.length:Int) - 1)∧IntKind.i64.wrap ((r_1.length:Int) - 1)≤(r_1.length:Int)) <|
  some (List.take ((IntKind.i64.wrap ((r_1.length:Int) - 1)).toNat) r_1,(-1))
 else
 some (r_1,IntKind.i64.wrap ((r_1.length:Int) - 1))
noncomputable def zan (sep_6:Str):Option (Int × Int) :=
 jp (S:=Int) (fun hash_8 =>
  jp (S:=Int) (fun pow_9 =>
   some (hash_8,pow_9)) fun k_10 =>
  loopN zc4 (fun s nx_7 k_11 =>
   match s with
   | (pow_3,sq_1,i_2) =>
    bif decide (0 < i_2) then
     bif !decide ((zaz .and .i64 i_2 1)=0) then
      nx_7 (IntKind.u32.wrap (pow_3 * sq_1),IntKind.u32.wrap (sq_1 * sq_1),Int.fdiv i_2 (2 ^ (shI .i64 1)))
     else
     nx_7 (pow_3,IntKind.u32.wrap (sq_1 * sq_1),Int.fdiv i_2 (2 ^ (shI .i64 1)))
    else
    k_11 (pow_3,sq_1,i_2)) (1,16777619,(sep_6.length:Int)) (fun s=>match s with
   | (pow_3,sq_1,i_2) =>
    k_10 pow_3)) fun k_12 =>
 loopN zc4 (fun s nx_13 k_14 =>
  match s with
  | (hash_5,i_4) =>
   bif decide (0≤i_4) then
    zd1 sep_6 i_4 fun c_15 =>
    nx_13 (IntKind.u32.wrap ((IntKind.u32.wrap (hash_5 * 16777619))+(IntKind.u32.wrap c_15)),IntKind.i64.wrap (i_4 - 1))
   else
   k_14 (hash_5,i_4)) (0,IntKind.i64.wrap ((sep_6.length:Int) - 1)) (fun s=>match s with
  | (hash_5,i_4) =>
   k_12 hash_5)
noncomputable def zW (s_2:Str) (sep_3:Str):Option Int :=
 call (zan sep_3) fun r_4 =>
 jp (S:=Int) (fun h_8 =>
  chk ((decide (h_8=r_4.1))=true→(0≤IntKind.i64.wrap ((s_2.length:Int) - (sep_3.length:Int))∧IntKind.i64.wrap ((s_2.length:Int) - (sep_3.length:Int))≤(s_2.length:Int))) <|
  bif ((decide (h_8=r_4.1)) && (decide ((List.drop ((IntKind.i64.wrap ((s_2.length:Int) - (sep_3.length:Int))).toNat) s_2)=sep_3))) then
   some (IntKind.i64.wrap ((s_2.length:Int) - (sep_3.length:Int)))
  else
  jp (S:=Unit) (fun _ =>
   some (-1)) fun k_11 =>
  loopN zc4 (fun s nx_12 k_13 =>
   match s with
   | (h_5,i_1) =>
    bif decide (0≤i_1) then
     zd1 s_2 i_1 fun c_9 =>
     zd1 s_2 (IntKind.i64.wrap (i_1+(sep_3.length:Int))) fun c_10 =>
     chk ((decide ((IntKind.u32.wrap ((IntKind.u32.wrap ((IntKind.u32.wrap (h_5 * 16777619))+(IntKind.u32.wrap c_9))) - (IntKind.u32.wrap (r_4.2 * (IntKind.u32.wrap c_10)))))=r_4.1))=true→(0≤i_1∧i_1≤(s_2.length:Int)∧0≤IntKind.i64.wrap (i_1+(sep_3.length:Int))∧IntKind.i64.wrap (i_1+(sep_3.length:Int))≤(s_2.length:Int)∧i_1≤IntKind.i64.wrap (i_1+(sep_3.length:Int)))) <|
     bif ((decide ((IntKind.u32.wrap ((IntKind.u32.wrap ((IntKind.u32.wrap (h_5 * 16777619))+(IntKind.u32.wrap c_9))) - (IntKind.u32.wrap (r_4.2 * (IntKind.u32.wrap c_10)))))=r_4.1)) && (decide ((List.take ((IntKind.i64.wrap (i_1+(sep_3.length:Int))).toNat - i_1.toNat) (List.drop i_1.toNat s_2))=sep_3))) then
      some i_1
     else
     nx_12 (IntKind.u32.wrap ((IntKind.u32.wrap ((IntKind.u32.wrap (h_5 * 16777619))+(IntKind.u32.wrap c_9))) - (IntKind.u32.wrap (r_4.2 * (IntKind.u32.wrap c_10)))),IntKind.i64.wrap (i_1 - 1))
    else
    k_13 (h_5,i_1)) (h_8,IntKind.i64.wrap ((IntKind.i64.wrap ((s_2.length:Int) - (sep_3.length:Int))) - 1)) (fun s=>match s with
   | (h_5,i_1) =>
    k_11 ())) fun k_14 =>
 loopN zc4 (fun s nx_15 k_16 =>
  match s with
  | (h_7,i_6) =>
   bif decide ((IntKind.i64.wrap ((s_2.length:Int) - (sep_3.length:Int)))≤i_6) then
    zd1 s_2 i_6 fun c_17 =>
    nx_15 (IntKind.u32.wrap ((IntKind.u32.wrap (h_7 * 16777619))+(IntKind.u32.wrap c_17)),IntKind.i64.wrap (i_6 - 1))
   else
   k_16 (h_7,i_6)) (0,IntKind.i64.wrap ((s_2.length:Int) - 1)) (fun s=>match s with
  | (h_7,i_6) =>
   k_14 h_7)
noncomputable def zbf (s_2:Str) (substr_1:Str):Option Int :=
 bif decide ((substr_1.length:Int)=0) then
  some (s_2.length:Int)
 else
 bif decide ((substr_1.length:Int)=1) then
  zd1 substr_1 0 fun c_3 =>
  call (zz s_2 c_3) fun r_4 =>
  some r_4
 else
 bif decide ((substr_1.length:Int)=(s_2.length:Int)) then
  bif decide (substr_1=s_2) then
   some 0
  else
  some (-1)
 else
 bif decide ((s_2.length:Int) < (substr_1.length:Int)) then
  some (-1)
 else
 call (zW s_2 substr_1) fun r_5 =>
 some r_5
noncomputable def zbB (e_1:Int):Option (api_Record × Int) :=
 some ((api_Record.mk 0 0 [] (api_Version.mk 0 0 0 []) (api_Version.mk 0 0 0 []) 0 []),e_1)
noncomputable def zaq (s_2:Str):Option Int :=
 call (zaw s_2) fun r_1 =>
 callG (!(!r_1.2)) (strconv_Itoa r_1.1) [] fun r_3 =>
 bif ((((!r_1.2) || (!decide (r_3=s_2))) || (decide (r_1.1 < 0))) || (decide (18 < (s_2.length:Int)))) then
  some (-1)
 else
 some r_1.1
noncomputable def zP (s_1:List Str) (v_2:Str):Option Int :=
 jp (S:=Unit) (fun _ =>
  some (-1)) fun k_3 =>
 forL s_1 0 (fun i_4 s_5 s nx_6 k_7 =>
  bif decide (v_2=s_5) then
   some (i_4:Int)
  else
  nx_6 ()) () (fun _ =>
  k_3 ())
noncomputable def zdY (s_2:Str):Option (Str × Int) :=
 chk ((!(decide ((s_2.length:Int) < 2)))=true→(0≤0∧0 < (s_2.length:Int))) <|
 chk ((!((decide ((s_2.length:Int) < 2)) || (!decide (((s_2.getD 0 0).toNat:Int)=34))))=true→(0≤IntKind.i64.wrap ((s_2.length:Int) - 1)∧IntKind.i64.wrap ((s_2.length:Int) - 1) < (s_2.length:Int))) <|
 bif (((decide ((s_2.length:Int) < 2)) || (!decide (((s_2.getD 0 0).toNat:Int)=34))) || (!decide (((s_2.getD ((IntKind.i64.wrap ((s_2.length:Int) - 1)).toNat) 0).toNat:Int)=34))) then
  some ([],8)
 else
 jp (S:=List Int) (fun o0_6 =>
  call (zhB (Go.Vc.strOf o0_6)) fun r_10 =>
  bif !decide (r_10=s_2) then
   some ([],8)
  else
  some (Go.Vc.strOf o0_6,0)) fun k_11 =>
 chk (0≤1∧1≤(s_2.length:Int)∧0≤IntKind.i64.wrap ((s_2.length:Int) - 1)∧IntKind.i64.wrap ((s_2.length:Int) - 1)≤(s_2.length:Int)∧1≤IntKind.i64.wrap ((s_2.length:Int) - 1)) <|
 loopN zc4 (fun s nx_4 k_12 =>
  match s with
  | (b_1,o0_3) =>
   bif !decide (b_1=[]) then
    zd1 b_1 0 fun c_5 =>
    bif !decide (c_5=92) then
     chk ((o0_3++[c_5]).length≤274877906944) <|
     chk (0≤1∧1≤(b_1.length:Int)) <|
     nx_4 (List.drop 1 b_1,o0_3++[c_5])
    else
    chk ((decide (2≤(b_1.length:Int)))=true→(0≤1∧1 < (b_1.length:Int))) <|
    chk (((decide (2≤(b_1.length:Int))) && (!(decide (((b_1.getD 1 0).toNat:Int)=34))))=true→(0≤1∧1 < (b_1.length:Int))) <|
    bif ((decide (2≤(b_1.length:Int))) && ((decide (((b_1.getD 1 0).toNat:Int)=34)) || (decide (((b_1.getD 1 0).toNat:Int)=92)))) then
     zd1 b_1 1 fun c_7 =>
     chk ((o0_3++[c_7]).length≤274877906944) <|
     chk (0≤2∧2≤(b_1.length:Int)) <|
     nx_4 (List.drop 2 b_1,o0_3++[c_7])
    else
    chk ((decide (2≤(b_1.length:Int)))=true→(0≤1∧1 < (b_1.length:Int))) <|
    bif ((decide (2≤(b_1.length:Int))) && (decide (((b_1.getD 1 0).toNat:Int)=110))) then
     chk ((o0_3++[10]).length≤274877906944) <|
     chk (0≤2∧2≤(b_1.length:Int)) <|
     nx_4 (List.drop 2 b_1,o0_3++[10])
    else
    chk ((decide (4≤(b_1.length:Int)))=true→(0≤1∧1 < (b_1.length:Int))) <|
    bif ((decide (4≤(b_1.length:Int))) && (decide (((b_1.getD 1 0).toNat:Int)=120))) then
     chk (0≤2∧2≤(b_1.length:Int)∧0≤3∧3≤(b_1.length:Int)∧2≤3) <|
     call (zaZ ([48,49,50,51,52,53,54,55,56,57,97,98,99,100,101,102]:Str) (List.take (3 - 2) (List.drop 2 b_1))) fun r_8 =>
     chk (0≤3∧3≤(b_1.length:Int)∧0≤4∧4≤(b_1.length:Int)∧3≤4) <|
     call (zaZ ([48,49,50,51,52,53,54,55,56,57,97,98,99,100,101,102]:Str) (List.take (4 - 3) (List.drop 3 b_1))) fun r_9 =>
     chk ((o0_3++[IntKind.u8.wrap (IntKind.i64.wrap ((IntKind.i64.wrap (r_8 * 16))+r_9))]).length≤274877906944) <|
     chk (0≤4∧4≤(b_1.length:Int)) <|
     nx_4 (List.drop 4 b_1,o0_3++[IntKind.u8.wrap (IntKind.i64.wrap ((IntKind.i64.wrap (r_8 * 16))+r_9))])
    else
    some ([],8)
   else
   k_12 (b_1,o0_3)) (List.take ((IntKind.i64.wrap ((s_2.length:Int) - 1)).toNat - 1) (List.drop 1 s_2),[]) (fun s=>match s with
  | (b_1,o0_3) =>
   k_11 o0_3)
noncomputable def zc6 (s_1:Str) (most_2:Int):Option (Int × Bool) :=
 callG (!((decide (s_1=[])) || (decide (most_2 < (s_1.length:Int))))) (R_Of s_1 ([48,49,50,51,52,53,54,55,56,57]:Str)) false fun r_3 =>
 chk (((!(((decide (s_1=[])) || (decide (most_2 < (s_1.length:Int)))) || (!r_3))) && (decide (1 < (s_1.length:Int))))=true→(0≤0∧0 < (s_1.length:Int))) <|
 bif ((((decide (s_1=[])) || (decide (most_2 < (s_1.length:Int)))) || (!r_3)) || ((decide (1 < (s_1.length:Int))) && (decide (((s_1.getD 0 0).toNat:Int)=48)))) then
  some (0,false)
 else
 call (zaw s_1) fun r_4 =>
 some (r_4.1,r_4.2)
noncomputable def zV (s_10:Str):Option (api_Version × Int) :=
 call (zcj s_10 ([45]:Str)) fun r_1 =>
 call (zae r_1.1 ([46]:Str)) fun r_2 =>
 bif ((!decide ((r_2.length:Int)=3)) || (r_1.2.2 && (decide (r_1.2.1=[])))) then
  some ((api_Version.mk 0 0 0 []),8)
 else
 jp (S:=Int × Int × Int) (fun s=>match s with
  | (o1_0_3,o1_1_4,o1_2_5) =>
   call (zba [(api_Version.mk o1_0_3 o1_1_4 o1_2_5 r_1.2.1)]) fun r_6 =>
   bif !decide (r_6=0) then
    some ((api_Version.mk 0 0 0 []),r_6)
   else
   some ((api_Version.mk o1_0_3 o1_1_4 o1_2_5 r_1.2.1),0)) fun k_11 =>
 idx r_2 0 fun s_12 =>
 call (zc6 s_12 9) fun r_7 =>
 bif !r_7.2 then
  some ((api_Version.mk 0 0 0 []),8)
 else
 idx r_2 1 fun s_13 =>
 call (zc6 s_13 9) fun r_8 =>
 bif !r_8.2 then
  some ((api_Version.mk 0 0 0 []),8)
 else
 idx r_2 2 fun s_14 =>
 call (zc6 s_14 9) fun r_9 =>
 bif !r_9.2 then
  some ((api_Version.mk 0 0 0 []),8)
 else
 k_11 (r_7.1,r_8.1,r_9.1)
noncomputable def zbR (s_28:Str):Option (api_Record × Int) :=
 call (zby s_28 ([32]:Str) 7) fun r_5 =>
 bif !decide ((r_5.length:Int)=7) then
  call (zbB 8) fun r_11 =>
  some (r_11.1,r_11.2)
 else
 idx r_5 0 fun s_29 =>
 call (zaq s_29) fun r_7 =>
 idx r_5 1 fun s_30 =>
 idx r_5 2 fun s_12 =>
 call (zdy) fun r_31 =>
 call (zP r_31 s_30) fun r_8 =>
 idx r_5 5 fun s_32 =>
 call (zaq s_32) fun r_9 =>
 idx r_5 6 fun s_33 =>
 call (zdY s_33) fun r_10 =>
 jp (S:=Bool × Int × Int × Int × Str × Int × Int × Int × Str) (fun s=>match s with
  | (ok_34,o1_3_13,o1_4_14,o1_5_15,o1_6_16,o1_7_17,o1_8_18,o1_9_19,o1_10_20) =>
   bif !ok_34 then
    call (zbB 8) fun r_21 =>
    some (r_21.1,r_21.2)
   else
   call (zaT (api_Record.mk r_7 r_8 s_12 (api_Version.mk o1_3_13 o1_4_14 o1_5_15 o1_6_16) (api_Version.mk o1_7_17 o1_8_18 o1_9_19 o1_10_20) r_9 r_10.1)) fun r_22 =>
   bif !decide (r_22=0) then
    call (zbB r_22) fun r_23 =>
    some (r_23.1,r_23.2)
   else
   some ((api_Record.mk r_7 r_8 s_12 (api_Version.mk o1_3_13 o1_4_14 o1_5_15 o1_6_16) (api_Version.mk o1_7_17 o1_8_18 o1_9_19 o1_10_20) r_9 r_10.1),0)) fun k_6 =>
 idx r_5 3 fun s_24 =>
 bif decide (s_24=([45]:Str)) then
  idx r_5 4 fun s_25 =>
  bif decide (s_25=([45]:Str)) then
   k_6 (((((decide (0≤r_7)) && (decide (0 < r_8))) && (decide (0≤r_9))) && (decide (r_10.2=0))),0,0,0,[],0,0,0,[])
  else
  call (zV s_25) fun r_2 =>
  bif ((!decide (r_2.2=0)) || ((decide (r_2.1.Major=0)) && ((decide (r_2.1.Minor=0)) && ((decide (r_2.1.Patch=0)) && (decide (r_2.1.Early=[])))))) then
   k_6 (false,0,0,0,[],r_2.1.Major,r_2.1.Minor,r_2.1.Patch,r_2.1.Early)
  else
  k_6 (((((decide (0≤r_7)) && (decide (0 < r_8))) && (decide (0≤r_9))) && (decide (r_10.2=0))),0,0,0,[],r_2.1.Major,r_2.1.Minor,r_2.1.Patch,r_2.1.Early)
 else
 call (zV s_24) fun r_1 =>
 bif ((!decide (r_1.2=0)) || ((decide (r_1.1.Major=0)) && ((decide (r_1.1.Minor=0)) && ((decide (r_1.1.Patch=0)) && (decide (r_1.1.Early=[])))))) then
  idx r_5 4 fun s_26 =>
  bif decide (s_26=([45]:Str)) then
   k_6 (false,r_1.1.Major,r_1.1.Minor,r_1.1.Patch,r_1.1.Early,0,0,0,[])
  else
  call (zV s_26) fun r_3 =>
  bif ((!decide (r_3.2=0)) || ((decide (r_3.1.Major=0)) && ((decide (r_3.1.Minor=0)) && ((decide (r_3.1.Patch=0)) && (decide (r_3.1.Early=[])))))) then
   k_6 (false,r_1.1.Major,r_1.1.Minor,r_1.1.Patch,r_1.1.Early,r_3.1.Major,r_3.1.Minor,r_3.1.Patch,r_3.1.Early)
  else
  k_6 (false,r_1.1.Major,r_1.1.Minor,r_1.1.Patch,r_1.1.Early,r_3.1.Major,r_3.1.Minor,r_3.1.Patch,r_3.1.Early)
 else
 idx r_5 4 fun s_27 =>
 bif decide (s_27=([45]:Str)) then
  k_6 (((((decide (0≤r_7)) && (decide (0 < r_8))) && (decide (0≤r_9))) && (decide (r_10.2=0))),r_1.1.Major,r_1.1.Minor,r_1.1.Patch,r_1.1.Early,0,0,0,[])
 else
 call (zV s_27) fun r_4 =>
 bif ((!decide (r_4.2=0)) || ((decide (r_4.1.Major=0)) && ((decide (r_4.1.Minor=0)) && ((decide (r_4.1.Patch=0)) && (decide (r_4.1.Early=[])))))) then
  k_6 (false,r_1.1.Major,r_1.1.Minor,r_1.1.Patch,r_1.1.Early,r_4.1.Major,r_4.1.Minor,r_4.1.Patch,r_4.1.Early)
 else
 k_6 (((((decide (0≤r_7)) && (decide (0 < r_8))) && (decide (0≤r_9))) && (decide (r_10.2=0))),r_1.1.Major,r_1.1.Minor,r_1.1.Patch,r_1.1.Early,r_4.1.Major,r_4.1.Minor,r_4.1.Patch,r_4.1.Early)
noncomputable def zeF (text_11:Str):Option (List api_Record) :=
 call (zdG text_11) fun r_9 =>
 jp (S:=(List (Str × api_Had)) × List api_Record) (fun s=>match s with
  | (m0_16,o1_12) =>
   some o1_12) fun k_13 =>
 forL r_9.1 0 (fun i_14 s_3 s nx_15 k_10 =>
  match s with
  | (sum_5,m0_6,o1_1) =>
   call (zbf s_3 ([32]:Str)) fun r_2 =>
   bif (((decide ((i_14:Int)=r_9.2)) || (decide (r_2 < 0))) || (decide ((o1_1.length:Int)=5000))) then
    k_10 (sum_5,m0_6,o1_1)
   else
   chk (0≤r_2∧r_2≤(s_3.length:Int)) <|
   call (zbR (List.take r_2.toNat s_3)) fun r_4 =>
   chk ((!(!decide (r_4.2=0)))=true→(0≤IntKind.i64.wrap (r_2+1)∧IntKind.i64.wrap (r_2+1)≤(s_3.length:Int))) <|
   chk ((!(!decide (r_4.2=0)))=true→(0≤r_2∧r_2≤(s_3.length:Int))) <|
   chk ((!(!decide (r_4.2=0)))=true→(sum_5++(List.take r_2.toNat s_3)).length≤274877906944) <|
   callG (!(!decide (r_4.2=0))) (zhz (sum_5++(List.take r_2.toNat s_3))) [] fun r_7 =>
   chk (((!((!decide (r_4.2=0)) || (!decide ((List.drop ((IntKind.i64.wrap (r_2+1)).toNat) s_3)=r_7)))) && (decide (0 < (o1_1.length:Int))))=true→(0≤IntKind.i64.wrap ((o1_1.length:Int) - 1)∧IntKind.i64.wrap ((o1_1.length:Int) - 1) < (o1_1.length:Int))) <|
   callG (!(((!decide (r_4.2=0)) || (!decide ((List.drop ((IntKind.i64.wrap (r_2+1)).toNat) s_3)=r_7))) || ((decide (0 < (o1_1.length:Int))) && (decide (r_4.1.Time < ((o1_1.getD ((IntKind.i64.wrap ((o1_1.length:Int) - 1)).toNat) (api_Record.mk 0 0 [] (api_Version.mk 0 0 0 []) (api_Version.mk 0 0 0 []) 0 [])).Time)))))) (zdH r_4.1 m0_6) (false,m0_6) fun r_8 =>
   bif ((((!decide (r_4.2=0)) || (!decide ((List.drop ((IntKind.i64.wrap (r_2+1)).toNat) s_3)=r_7))) || ((decide (0 < (o1_1.length:Int))) && (decide (r_4.1.Time < ((o1_1.getD ((IntKind.i64.wrap ((o1_1.length:Int) - 1)).toNat) (api_Record.mk 0 0 [] (api_Version.mk 0 0 0 []) (api_Version.mk 0 0 0 []) 0 [])).Time))))) || (!r_8.1)) then
    k_10 (sum_5,r_8.2,o1_1)
   else
   chk (0≤IntKind.i64.wrap (r_2+1)∧IntKind.i64.wrap (r_2+1)≤(s_3.length:Int)) <|
   chk ((o1_1++[r_4.1]).length≤274877906944) <|
   nx_15 (List.drop ((IntKind.i64.wrap (r_2+1)).toNat) s_3,r_8.2,o1_1++[r_4.1])) ([],[],[]) (fun s=>match s with
  | (sum_5,m0_6,o1_1) =>
   k_13 (m0_6,o1_1))
noncomputable def zcy (n:Int):Option Unit:=chk (0≤n∧n≤100000000) <| some ()
noncomputable def zH (slices_3:List (List api_Record)):Option (List api_Record) :=
 jp (S:=Int) (fun size_6 =>
  call (zcy size_6) fun r_12 =>
  jp (S:=List api_Record) (fun o0_7 =>
   some o0_7) fun k_8 =>
  forL slices_3 0 (fun i_13 l_4 o0_1 nx_9 k_14 =>
   chk ((o0_1++l_4).length≤274877906944) <|
   nx_9 (o0_1++l_4)) [] (fun o0_1 =>
   k_8 o0_1)) fun k_10 =>
 forL slices_3 0 (fun i_15 l_5 size_2 nx_11 k_16 =>
  bif decide ((IntKind.i64.wrap (size_2+(l_5.length:Int))) < 0) then
   none
  else
  nx_11 (IntKind.i64.wrap (size_2+(l_5.length:Int)))) 0 (fun size_2 =>
  k_10 size_2)
noncomputable def zeR (a_5:Str) (b_6:Str):Option (Int × Int) :=
 call (zfG a_5) fun r_2 =>
 bif !decide (r_2.2.1=0) then
  some (0,r_2.2.1)
 else
 call (zfG b_6) fun r_3 =>
 bif !decide (r_3.2.1=0) then
  some (0,r_3.2.1)
 else
 jp (S:=Int) (fun n_4 =>
  bif ((decide (n_4=(r_2.2.2.2.2.2.2.length:Int))) && (decide (n_4=(r_3.2.2.2.2.2.2.length:Int)))) then
   some ((-1),0)
  else
  some (n_4,0)) fun k_7 =>
 loopN zc4 (fun n_1 nx_8 k_9 =>
  chk ((decide (n_1 < (min (r_2.2.2.2.2.2.2.length:Int) (r_3.2.2.2.2.2.2.length:Int))))=true→(0≤n_1∧n_1 < (r_2.2.2.2.2.2.2.length:Int))) <|
  chk ((decide (n_1 < (min (r_2.2.2.2.2.2.2.length:Int) (r_3.2.2.2.2.2.2.length:Int))))=true→(0≤n_1∧n_1 < (r_3.2.2.2.2.2.2.length:Int))) <|
  bif ((decide (n_1 < (min (r_2.2.2.2.2.2.2.length:Int) (r_3.2.2.2.2.2.2.length:Int)))) && (decide ((r_2.2.2.2.2.2.2.getD n_1.toNat [])=(r_3.2.2.2.2.2.2.getD n_1.toNat [])))) then
   nx_8 (IntKind.i64.wrap (n_1+1))
  else
  k_9 n_1) 0 (fun n_1 =>
  k_7 n_1)
noncomputable def zde (a_14:List api_Record) (b_15:List api_Record) (n_8:Int) (at_16:Int) (by_17:Int):Option Bool :=
 call (zeH) fun r_18 =>
 bif !r_18 then
  some false
 else
 call (zd0 a_14 false) fun r_5 =>
 call (zd0 b_15 false) fun r_19 =>
 chk (0≤min (max n_8 0) (r_5.length:Int)∧min (max n_8 0) (r_5.length:Int)≤(r_5.length:Int)) <|
 call (zH [List.take ((min (max n_8 0) (r_5.length:Int)).toNat) r_5,r_19]) fun r_20 =>
 call (zd0 r_20 false) fun r_21 =>
 call (zeG r_5) fun r_9 =>
 call (zeG r_21) fun r_4 =>
 jp (S:=Str) (fun t_10 =>
  call (zeF r_9.1) fun r_2 =>
  call (zeF t_10) fun r_3 =>
  jp (S:=Int) (fun want_22 =>
   call (zeR r_9.1 t_10) fun r_11 =>
   some ((decide (r_11.2=0)) && (decide (r_11.1=want_22)))) fun k_23 =>
  loopN zc4 (fun s nx_24 k_12 =>
   match s with
   | (want_7,t80_1) =>
    bif decide (t80_1 < (max (r_2.length:Int) (r_3.length:Int))) then
     chk ((!((decide ((r_2.length:Int)≤t80_1)) || (decide ((r_3.length:Int)≤t80_1))))=true→(0≤t80_1∧t80_1 < (r_2.length:Int))) <|
     letv ((r_2.getD t80_1.toNat (api_Record.mk 0 0 [] (api_Version.mk 0 0 0 []) (api_Version.mk 0 0 0 []) 0 [])).Time) fun v_25 =>
     letv ((r_2.getD t80_1.toNat (api_Record.mk 0 0 [] (api_Version.mk 0 0 0 []) (api_Version.mk 0 0 0 []) 0 [])).Kind) fun v_26 =>
     letv ((r_2.getD t80_1.toNat (api_Record.mk 0 0 [] (api_Version.mk 0 0 0 []) (api_Version.mk 0 0 0 []) 0 [])).Pack) fun v_27 =>
     letv (((r_2.getD t80_1.toNat (api_Record.mk 0 0 [] (api_Version.mk 0 0 0 []) (api_Version.mk 0 0 0 []) 0 [])).From).Major) fun v_28 =>
     letv (((r_2.getD t80_1.toNat (api_Record.mk 0 0 [] (api_Version.mk 0 0 0 []) (api_Version.mk 0 0 0 []) 0 [])).From).Minor) fun v_29 =>
     letv (((r_2.getD t80_1.toNat (api_Record.mk 0 0 [] (api_Version.mk 0 0 0 []) (api_Version.mk 0 0 0 []) 0 [])).From).Patch) fun v_30 =>
     letv (((r_2.getD t80_1.toNat (api_Record.mk 0 0 [] (api_Version.mk 0 0 0 []) (api_Version.mk 0 0 0 []) 0 [])).From).Early) fun v_31 =>
     letv (((r_2.getD t80_1.toNat (api_Record.mk 0 0 [] (api_Version.mk 0 0 0 []) (api_Version.mk 0 0 0 []) 0 [])).To).Major) fun v_32 =>
     letv (((r_2.getD t80_1.toNat (api_Record.mk 0 0 [] (api_Version.mk 0 0 0 []) (api_Version.mk 0 0 0 []) 0 [])).To).Minor) fun v_33 =>
     letv (((r_2.getD t80_1.toNat (api_Record.mk 0 0 [] (api_Version.mk 0 0 0 []) (api_Version.mk 0 0 0 []) 0 [])).To).Patch) fun v_34 =>
     letv (((r_2.getD t80_1.toNat (api_Record.mk 0 0 [] (api_Version.mk 0 0 0 []) (api_Version.mk 0 0 0 []) 0 [])).To).Early) fun v_35 =>
     letv ((r_2.getD t80_1.toNat (api_Record.mk 0 0 [] (api_Version.mk 0 0 0 []) (api_Version.mk 0 0 0 []) 0 [])).Result) fun v_36 =>
     letv ((r_2.getD t80_1.toNat (api_Record.mk 0 0 [] (api_Version.mk 0 0 0 []) (api_Version.mk 0 0 0 []) 0 [])).Note) fun v_37 =>
     chk ((!((decide ((r_2.length:Int)≤t80_1)) || (decide ((r_3.length:Int)≤t80_1))))=true→(0≤t80_1∧t80_1 < (r_3.length:Int))) <|
     letv ((r_3.getD t80_1.toNat (api_Record.mk 0 0 [] (api_Version.mk 0 0 0 []) (api_Version.mk 0 0 0 []) 0 [])).Time) fun v_38 =>
     letv ((r_3.getD t80_1.toNat (api_Record.mk 0 0 [] (api_Version.mk 0 0 0 []) (api_Version.mk 0 0 0 []) 0 [])).Kind) fun v_39 =>
     letv ((r_3.getD t80_1.toNat (api_Record.mk 0 0 [] (api_Version.mk 0 0 0 []) (api_Version.mk 0 0 0 []) 0 [])).Pack) fun v_40 =>
     letv (((r_3.getD t80_1.toNat (api_Record.mk 0 0 [] (api_Version.mk 0 0 0 []) (api_Version.mk 0 0 0 []) 0 [])).From).Major) fun v_41 =>
     letv (((r_3.getD t80_1.toNat (api_Record.mk 0 0 [] (api_Version.mk 0 0 0 []) (api_Version.mk 0 0 0 []) 0 [])).From).Minor) fun v_42 =>
     letv (((r_3.getD t80_1.toNat (api_Record.mk 0 0 [] (api_Version.mk 0 0 0 []) (api_Version.mk 0 0 0 []) 0 [])).From).Patch) fun v_43 =>
     letv (((r_3.getD t80_1.toNat (api_Record.mk 0 0 [] (api_Version.mk 0 0 0 []) (api_Version.mk 0 0 0 []) 0 [])).From).Early) fun v_44 =>
     letv (((r_3.getD t80_1.toNat (api_Record.mk 0 0 [] (api_Version.mk 0 0 0 []) (api_Version.mk 0 0 0 []) 0 [])).To).Major) fun v_45 =>
     letv (((r_3.getD t80_1.toNat (api_Record.mk 0 0 [] (api_Version.mk 0 0 0 []) (api_Version.mk 0 0 0 []) 0 [])).To).Minor) fun v_46 =>
     letv (((r_3.getD t80_1.toNat (api_Record.mk 0 0 [] (api_Version.mk 0 0 0 []) (api_Version.mk 0 0 0 []) 0 [])).To).Patch) fun v_47 =>
     letv (((r_3.getD t80_1.toNat (api_Record.mk 0 0 [] (api_Version.mk 0 0 0 []) (api_Version.mk 0 0 0 []) 0 [])).To).Early) fun v_48 =>
     letv ((r_3.getD t80_1.toNat (api_Record.mk 0 0 [] (api_Version.mk 0 0 0 []) (api_Version.mk 0 0 0 []) 0 [])).Result) fun v_49 =>
     letv ((r_3.getD t80_1.toNat (api_Record.mk 0 0 [] (api_Version.mk 0 0 0 []) (api_Version.mk 0 0 0 []) 0 [])).Note) fun v_50 =>
     letv (!((decide (v_25=v_38)) && ((decide (v_26=v_39)) && ((decide (v_27=v_40)) && ((decide (v_28=v_41)) && ((decide (v_29=v_42)) && ((decide (v_30=v_43)) && ((decide (v_31=v_44)) && ((decide (v_32=v_45)) && ((decide (v_33=v_46)) && ((decide (v_34=v_47)) && ((decide (v_35=v_48)) && ((decide (v_36=v_49)) && (decide (v_37=v_50))))))))))))))) fun v_51 =>
     letv ((((decide ((r_2.length:Int)≤t80_1)) || (decide ((r_3.length:Int)≤t80_1))) || v_51)) fun v_52 =>
     bif v_52 then
      k_12 (t80_1,t80_1)
     else
     nx_24 (want_7,IntKind.i64.wrap (t80_1+1))
    else
    k_12 (want_7,t80_1)) ((-1),0) (fun s=>match s with
   | (want_7,t80_1) =>
    k_23 want_7)) fun k_13 =>
 bif !decide (r_4.1=[]) then
  chk (¬ (r_4.1.length:Int)=0) <|
  chk (¬ (r_4.1.length:Int)=0) <|
  letv (Int.tmod (IntKind.i64.wrap ((Int.tmod at_16 (r_4.1.length:Int))+(r_4.1.length:Int))) (r_4.1.length:Int)) fun v_6 =>
  chk (0≤v_6∧v_6 < (r_4.1.length:Int)) <|
  chk (0≤v_6∧v_6 < (r_4.1.length:Int)) <|
  letv (List.set (zbC r_4.1) v_6.toNat (zaz .xor .u8 ((zbC r_4.1).getD v_6.toNat 0) by_17)) fun v_53 =>
  k_13 (Go.Vc.strOf v_53)
 else
 k_13 r_4.1
end Go.Md
