/- Models of the functions that the statement reaches: what each computes, in plain words. -/
import Derived.Test.YtbofknpajcdnmaaGreatDoorVc3
set_option linter.unusedVariables false
namespace Go.Md
open Go.Vc
def tabL_3:List Int:=[1,10,100,1000,10000,100000,1000000,10000000,100000000,1000000000,10000000000,100000000000,1000000000000,10000000000000,100000000000000,1000000000000000,10000000000000000,100000000000000000,1000000000000000000,10000000000000000000]
theorem tabL_3_len:tabL_3.length=20:=rfl
def tabL_7:List Int:=[0,1,56,2,57,49,28,3,61,58,42,50,38,29,17,4,62,47,59,36,45,43,51,22,53,39,33,30,24,18,12,5,63,55,48,27,60,41,37,16,46,35,44,21,52,32,23,11,54,26,40,15,34,20,31,10,25,14,19,9,13,8,7,6]
theorem tabL_7_len:tabL_7.length=64:=rfl
instance theTabs:Tabs:=⟨fun b=>bif Nat.beq b 3 then some (.u64,tabL_3) else bif Nat.beq b 7 then some (.u8,tabL_7) else none,fun b=>bif Nat.beq b 1 then true else bif Nat.beq b 2 then true else false⟩
theorem ifc_1:Tabs.ifc 1=true:=rfl
theorem ifc_2:Tabs.ifc 2=true:=rfl
theorem tab_3:Tabs.tab 3=some (.u64,tabL_3):=rfl
attribute [go_sem] tab_3 tabL_3_len
theorem tab_7:Tabs.tab 7=some (.u8,tabL_7):=rfl
attribute [go_sem] tab_7 tabL_7_len
def ecB (b:Bool):List Dt:=[.b b]
def ecS (x:Str):List Dt:=[.s x]
def ecI_i8 (n:Int):List Dt:=[.i .i8 n]
def ecI_i16 (n:Int):List Dt:=[.i .i16 n]
def ecI_i32 (n:Int):List Dt:=[.i .i32 n]
def ecI_i64 (n:Int):List Dt:=[.i .i64 n]
def ecI_u8 (n:Int):List Dt:=[.i .u8 n]
def ecI_u16 (n:Int):List Dt:=[.i .u16 n]
def ecI_u32 (n:Int):List Dt:=[.i .u32 n]
def ecI_u64 (n:Int):List Dt:=[.i .u64 n]
theorem dec1_s:∀ r,hasR r [.s]→∃ x,r=ecS x:=by
 intro r h
 rcases r with _ | ⟨d,_ | _⟩ <;> simp only [hasR,and_false,and_true] at h
 cases d <;> simp only [hasT] at h
 exact ⟨_,rfl⟩
theorem dec1_i64:∀ r,hasR r [.i .i64]→∃ x,r=ecI_i64 x:=by
 intro r h
 rcases r with _ | ⟨d,_ | _⟩ <;> simp only [hasR,and_false,and_true] at h
 cases d <;> simp only [hasT] at h
 subst h
 exact ⟨_,rfl⟩
theorem dec1_u8:∀ r,hasR r [.i .u8]→∃ x,r=ecI_u8 x:=by
 intro r h
 rcases r with _ | ⟨d,_ | _⟩ <;> simp only [hasR,and_false,and_true] at h
 cases d <;> simp only [hasT] at h
 subst h
 exact ⟨_,rfl⟩
structure api_Setting where
 Key:Str
 Value:Str
def enc_api_Setting (x:api_Setting):List Dt:=[.s x.Key,.s x.Value]
def sh_api_Setting:List Sh:=[.s,.s]
theorem dec_api_Setting:∀ r,hasR r sh_api_Setting→∃ x:api_Setting,r=enc_api_Setting x:=by
 intro r h
 unfold sh_api_Setting at h
 rcases r with _ | ⟨d0,_ | ⟨d1,_ | _⟩⟩ <;> simp only [hasR,and_false,and_true] at h
 obtain ⟨h0,h1⟩:=h
 cases d0 <;> simp only [hasT] at h0
 cases d1 <;> simp only [hasT] at h1
 exact ⟨⟨_,_⟩,rfl⟩
structure api_File where
 Path:Str
 Data:Str
 Runs:Bool
def enc_api_File (x:api_File):List Dt:=[.s x.Path,.s x.Data,.b x.Runs]
def sh_api_File:List Sh:=[.s,.s,.b]
theorem dec_api_File:∀ r,hasR r sh_api_File→∃ x:api_File,r=enc_api_File x:=by
 intro r h
 unfold sh_api_File at h
 rcases r with _ | ⟨d0,_ | ⟨d1,_ | ⟨d2,_ | _⟩⟩⟩ <;> simp only [hasR,and_false,and_true] at h
 obtain ⟨h0,h1,h2⟩:=h
 cases d0 <;> simp only [hasT] at h0
 cases d1 <;> simp only [hasT] at h1
 cases d2 <;> simp only [hasT] at h2
 exact ⟨⟨_,_,_⟩,rfl⟩
structure api_Service where
 Name:Str
 Path:Str
 Auto:Bool
 On:Bool
def enc_api_Service (x:api_Service):List Dt:=[.s x.Name,.s x.Path,.b x.Auto,.b x.On]
def sh_api_Service:List Sh:=[.s,.s,.b,.b]
theorem dec_api_Service:∀ r,hasR r sh_api_Service→∃ x:api_Service,r=enc_api_Service x:=by
 intro r h
 unfold sh_api_Service at h
 rcases r with _ | ⟨d0,_ | ⟨d1,_ | ⟨d2,_ | ⟨d3,_ | _⟩⟩⟩⟩ <;> simp only [hasR,and_false,and_true] at h
 obtain ⟨h0,h1,h2,h3⟩:=h
 cases d0 <;> simp only [hasT] at h0
 cases d1 <;> simp only [hasT] at h1
 cases d2 <;> simp only [hasT] at h2
 cases d3 <;> simp only [hasT] at h3
 exact ⟨⟨_,_,_,_⟩,rfl⟩
structure api_Machine where
 Facts:List api_Setting
 Files:List api_File
 Settings:List api_Setting
 Services:List api_Service
def enc_api_Machine (x:api_Machine):List Dt:=[.l (List.map enc_api_Setting x.Facts),.l (List.map enc_api_File x.Files),.l (List.map enc_api_Setting x.Settings),.l (List.map enc_api_Service x.Services)]
def sh_api_Machine:List Sh:=[.l sh_api_Setting,.l sh_api_File,.l sh_api_Setting,.l sh_api_Service]
theorem dec_api_Machine:∀ r,hasR r sh_api_Machine→∃ x:api_Machine,r=enc_api_Machine x:=by
 intro r h
 unfold sh_api_Machine at h
 rcases r with _ | ⟨d0,_ | ⟨d1,_ | ⟨d2,_ | ⟨d3,_ | _⟩⟩⟩⟩ <;> simp only [hasR,and_false,and_true] at h
 obtain ⟨h0,h1,h2,h3⟩:=h
 cases d0 <;> simp only [hasT] at h0
 obtain ⟨l0,rfl⟩:=hasRs_map dec_api_Setting h0
 cases d1 <;> simp only [hasT] at h1
 obtain ⟨l1,rfl⟩:=hasRs_map dec_api_File h1
 cases d2 <;> simp only [hasT] at h2
 obtain ⟨l2,rfl⟩:=hasRs_map dec_api_Setting h2
 cases d3 <;> simp only [hasT] at h3
 obtain ⟨l3,rfl⟩:=hasRs_map dec_api_Service h3
 exact ⟨⟨_,_,_,_⟩,rfl⟩
structure api_Change where
 Kind:Int
 File:api_File
 Setting:api_Setting
 Service:api_Service
def enc_api_Change (x:api_Change):List Dt:=[.i .i64 x.Kind,.s x.File.Path,.s x.File.Data,.b x.File.Runs,.s x.Setting.Key,.s x.Setting.Value,.s x.Service.Name,.s x.Service.Path,.b x.Service.Auto,.b x.Service.On]
def sh_api_Change:List Sh:=[.i .i64,.s,.s,.b,.s,.s,.s,.s,.b,.b]
set_option maxRecDepth 100000 in
theorem dec_api_Change:∀ r,hasR r sh_api_Change→∃ x:api_Change,r=enc_api_Change x:=by
 intro r h
 unfold sh_api_Change at h
 rcases r with _ | ⟨d0,_ | ⟨d1,_ | ⟨d2,_ | ⟨d3,_ | ⟨d4,_ | ⟨d5,_ | ⟨d6,_ | ⟨d7,_ | ⟨d8,_ | ⟨d9,_ | _⟩⟩⟩⟩⟩⟩⟩⟩⟩⟩ <;> simp only [hasR,and_false,and_true] at h
 obtain ⟨h0,h1,h2,h3,h4,h5,h6,h7,h8,h9⟩:=h
 cases d0 <;> simp only [hasT] at h0
 subst h0
 cases d1 <;> simp only [hasT] at h1
 cases d2 <;> simp only [hasT] at h2
 cases d3 <;> simp only [hasT] at h3
 cases d4 <;> simp only [hasT] at h4
 cases d5 <;> simp only [hasT] at h5
 cases d6 <;> simp only [hasT] at h6
 cases d7 <;> simp only [hasT] at h7
 cases d8 <;> simp only [hasT] at h8
 cases d9 <;> simp only [hasT] at h9
 exact ⟨⟨_,⟨_,_,_⟩,⟨_,_⟩,⟨_,_,_,_⟩⟩,rfl⟩
structure outlaw1_Act where
 Kind:Int
 Change:api_Change
 After:Int
 Torn:Bool
def enc_outlaw1_Act (x:outlaw1_Act):List Dt:=[.i .i64 x.Kind,.i .i64 x.Change.Kind,.s x.Change.File.Path,.s x.Change.File.Data,.b x.Change.File.Runs,.s x.Change.Setting.Key,.s x.Change.Setting.Value,.s x.Change.Service.Name,.s x.Change.Service.Path,.b x.Change.Service.Auto,.b x.Change.Service.On,.i .i64 x.After,.b x.Torn]
def sh_outlaw1_Act:List Sh:=[.i .i64,.i .i64,.s,.s,.b,.s,.s,.s,.s,.b,.b,.i .i64,.b]
set_option maxRecDepth 100000 in
theorem dec_outlaw1_Act:∀ r,hasR r sh_outlaw1_Act→∃ x:outlaw1_Act,r=enc_outlaw1_Act x:=by
 intro r h
 unfold sh_outlaw1_Act at h
 rcases r with _ | ⟨d0,_ | ⟨d1,_ | ⟨d2,_ | ⟨d3,_ | ⟨d4,_ | ⟨d5,_ | ⟨d6,_ | ⟨d7,_ | ⟨d8,_ | ⟨d9,_ | ⟨d10,_ | ⟨d11,_ | ⟨d12,_ | _⟩⟩⟩⟩⟩⟩⟩⟩⟩⟩⟩⟩⟩ <;> simp only [hasR,and_false,and_true] at h
 obtain ⟨h0,h1,h2,h3,h4,h5,h6,h7,h8,h9,h10,h11,h12⟩:=h
 cases d0 <;> simp only [hasT] at h0
 subst h0
 cases d1 <;> simp only [hasT] at h1
 subst h1
 cases d2 <;> simp only [hasT] at h2
 cases d3 <;> simp only [hasT] at h3
 cases d4 <;> simp only [hasT] at h4
 cases d5 <;> simp only [hasT] at h5
 cases d6 <;> simp only [hasT] at h6
 cases d7 <;> simp only [hasT] at h7
 cases d8 <;> simp only [hasT] at h8
 cases d9 <;> simp only [hasT] at h9
 cases d10 <;> simp only [hasT] at h10
 cases d11 <;> simp only [hasT] at h11
 subst h11
 cases d12 <;> simp only [hasT] at h12
 exact ⟨⟨_,⟨_,⟨_,_,_⟩,⟨_,_⟩,⟨_,_,_,_⟩⟩,_,_⟩,rfl⟩
structure stage_place where
 kind:Int
 name:Str
def enc_stage_place (x:stage_place):List Dt:=[.i .i64 x.kind,.s x.name]
def sh_stage_place:List Sh:=[.i .i64,.s]
theorem dec_stage_place:∀ r,hasR r sh_stage_place→∃ x:stage_place,r=enc_stage_place x:=by
 intro r h
 unfold sh_stage_place at h
 rcases r with _ | ⟨d0,_ | ⟨d1,_ | _⟩⟩ <;> simp only [hasR,and_false,and_true] at h
 obtain ⟨h0,h1⟩:=h
 cases d0 <;> simp only [hasT] at h0
 subst h0
 cases d1 <;> simp only [hasT] at h1
 exact ⟨⟨_,_⟩,rfl⟩
structure api_Journal where
 Id:Str
 Changes:List api_Change
 Old:List api_Change
def enc_api_Journal (x:api_Journal):List Dt:=[.s x.Id,.l (List.map enc_api_Change x.Changes),.l (List.map enc_api_Change x.Old)]
def sh_api_Journal:List Sh:=[.s,.l sh_api_Change,.l sh_api_Change]
theorem dec_api_Journal:∀ r,hasR r sh_api_Journal→∃ x:api_Journal,r=enc_api_Journal x:=by
 intro r h
 unfold sh_api_Journal at h
 rcases r with _ | ⟨d0,_ | ⟨d1,_ | ⟨d2,_ | _⟩⟩⟩ <;> simp only [hasR,and_false,and_true] at h
 obtain ⟨h0,h1,h2⟩:=h
 cases d0 <;> simp only [hasT] at h0
 cases d1 <;> simp only [hasT] at h1
 obtain ⟨l1,rfl⟩:=hasRs_map dec_api_Change h1
 cases d2 <;> simp only [hasT] at h2
 obtain ⟨l2,rfl⟩:=hasRs_map dec_api_Change h2
 exact ⟨⟨_,_,_⟩,rfl⟩
structure disk_line where
 word:Str
 file:api_File
 setting:api_Setting
 service:api_Service
def enc_disk_line (x:disk_line):List Dt:=[.s x.word,.s x.file.Path,.s x.file.Data,.b x.file.Runs,.s x.setting.Key,.s x.setting.Value,.s x.service.Name,.s x.service.Path,.b x.service.Auto,.b x.service.On]
def sh_disk_line:List Sh:=[.s,.s,.s,.b,.s,.s,.s,.s,.b,.b]
set_option maxRecDepth 100000 in
theorem dec_disk_line:∀ r,hasR r sh_disk_line→∃ x:disk_line,r=enc_disk_line x:=by
 intro r h
 unfold sh_disk_line at h
 rcases r with _ | ⟨d0,_ | ⟨d1,_ | ⟨d2,_ | ⟨d3,_ | ⟨d4,_ | ⟨d5,_ | ⟨d6,_ | ⟨d7,_ | ⟨d8,_ | ⟨d9,_ | _⟩⟩⟩⟩⟩⟩⟩⟩⟩⟩ <;> simp only [hasR,and_false,and_true] at h
 obtain ⟨h0,h1,h2,h3,h4,h5,h6,h7,h8,h9⟩:=h
 cases d0 <;> simp only [hasT] at h0
 cases d1 <;> simp only [hasT] at h1
 cases d2 <;> simp only [hasT] at h2
 cases d3 <;> simp only [hasT] at h3
 cases d4 <;> simp only [hasT] at h4
 cases d5 <;> simp only [hasT] at h5
 cases d6 <;> simp only [hasT] at h6
 cases d7 <;> simp only [hasT] at h7
 cases d8 <;> simp only [hasT] at h8
 cases d9 <;> simp only [hasT] at h9
 exact ⟨⟨_,⟨_,_,_⟩,⟨_,_⟩,⟨_,_,_,_⟩⟩,rfl⟩
structure S_word_l where
 word:Str
 l:List api_Change
def enc_S_word_l (x:S_word_l):List Dt:=[.s x.word,.l (List.map enc_api_Change x.l)]
def sh_S_word_l:List Sh:=[.s,.l sh_api_Change]
theorem dec_S_word_l:∀ r,hasR r sh_S_word_l→∃ x:S_word_l,r=enc_S_word_l x:=by
 intro r h
 unfold sh_S_word_l at h
 rcases r with _ | ⟨d0,_ | ⟨d1,_ | _⟩⟩ <;> simp only [hasR,and_false,and_true] at h
 obtain ⟨h0,h1⟩:=h
 cases d0 <;> simp only [hasT] at h0
 cases d1 <;> simp only [hasT] at h1
 obtain ⟨l1,rfl⟩:=hasRs_map dec_api_Change h1
 exact ⟨⟨_,_⟩,rfl⟩
structure api_Cut where
 After:Int
 Torn:Bool
def enc_api_Cut (x:api_Cut):List Dt:=[.i .i64 x.After,.b x.Torn]
def sh_api_Cut:List Sh:=[.i .i64,.b]
theorem dec_api_Cut:∀ r,hasR r sh_api_Cut→∃ x:api_Cut,r=enc_api_Cut x:=by
 intro r h
 unfold sh_api_Cut at h
 rcases r with _ | ⟨d0,_ | ⟨d1,_ | _⟩⟩ <;> simp only [hasR,and_false,and_true] at h
 obtain ⟨h0,h1⟩:=h
 cases d0 <;> simp only [hasT] at h0
 subst h0
 cases d1 <;> simp only [hasT] at h1
 exact ⟨⟨_,_⟩,rfl⟩
structure outlaw1_Step where
 Kind:Int
 Id:Str
 Changes:List api_Change
 Cut:api_Cut
def enc_outlaw1_Step (x:outlaw1_Step):List Dt:=[.i .i64 x.Kind,.s x.Id,.l (List.map enc_api_Change x.Changes),.i .i64 x.Cut.After,.b x.Cut.Torn]
def sh_outlaw1_Step:List Sh:=[.i .i64,.s,.l sh_api_Change,.i .i64,.b]
theorem dec_outlaw1_Step:∀ r,hasR r sh_outlaw1_Step→∃ x:outlaw1_Step,r=enc_outlaw1_Step x:=by
 intro r h
 unfold sh_outlaw1_Step at h
 rcases r with _ | ⟨d0,_ | ⟨d1,_ | ⟨d2,_ | ⟨d3,_ | ⟨d4,_ | _⟩⟩⟩⟩⟩ <;> simp only [hasR,and_false,and_true] at h
 obtain ⟨h0,h1,h2,h3,h4⟩:=h
 cases d0 <;> simp only [hasT] at h0
 subst h0
 cases d1 <;> simp only [hasT] at h1
 cases d2 <;> simp only [hasT] at h2
 obtain ⟨l2,rfl⟩:=hasRs_map dec_api_Change h2
 cases d3 <;> simp only [hasT] at h3
 subst h3
 cases d4 <;> simp only [hasT] at h4
 exact ⟨⟨_,_,_,⟨_,_⟩⟩,rfl⟩
instance instDec_stage_place:DecidableEq stage_place:=fun a b=>decidable_of_iff (a.kind=b.kind∧a.name=b.name) (by cases a; cases b; simp)
def kdk_stage_place (x:stage_place):Dt:=.a (enc_stage_place x)
theorem keq_stage_place (a b:stage_place):keq (kdk_stage_place a) (kdk_stage_place b)=decide (a=b):=by
 rw [Bool.eq_iff_iff]
 obtain ⟨a0,a1⟩:=a
 obtain ⟨b0,b1⟩:=b
 simp only [keq,kdk_stage_place,enc_stage_place,eqRow,Bool.and_true,Bool.and_eq_true,decide_eq_true_eq,stage_place.mk.injEq]
 exact ⟨fun h=>by simp only [h,and_self],fun h=>by simp only [h,and_self]⟩
theorem mkeys_stage_place {V:Type} (e:V→List Dt) (l:List (stage_place × V)):mkeys (.ks [.i .i64,.s]) (encM kdk_stage_place e l)=True:=mkeys_a (kd:=enc_stage_place) (fun x=>by simp [hasKs,enc_stage_place]) e l
attribute [go_sem] mkeys_stage_place
theorem sz_ecB:∀ l,szOk (1) (List.map ecB l)=True:=fun l=>eq_true (by intro r hr; obtain ⟨x,_,rfl⟩:=List.mem_map.1 hr; rfl)
theorem sz_ecS:∀ l,szOk (1) (List.map ecS l)=True:=fun l=>eq_true (by intro r hr; obtain ⟨x,_,rfl⟩:=List.mem_map.1 hr; rfl)
theorem sz_ecI_i64:∀ l,szOk (1) (List.map ecI_i64 l)=True:=fun l=>eq_true (by intro r hr; obtain ⟨x,_,rfl⟩:=List.mem_map.1 hr; rfl)
theorem sz_ecI_u8:∀ l,szOk (1) (List.map ecI_u8 l)=True:=fun l=>eq_true (by intro r hr; obtain ⟨x,_,rfl⟩:=List.mem_map.1 hr; rfl)
theorem sz_ecI_u64:∀ l,szOk (1) (List.map ecI_u64 l)=True:=fun l=>eq_true (by intro r hr; obtain ⟨x,_,rfl⟩:=List.mem_map.1 hr; rfl)
theorem sz_ecI_i32:∀ l,szOk (1) (List.map ecI_i32 l)=True:=fun l=>eq_true (by intro r hr; obtain ⟨x,_,rfl⟩:=List.mem_map.1 hr; rfl)
theorem sz_ecI_u32:∀ l,szOk (1) (List.map ecI_u32 l)=True:=fun l=>eq_true (by intro r hr; obtain ⟨x,_,rfl⟩:=List.mem_map.1 hr; rfl)
theorem sz_enc_api_Setting:∀ l,szOk (2) (List.map enc_api_Setting l)=True:=fun l=>eq_true (by intro r hr; obtain ⟨x,_,rfl⟩:=List.mem_map.1 hr; rfl)
theorem sz_enc_api_File:∀ l,szOk (3) (List.map enc_api_File l)=True:=fun l=>eq_true (by intro r hr; obtain ⟨x,_,rfl⟩:=List.mem_map.1 hr; rfl)
theorem sz_enc_api_Service:∀ l,szOk (4) (List.map enc_api_Service l)=True:=fun l=>eq_true (by intro r hr; obtain ⟨x,_,rfl⟩:=List.mem_map.1 hr; rfl)
theorem sz_enc_api_Machine:∀ l,szOk (4) (List.map enc_api_Machine l)=True:=fun l=>eq_true (by intro r hr; obtain ⟨x,_,rfl⟩:=List.mem_map.1 hr; rfl)
theorem sz_enc_api_Change:∀ l,szOk (10) (List.map enc_api_Change l)=True:=fun l=>eq_true (by intro r hr; obtain ⟨x,_,rfl⟩:=List.mem_map.1 hr; rfl)
theorem sz_enc_outlaw1_Act:∀ l,szOk (13) (List.map enc_outlaw1_Act l)=True:=fun l=>eq_true (by intro r hr; obtain ⟨x,_,rfl⟩:=List.mem_map.1 hr; rfl)
theorem sz_enc_stage_place:∀ l,szOk (2) (List.map enc_stage_place l)=True:=fun l=>eq_true (by intro r hr; obtain ⟨x,_,rfl⟩:=List.mem_map.1 hr; rfl)
theorem sz_enc_api_Journal:∀ l,szOk (3) (List.map enc_api_Journal l)=True:=fun l=>eq_true (by intro r hr; obtain ⟨x,_,rfl⟩:=List.mem_map.1 hr; rfl)
theorem sz_enc_disk_line:∀ l,szOk (10) (List.map enc_disk_line l)=True:=fun l=>eq_true (by intro r hr; obtain ⟨x,_,rfl⟩:=List.mem_map.1 hr; rfl)
theorem sz_enc_S_word_l:∀ l,szOk (2) (List.map enc_S_word_l l)=True:=fun l=>eq_true (by intro r hr; obtain ⟨x,_,rfl⟩:=List.mem_map.1 hr; rfl)
theorem sz_enc_api_Cut:∀ l,szOk (2) (List.map enc_api_Cut l)=True:=fun l=>eq_true (by intro r hr; obtain ⟨x,_,rfl⟩:=List.mem_map.1 hr; rfl)
theorem sz_enc_outlaw1_Step:∀ l,szOk (5) (List.map enc_outlaw1_Step l)=True:=fun l=>eq_true (by intro r hr; obtain ⟨x,_,rfl⟩:=List.mem_map.1 hr; rfl)
theorem allB_enc:∀ l:List Int,allB (List.map ecI_u8 l)=True
 | []=>by simp only [List.map_nil,allB]
 | _::l=>by simp only [List.map_cons,ecI_u8,allB,allB_enc l,and_self]
theorem unB_enc:∀ l:List Int,unB (List.map ecI_u8 l)=Go.Vc.strOf l
 | []=>by simp only [List.map_nil,unB,Go.Vc.strOf]
 | _::l=>by simp only [List.map_cons,ecI_u8,unB,unB_enc l,Go.Vc.strOf]
theorem bR_enc (l:Str):bR l=List.map ecI_u8 (bytesOf l):=by simp [bR,bytesOf,ecI_u8]
attribute [go_sem] allB_enc unB_enc bR_enc
attribute [go_sem] ecB ecS ecI_i64 ecI_u8 ecI_u64 ecI_i32 ecI_u32 enc_api_Setting enc_api_File enc_api_Service enc_api_Machine enc_api_Change enc_outlaw1_Act enc_stage_place enc_api_Journal enc_disk_line enc_S_word_l enc_api_Cut enc_outlaw1_Step sz_ecB sz_ecS sz_ecI_i64 sz_ecI_u8 sz_ecI_u64 sz_ecI_i32 sz_ecI_u32 sz_enc_api_Setting sz_enc_api_File sz_enc_api_Service sz_enc_api_Machine sz_enc_api_Change sz_enc_outlaw1_Act sz_enc_stage_place sz_enc_api_Journal sz_enc_disk_line sz_enc_S_word_l sz_enc_api_Cut sz_enc_outlaw1_Step
noncomputable def ver_isSmall (c_1:Int):Option Bool :=
 some ((decide (97≤c_1)) && (decide (c_1≤122)))
noncomputable def ver_isDigit (c_1:Int):Option Bool :=
 some ((decide (48≤c_1)) && (decide (c_1≤57)))
noncomputable def ver_IsName_1 (c_1:Int):Option Bool :=
 call (ver_isSmall c_1) fun r_2 =>
 callG (!r_2) (ver_isDigit c_1) false fun r_3 =>
 some (((r_2 || r_3) || (decide (c_1=45))) || (decide (c_1=46)))
noncomputable def ver_each_i1 (s_1:Str) (most_2:Int):Option Bool :=
 jp (S:=Unit) (fun _ =>
  some ((!decide (s_1=[])) && (decide ((s_1.length:Int)≤most_2)))) fun k_12 =>
 forL s_1 0 (fun i_18 c_20 s nx_17 k_16 =>
  call (ver_IsName_1 (c_20.toNat:Int)) fun r_21 =>
  bif !r_21 then
   some false
  else
  nx_17 ()) () (fun _ =>
  k_12 ())
noncomputable def ver_IsName (s_1:Str):Option Bool :=
 call (ver_each_i1 s_1 40) fun r_2 =>
 chk (r_2=true→(0≤0∧0 < (s_1.length:Int))) <|
 callG r_2 (ver_isSmall ((s_1.getD 0 0).toNat:Int)) false fun r_4 =>
 some (r_2 && r_4)
noncomputable def Law_landed :Option Bool :=
 call (ver_IsName ([97]:Str)) fun r_1 =>
 some r_1
noncomputable def R_IsName (s_1:Str):Option Bool :=
 jp (S:=Unit) (fun _ =>
  some ((!decide (s_1=[])) && (decide ((s_1.length:Int)≤40)))) fun k_9 =>
 forL s_1 0 (fun i_14 c_16 s nx_13 k_12 =>
  bif (((decide ((i_14:Int)=0)) && (!((decide (97≤(c_16.toNat:Int))) && (decide ((c_16.toNat:Int)≤122))))) || ((((!((decide (97≤(c_16.toNat:Int))) && (decide ((c_16.toNat:Int)≤122)))) && ((decide ((c_16.toNat:Int) < 48)) || (decide (57 < (c_16.toNat:Int))))) && (!decide ((c_16.toNat:Int)=45))) && (!decide ((c_16.toNat:Int)=46)))) then
   some false
  else
  nx_13 ()) () (fun _ =>
  k_9 ())
noncomputable def R_when (bad_1:Bool) (e_2:Int):Option Int :=
 bif bad_1 then
  some e_2
 else
 some 0
noncomputable def R_IsValue (s_1:Str):Option Bool :=
 jp (S:=Unit) (fun _ =>
  some (decide ((s_1.length:Int)≤1000))) fun k_9 =>
 forL s_1 0 (fun i_14 c_16 s nx_13 k_12 =>
  bif ((decide ((c_16.toNat:Int) < 32)) || (decide (126 < (c_16.toNat:Int)))) then
   some false
  else
  nx_13 ()) () (fun _ =>
  k_9 ())
noncomputable def R_first (l_1:List Int):Option Int :=
 jp (S:=Unit) (fun _ =>
  some 0) fun k_9 =>
 forL l_1 0 (fun i_14 e_16 s nx_13 k_12 =>
  bif !decide (e_16=0) then
   some e_16
  else
  nx_13 ()) () (fun _ =>
  k_9 ())
noncomputable def internal_stringslite_IndexByte (s_1:Str) (c_2:Int):Option Int :=
 some (ixByte s_1 c_2)
noncomputable def internal_stringslite_Index (s_1:Str) (substr_2:Str):Option Int :=
 bif ((decide ((substr_2.length:Int)=0)) || (decide (substr_2=s_1))) then
  some 0
 else
 bif decide ((substr_2.length:Int)=1) then
  idxS substr_2 0 fun c_3 =>
  call (internal_stringslite_IndexByte s_1 c_3) fun r_4 =>
  some r_4
 else
 bif decide ((s_1.length:Int)≤(substr_2.length:Int)) then
  some (-1)
 else
 none
noncomputable def strings_Index (s_1:Str) (substr_2:Str):Option Int :=
 call (internal_stringslite_Index s_1 substr_2) fun r_3 =>
 some r_3
noncomputable def strings_Count (s_1:Str) (substr_2:Str):Option Int :=
 bif decide ((substr_2.length:Int)=0) then
  none
 else
 bif decide ((substr_2.length:Int)=1) then
  idxS substr_2 0 fun c_3 =>
  some (cntByte s_1 c_3)
 else
 loopN Fuel (fun s nx_15 k_14 =>
  match s with
  | (s_10,n_11) =>
   call (strings_Index s_10 substr_2) fun r_16 =>
   bif decide (r_16=(-1)) then
    some n_11
   else
   chk (0≤IntKind.i64.wrap (r_16+(substr_2.length:Int))∧IntKind.i64.wrap (r_16+(substr_2.length:Int))≤(s_10.length:Int)) <|
   nx_15 (List.drop ((IntKind.i64.wrap (r_16+(substr_2.length:Int))).toNat) s_10,IntKind.i64.wrap (n_11+1))) (s_1,0) (fun s=>match s with
  | (s_10,n_11) =>
   none)
noncomputable def strings_genSplit (s_1:Str) (sep_2:Str) (sepSave_3:Int) (n_4:Int):Option (List Str) :=
 bif decide (n_4=0) then
  some []
 else
 bif decide (sep_2=[]) then
  none
 else
 jp (S:=Int) (fun n_6 =>
  chk (0≤min n_6 (IntKind.i64.wrap ((s_1.length:Int)+1))∧min n_6 (IntKind.i64.wrap ((s_1.length:Int)+1))≤min n_6 (IntKind.i64.wrap ((s_1.length:Int)+1))∧min n_6 (IntKind.i64.wrap ((s_1.length:Int)+1))≤274877906944) <|
  jp (S:=Str × Int × List Str) (fun s=>match s with
   | (s_28,i_29,o0_30) =>
    chk (0≤i_29∧i_29 < (o0_30.length:Int)) <|
    chk (0≤IntKind.i64.wrap (i_29+1)∧IntKind.i64.wrap (i_29+1)≤((List.set o0_30 i_29.toNat s_28).length:Int)) <|
    some (List.take ((IntKind.i64.wrap (i_29+1)).toNat) (List.set o0_30 i_29.toNat s_28))) fun k_31 =>
  loopN Fuel (fun s nx_48 k_47 =>
   match s with
   | (s_40,i_41,o0_42) =>
    bif decide (i_41 < (IntKind.i64.wrap ((min n_6 (IntKind.i64.wrap ((s_1.length:Int)+1))) - 1))) then
     call (strings_Index s_40 sep_2) fun r_49 =>
     bif decide (r_49 < 0) then
      k_47 (s_40,i_41,o0_42)
     else
     chk (0≤IntKind.i64.wrap (r_49+sepSave_3)∧IntKind.i64.wrap (r_49+sepSave_3)≤(s_40.length:Int)) <|
     chk (0≤i_41∧i_41 < (o0_42.length:Int)) <|
     chk (0≤IntKind.i64.wrap (r_49+(sep_2.length:Int))∧IntKind.i64.wrap (r_49+(sep_2.length:Int))≤(s_40.length:Int)) <|
     nx_48 (List.drop ((IntKind.i64.wrap (r_49+(sep_2.length:Int))).toNat) s_40,IntKind.i64.wrap (i_41+1),List.set o0_42 i_41.toNat (List.take ((IntKind.i64.wrap (r_49+sepSave_3)).toNat) s_40))
    else
    k_47 (s_40,i_41,o0_42)) (s_1,0,List.replicate ((min n_6 (IntKind.i64.wrap ((s_1.length:Int)+1))).toNat) []) (fun s=>match s with
   | (s_40,i_41,o0_42) =>
    k_31 (s_40,i_41,o0_42))) fun k_7 =>
 bif decide (n_4 < 0) then
  call (strings_Count s_1 sep_2) fun r_53 =>
  k_7 (IntKind.i64.wrap (r_53+1))
 else
 k_7 n_4
noncomputable def strings_Split (s_1:Str) (sep_2:Str):Option (List Str) :=
 call (strings_genSplit s_1 sep_2 0 (-1)) fun r_3 =>
 some r_3
noncomputable def R_isPart (s_1:Str):Option Bool :=
 jp (S:=Unit) (fun _ =>
  some ((((!decide (s_1=[])) && (decide ((s_1.length:Int)≤40))) && (!decide (s_1=([46]:Str)))) && (!decide (s_1=([46,46]:Str))))) fun k_9 =>
 forL s_1 0 (fun i_14 c_16 s nx_13 k_12 =>
  bif (((((((decide ((c_16.toNat:Int) < 97)) || (decide (122 < (c_16.toNat:Int)))) && ((decide ((c_16.toNat:Int) < 65)) || (decide (90 < (c_16.toNat:Int))))) && ((decide ((c_16.toNat:Int) < 48)) || (decide (57 < (c_16.toNat:Int))))) && (!decide ((c_16.toNat:Int)=45))) && (!decide ((c_16.toNat:Int)=46))) && (!decide ((c_16.toNat:Int)=95))) then
   some false
  else
  nx_13 ()) () (fun _ =>
  k_9 ())
noncomputable def R_IsPath (s_1:Str):Option Bool :=
 jp (S:=Unit) (fun _ =>
  some (decide ((s_1.length:Int)≤200))) fun k_12 =>
 call (strings_Split s_1 ([47]:Str)) fun r_13 =>
 forL r_13 0 (fun i_19 s_21 s nx_18 k_17 =>
  call (R_isPart s_21) fun r_22 =>
  bif !r_22 then
   some false
  else
  nx_18 ()) () (fun _ =>
  k_12 ())
noncomputable def R_fileError (f_1:api_File):Option Int :=
 call (R_IsPath f_1.Path) fun r_2 =>
 call (R_when (!r_2) 5) fun r_3 =>
 call (R_when (decide (65536 < (f_1.Data.length:Int))) 4) fun r_4 =>
 call (R_first [r_3,r_4]) fun r_5 =>
 some r_5
noncomputable def R_settingError (s_1:api_Setting):Option Int :=
 call (R_IsPath s_1.Key) fun r_2 =>
 call (R_when (!r_2) 5) fun r_3 =>
 call (R_IsValue s_1.Value) fun r_4 =>
 call (R_when (!r_4) 2) fun r_5 =>
 call (R_first [r_3,r_5]) fun r_6 =>
 some r_6
noncomputable def R_serviceError (s_1:api_Service):Option Int :=
 call (R_IsName s_1.Name) fun r_2 =>
 callG (!(!r_2)) (R_IsPath s_1.Path) false fun r_3 =>
 call (R_when ((!r_2) || (!r_3)) 5) fun r_4 =>
 some r_4
noncomputable def ver_IsValue_1 (c_1:Int):Option Bool :=
 some ((decide (32≤c_1)) && (decide (c_1≤126)))
noncomputable def ver_each_i2 (s_1:Str) (most_2:Int):Option Bool :=
 jp (S:=Unit) (fun _ =>
  some ((!decide (s_1=[])) && (decide ((s_1.length:Int)≤most_2)))) fun k_12 =>
 forL s_1 0 (fun i_18 c_20 s nx_17 k_16 =>
  call (ver_IsValue_1 (c_20.toNat:Int)) fun r_21 =>
  bif !r_21 then
   some false
  else
  nx_17 ()) () (fun _ =>
  k_12 ())
noncomputable def ver_IsValue (s_1:Str):Option Bool :=
 callG (!(decide (s_1=[]))) (ver_each_i2 s_1 1000) false fun r_2 =>
 some ((decide (s_1=[])) || r_2)
noncomputable def ver_isPart_1 (c_1:Int):Option Bool :=
 call (ver_isSmall c_1) fun r_2 =>
 callG (!(r_2 || ((decide (65≤c_1)) && (decide (c_1≤90))))) (ver_isDigit c_1) false fun r_3 =>
 some (((((r_2 || ((decide (65≤c_1)) && (decide (c_1≤90)))) || r_3) || (decide (c_1=45))) || (decide (c_1=46))) || (decide (c_1=95)))
noncomputable def ver_each_i3 (s_1:Str) (most_2:Int):Option Bool :=
 jp (S:=Unit) (fun _ =>
  some ((!decide (s_1=[])) && (decide ((s_1.length:Int)≤most_2)))) fun k_12 =>
 forL s_1 0 (fun i_18 c_20 s nx_17 k_16 =>
  call (ver_isPart_1 (c_20.toNat:Int)) fun r_21 =>
  bif !r_21 then
   some false
  else
  nx_17 ()) () (fun _ =>
  k_12 ())
noncomputable def ver_isPart (s_1:Str):Option Bool :=
 call (ver_each_i3 s_1 40) fun r_2 =>
 some ((r_2 && (!decide (s_1=([46]:Str)))) && (!decide (s_1=([46,46]:Str))))
noncomputable def ver_IsPath (s_1:Str):Option Bool :=
 jp (S:=Unit) (fun _ =>
  some (decide ((s_1.length:Int)≤200))) fun k_12 =>
 call (strings_Split s_1 ([47]:Str)) fun r_13 =>
 forL r_13 0 (fun i_19 s_21 s nx_18 k_17 =>
  call (ver_isPart s_21) fun r_22 =>
  bif !r_22 then
   some false
  else
  nx_18 ()) () (fun _ =>
  k_12 ())
noncomputable def disk_fileFault (f_1:api_File):Option Int :=
 call (ver_IsPath f_1.Path) fun r_2 =>
 bif !r_2 then
  some 5
 else
 bif decide (65536 < (f_1.Data.length:Int)) then
  some 4
 else
 some 0
noncomputable def disk_settingFault_i2 (s_1:api_Setting):Option Int :=
 call (ver_IsPath s_1.Key) fun r_2 =>
 bif !r_2 then
  some 5
 else
 call (ver_IsValue s_1.Value) fun r_3 =>
 bif !r_3 then
  some 2
 else
 some 0
noncomputable def disk_serviceFault (s_1:api_Service):Option Int :=
 call (ver_IsName s_1.Name) fun r_2 =>
 callG (!(!r_2)) (ver_IsPath s_1.Path) false fun r_3 =>
 bif ((!r_2) || (!r_3)) then
  some 5
 else
 some 0
noncomputable def R_ChangeError (c_1:api_Change):Option Int :=
 jp (S:=Int × Str × Str × Bool × Str × Str × Str × Str × Bool × Bool) (fun s=>match s with
  | (e_11,o1_1_12,o1_2_13,o1_3_14,o1_4_15,o1_5_16,o1_6_17,o1_7_18,o1_8_19,o1_9_20) =>
   call (R_when (!(true && ((decide (o1_1_12=[])) && ((decide (o1_2_13=[])) && ((decide (o1_3_14=false)) && ((decide (o1_4_15=[])) && ((decide (o1_5_16=[])) && ((decide (o1_6_17=[])) && ((decide (o1_7_18=[])) && ((decide (o1_8_19=false)) && (decide (o1_9_20=false)))))))))))) 2) fun r_22 =>
   call (R_first [e_11,r_22]) fun r_23 =>
   some r_23) fun k_21 =>
 bif decide (c_1.Kind=1) then
  call (R_fileError c_1.File) fun r_24 =>
  k_21 (r_24,[],[],false,c_1.Setting.Key,c_1.Setting.Value,c_1.Service.Name,c_1.Service.Path,c_1.Service.Auto,c_1.Service.On)
 else
 bif decide (c_1.Kind=2) then
  call (R_IsPath c_1.File.Path) fun r_25 =>
  call (R_when (!r_25) 5) fun r_26 =>
  k_21 (r_26,[],c_1.File.Data,c_1.File.Runs,c_1.Setting.Key,c_1.Setting.Value,c_1.Service.Name,c_1.Service.Path,c_1.Service.Auto,c_1.Service.On)
 else
 bif decide (c_1.Kind=3) then
  call (R_settingError c_1.Setting) fun r_27 =>
  k_21 (r_27,c_1.File.Path,c_1.File.Data,c_1.File.Runs,[],[],c_1.Service.Name,c_1.Service.Path,c_1.Service.Auto,c_1.Service.On)
 else
 bif decide (c_1.Kind=4) then
  call (R_IsPath c_1.Setting.Key) fun r_28 =>
  call (R_when (!r_28) 5) fun r_29 =>
  k_21 (r_29,c_1.File.Path,c_1.File.Data,c_1.File.Runs,[],c_1.Setting.Value,c_1.Service.Name,c_1.Service.Path,c_1.Service.Auto,c_1.Service.On)
 else
 bif decide (c_1.Kind=5) then
  call (R_serviceError c_1.Service) fun r_30 =>
  k_21 (r_30,c_1.File.Path,c_1.File.Data,c_1.File.Runs,c_1.Setting.Key,c_1.Setting.Value,[],[],false,false)
 else
 bif decide (c_1.Kind=6) then
  call (R_IsName c_1.Service.Name) fun r_31 =>
  call (R_when (!r_31) 5) fun r_32 =>
  k_21 (r_32,c_1.File.Path,c_1.File.Data,c_1.File.Runs,c_1.Setting.Key,c_1.Setting.Value,[],c_1.Service.Path,c_1.Service.Auto,c_1.Service.On)
 else
 some 1
noncomputable def internal_stringslite_HasPrefix (s_1:Str) (prefix_2:Str):Option Bool :=
 chk ((decide ((prefix_2.length:Int)≤(s_1.length:Int)))=true→(0≤(prefix_2.length:Int)∧(prefix_2.length:Int)≤(s_1.length:Int))) <|
 some ((decide ((prefix_2.length:Int)≤(s_1.length:Int))) && (decide ((List.take prefix_2.length s_1)=prefix_2)))
noncomputable def strings_HasPrefix (s_1:Str) (prefix_2:Str):Option Bool :=
 call (internal_stringslite_HasPrefix s_1 prefix_2) fun r_3 =>
 some r_3
noncomputable def disk_CheckChange (c_1:api_Change):Option Int :=
 jp (S:=Int × Str × Str × Bool × Str × Str × Str × Str × Bool × Bool) (fun s=>match s with
  | (e_8,o1_1_9,o1_2_10,o1_3_11,o1_4_12,o1_5_13,o1_6_14,o1_7_15,o1_8_16,o1_9_17) =>
   bif ((decide (e_8=0)) && (!((decide (c_1.Kind=c_1.Kind)) && ((decide (c_1.File.Path=o1_1_9)) && ((decide (c_1.File.Data=o1_2_10)) && ((decide (c_1.File.Runs=o1_3_11)) && ((decide (c_1.Setting.Key=o1_4_12)) && ((decide (c_1.Setting.Value=o1_5_13)) && ((decide (c_1.Service.Name=o1_6_14)) && ((decide (c_1.Service.Path=o1_7_15)) && ((decide (c_1.Service.Auto=o1_8_16)) && (decide (c_1.Service.On=o1_9_17))))))))))))) then
    some 2
   else
   some e_8) fun k_18 =>
 bif decide (c_1.Kind=1) then
  call (disk_fileFault c_1.File) fun r_19 =>
  k_18 (r_19,c_1.File.Path,c_1.File.Data,c_1.File.Runs,[],[],[],[],false,false)
 else
 bif decide (c_1.Kind=2) then
  call (disk_fileFault (api_File.mk c_1.File.Path [] false)) fun r_20 =>
  k_18 (r_20,c_1.File.Path,[],false,[],[],[],[],false,false)
 else
 bif decide (c_1.Kind=3) then
  call (disk_settingFault_i2 c_1.Setting) fun r_21 =>
  k_18 (r_21,[],[],false,c_1.Setting.Key,c_1.Setting.Value,[],[],false,false)
 else
 bif decide (c_1.Kind=4) then
  call (disk_settingFault_i2 (api_Setting.mk c_1.Setting.Key [])) fun r_22 =>
  k_18 (r_22,[],[],false,c_1.Setting.Key,[],[],[],false,false)
 else
 bif decide (c_1.Kind=5) then
  call (disk_serviceFault c_1.Service) fun r_23 =>
  k_18 (r_23,[],[],false,[],[],c_1.Service.Name,c_1.Service.Path,c_1.Service.Auto,c_1.Service.On)
 else
 bif decide (c_1.Kind=6) then
  call (ver_IsName c_1.Service.Name) fun r_24 =>
  bif !r_24 then
   k_18 (5,[],[],false,[],[],c_1.Service.Name,[],false,false)
  else
  k_18 (0,[],[],false,[],[],c_1.Service.Name,[],false,false)
 else
 some 1
noncomputable def strings_SplitAfter (s_1:Str) (sep_2:Str):Option (List Str) :=
 call (strings_genSplit s_1 sep_2 (sep_2.length:Int) (-1)) fun r_3 =>
 some r_3
noncomputable def internal_stringslite_CutPrefix (s_1:Str) (prefix_2:Str):Option (Str × Bool) :=
 call (internal_stringslite_HasPrefix s_1 prefix_2) fun r_3 =>
 bif !r_3 then
  some (s_1,false)
 else
 chk (0≤(prefix_2.length:Int)∧(prefix_2.length:Int)≤(s_1.length:Int)) <|
 some (List.drop prefix_2.length s_1,true)
noncomputable def strings_CutPrefix (s_1:Str) (prefix_2:Str):Option (Str × Bool) :=
 call (internal_stringslite_CutPrefix s_1 prefix_2) fun r_3 =>
 some (r_3.1,r_3.2)
noncomputable def internal_stringslite_HasSuffix (s_1:Str) (suffix_2:Str):Option Bool :=
 chk ((decide ((suffix_2.length:Int)≤(s_1.length:Int)))=true→(0≤IntKind.i64.wrap ((s_1.length:Int) - (suffix_2.length:Int))∧IntKind.i64.wrap ((s_1.length:Int) - (suffix_2.length:Int))≤(s_1.length:Int))) <|
 some ((decide ((suffix_2.length:Int)≤(s_1.length:Int))) && (decide ((List.drop ((IntKind.i64.wrap ((s_1.length:Int) - (suffix_2.length:Int))).toNat) s_1)=suffix_2)))
noncomputable def internal_stringslite_CutSuffix (s_1:Str) (suffix_2:Str):Option (Str × Bool) :=
 call (internal_stringslite_HasSuffix s_1 suffix_2) fun r_3 =>
 bif !r_3 then
  some (s_1,false)
 else
 chk (0≤IntKind.i64.wrap ((s_1.length:Int) - (suffix_2.length:Int))∧IntKind.i64.wrap ((s_1.length:Int) - (suffix_2.length:Int))≤(s_1.length:Int)) <|
 some (List.take ((IntKind.i64.wrap ((s_1.length:Int) - (suffix_2.length:Int))).toNat) s_1,true)
noncomputable def strings_CutSuffix (s_1:Str) (suffix_2:Str):Option (Str × Bool) :=
 call (internal_stringslite_CutSuffix s_1 suffix_2) fun r_3 =>
 some (r_3.1,r_3.2)
noncomputable def stage_reader_line_i1 (word_1:Str) (o0_0_2:List Str) (o0_1_3:Bool):Option (Str × Bool × List Str) :=
 bif (o0_1_3 || (decide ((o0_0_2.length:Int)=0))) then
  some ([],true,o0_0_2)
 else
 idx o0_0_2 0 fun s_9 =>
 chk ((word_1++([32]:Str)).length≤274877906944) <|
 call (strings_CutPrefix s_9 (word_1++([32]:Str))) fun r_11 =>
 call (strings_CutSuffix r_11.1 ([10]:Str)) fun r_12 =>
 chk (0≤1∧1≤(o0_0_2.length:Int)) <|
 some (r_12.1,((!r_11.2) || (!r_12.2)),List.drop 1 o0_0_2)
noncomputable def strconv_Atoi (s:Str):Option (Int × Bool):=some (atoiV s,atoiE s)
noncomputable def stage_number (s_1:Str):Option (Int × Bool) :=
 chk ((!((decide (s_1=[])) || (decide (9 < (s_1.length:Int)))))=true→(0≤0∧0 < (s_1.length:Int))) <|
 bif (((decide (s_1=[])) || (decide (9 < (s_1.length:Int)))) || ((decide (((s_1.getD 0 0).toNat:Int)=48)) && (!decide (s_1=([48]:Str))))) then
  some (0,false)
 else
 jp (S:=Unit) (fun _ =>
  call (strconv_Atoi s_1) fun r_11 =>
  some (r_11.1,r_11.2)) fun k_10 =>
 forL s_1 0 (fun i_16 c_18 s nx_15 k_14 =>
  bif ((decide ((c_18.toNat:Int) < 48)) || (decide (57 < (c_18.toNat:Int)))) then
   some (0,false)
  else
  nx_15 ()) () (fun _ =>
  k_10 ())
noncomputable def strings_Builder_Grow (n:Int) (o0:Str):Option Unit:=chk (0≤n∧n≤274877906944) <| some ()
noncomputable def strings_Builder_copyCheck_i1 (o1_1:Str):Option Unit :=
 some ()
noncomputable def strings_Builder_copyCheck_i2 (o1_1:Str):Option Unit :=
 some ()
noncomputable def strings_Builder_copyCheck_np (o0:Str):Option Unit:=some ()
noncomputable def strings_Builder_WriteString_i1 (s_1:Str) (o1_2:Str):Option (Int × Str) :=
 call (strings_Builder_copyCheck_np o1_2) fun r_5 =>
 chk ((o1_2++s_1).length≤274877906944) <|
 some ((s_1.length:Int),o1_2++s_1)
noncomputable def strings_Builder_String_i1 (o1_1:Str):Option Str :=
 some o1_1
noncomputable def strings_Join (elems_1:List Str) (sep_2:Str):Option Str :=
 bif decide ((elems_1.length:Int)=0) then
  some []
 else
 bif decide ((elems_1.length:Int)=1) then
  idx elems_1 0 fun s_3 =>
  some s_3
 else
 jp (S:=Int) (fun n_5 =>
  jp (S:=Int) (fun n_15 =>
   call (strings_Builder_Grow n_15 []) fun r_17 =>
   idx elems_1 0 fun s_18 =>
   call (strings_Builder_WriteString_i1 s_18 []) fun r_19 =>
   jp (S:=Str) (fun o1_37 =>
    call (strings_Builder_String_i1 o1_37) fun r_39 =>
    some r_39) fun k_38 =>
   chk (0≤1∧1≤(elems_1.length:Int)) <|
   forL (List.drop 1 elems_1) 0 (fun i_52 s_54 o1_46 nx_51 k_50 =>
    call (strings_Builder_WriteString_i1 sep_2 o1_46) fun r_55 =>
    call (strings_Builder_WriteString_i1 s_54 r_55.2) fun r_56 =>
    nx_51 r_56.2) r_19.2 (fun o1_46 =>
    k_38 o1_46)) fun k_16 =>
  forL elems_1 0 (fun i_62 s_64 n_57 nx_61 k_60 =>
   bif decide ((IntKind.i64.wrap (9223372036854775807 - n_57)) < (s_64.length:Int)) then
    none
   else
   nx_61 (IntKind.i64.wrap (n_57+(s_64.length:Int)))) n_5 (fun n_57 =>
   k_16 n_57)) fun k_6 =>
 bif decide (0 < (sep_2.length:Int)) then
  chk (¬ (IntKind.i64.wrap ((elems_1.length:Int) - 1))=0) <|
  bif decide ((IntKind.i64.wrap (Int.tdiv 9223372036854775807 (IntKind.i64.wrap ((elems_1.length:Int) - 1))))≤(sep_2.length:Int)) then
   none
  else
  k_6 (IntKind.i64.wrap (0+(IntKind.i64.wrap ((sep_2.length:Int) * (IntKind.i64.wrap ((elems_1.length:Int) - 1))))))
 else
 k_6 0
noncomputable def internal_stringslite_Cut (s_1:Str) (sep_2:Str):Option (Str × Str × Bool) :=
 call (internal_stringslite_Index s_1 sep_2) fun r_3 =>
 bif decide (0≤r_3) then
  chk (0≤r_3∧r_3≤(s_1.length:Int)) <|
  chk (0≤IntKind.i64.wrap (r_3+(sep_2.length:Int))∧IntKind.i64.wrap (r_3+(sep_2.length:Int))≤(s_1.length:Int)) <|
  some (List.take r_3.toNat s_1,List.drop ((IntKind.i64.wrap (r_3+(sep_2.length:Int))).toNat) s_1,true)
 else
 some (s_1,[],false)
noncomputable def strings_Cut (s_1:Str) (sep_2:Str):Option (Str × Str × Bool) :=
 call (internal_stringslite_Cut s_1 sep_2) fun r_3 =>
 some (r_3.1,r_3.2.1,r_3.2.2)
noncomputable def strings_IndexByte (s_1:Str) (c_2:Int):Option Int :=
 call (internal_stringslite_IndexByte s_1 c_2) fun r_3 =>
 some r_3
noncomputable def disk_escape (s_1:Str):Option (Int × Int) :=
 bif decide (s_1=[]) then
  some (0,0)
 else
 idxS s_1 0 fun c_2 =>
 bif ((decide (c_2=92)) || (decide (c_2=34))) then
  some (c_2,1)
 else
 bif decide (c_2=110) then
  some (10,1)
 else
 bif ((!decide (c_2=120)) || (decide ((s_1.length:Int) < 3))) then
  some (0,0)
 else
 idxS s_1 1 fun c_3 =>
 call (strings_IndexByte ([48,49,50,51,52,53,54,55,56,57,97,98,99,100,101,102]:Str) c_3) fun r_4 =>
 idxS s_1 2 fun c_5 =>
 call (strings_IndexByte ([48,49,50,51,52,53,54,55,56,57,97,98,99,100,101,102]:Str) c_5) fun r_6 =>
 bif ((decide (r_4 < 0)) || (decide (r_6 < 0))) then
  some (0,0)
 else
 bif (((decide (32≤(IntKind.u8.wrap (IntKind.i64.wrap ((IntKind.i64.wrap (16 * r_4))+r_6))))) && (decide ((IntKind.u8.wrap (IntKind.i64.wrap ((IntKind.i64.wrap (16 * r_4))+r_6)))≤126))) || (decide ((IntKind.u8.wrap (IntKind.i64.wrap ((IntKind.i64.wrap (16 * r_4))+r_6)))=10))) then
  some (0,0)
 else
 some (IntKind.u8.wrap (IntKind.i64.wrap ((IntKind.i64.wrap (16 * r_4))+r_6)),3)
noncomputable def disk_Unquote (s_1:Str):Option (Str × Int) :=
 chk ((!(decide ((s_1.length:Int) < 2)))=true→(0≤0∧0 < (s_1.length:Int))) <|
 chk ((!((decide ((s_1.length:Int) < 2)) || (!decide (((s_1.getD 0 0).toNat:Int)=34))))=true→(0≤IntKind.i64.wrap ((s_1.length:Int) - 1)∧IntKind.i64.wrap ((s_1.length:Int) - 1) < (s_1.length:Int))) <|
 bif (((decide ((s_1.length:Int) < 2)) || (!decide (((s_1.getD 0 0).toNat:Int)=34))) || (!decide (((s_1.getD ((IntKind.i64.wrap ((s_1.length:Int) - 1)).toNat) 0).toNat:Int)=34))) then
  some ([],8)
 else
 chk (0≤1∧1≤(s_1.length:Int)∧0≤IntKind.i64.wrap ((s_1.length:Int) - 1)∧IntKind.i64.wrap ((s_1.length:Int) - 1)≤(s_1.length:Int)∧1≤IntKind.i64.wrap ((s_1.length:Int) - 1)) <|
 chk (0≤0∧0≤((List.take ((IntKind.i64.wrap ((s_1.length:Int) - 1)).toNat - 1) (List.drop 1 s_1)).length:Int)∧((List.take ((IntKind.i64.wrap ((s_1.length:Int) - 1)).toNat - 1) (List.drop 1 s_1)).length:Int)≤274877906944) <|
 jp (S:=List Int) (fun o0_26 =>
  some (Go.Vc.strOf o0_26,0)) fun k_27 =>
 loopN Fuel (fun s nx_42 k_41 =>
  match s with
  | (i_34,o0_35) =>
   bif decide (i_34 < ((List.take ((IntKind.i64.wrap ((s_1.length:Int) - 1)).toNat - 1) (List.drop 1 s_1)).length:Int)) then
    idxS (List.take ((IntKind.i64.wrap ((s_1.length:Int) - 1)).toNat - 1) (List.drop 1 s_1)) i_34 fun c_43 =>
    bif (((decide (c_43 < 32)) || (decide (126 < c_43))) || (decide (c_43=34))) then
     some ([],8)
    else
    bif decide (c_43=92) then
     chk (0≤IntKind.i64.wrap (i_34+1)∧IntKind.i64.wrap (i_34+1)≤((List.take ((IntKind.i64.wrap ((s_1.length:Int) - 1)).toNat - 1) (List.drop 1 s_1)).length:Int)) <|
     call (disk_escape (List.drop ((IntKind.i64.wrap (i_34+1)).toNat) (List.take ((IntKind.i64.wrap ((s_1.length:Int) - 1)).toNat - 1) (List.drop 1 s_1)))) fun r_45 =>
     bif decide (r_45.2=0) then
      some ([],8)
     else
     chk ((o0_35++[r_45.1]).length≤274877906944) <|
     nx_42 (IntKind.i64.wrap ((IntKind.i64.wrap (i_34+r_45.2))+1),o0_35++[r_45.1])
    else
    chk ((o0_35++[c_43]).length≤274877906944) <|
    nx_42 (IntKind.i64.wrap (i_34+1),o0_35++[c_43])
   else
   k_41 (i_34,o0_35)) (0,List.replicate 0 0) (fun s=>match s with
  | (i_34,o0_35) =>
   k_27 o0_35)
noncomputable def disk_isBit (s_1:Str):Option Bool :=
 some ((decide (s_1=([48]:Str))) || (decide (s_1=([49]:Str))))
noncomputable def disk_readLine (s_1:Str):Option (disk_line × Bool) :=
 call (strings_Cut s_1 ([32]:Str)) fun r_2 =>
 call (strings_Cut r_2.2.1 ([32]:Str)) fun r_3 =>
 bif ((!r_2.2.2) || (decide (r_3.1=[]))) then
  some ((disk_line.mk [] (api_File.mk [] [] false) (api_Setting.mk [] []) (api_Service.mk [] [] false false)),false)
 else
 jp (S:=Bool) (fun t38_4 =>
  bif t38_4 then
   call (disk_Unquote r_3.2.1) fun r_6 =>
   some ((disk_line.mk r_2.1 (api_File.mk [] [] false) (api_Setting.mk r_3.1 r_6.1) (api_Service.mk [] [] false false)),(r_3.2.2 && (decide (r_6.2=0))))
  else
  jp (S:=Bool) (fun t56_7 =>
   bif t56_7 then
    call (disk_Unquote r_3.2.1) fun r_9 =>
    some ((disk_line.mk r_2.1 (api_File.mk r_3.1 r_9.1 ((decide (r_2.1=([114,117,110]:Str))) || (decide (r_2.1=([112,117,116,114,117,110]:Str))))) (api_Setting.mk [] []) (api_Service.mk [] [] false false)),(r_3.2.2 && (decide (r_9.2=0))))
   else
   bif decide (r_2.1=([115,101,114,118,105,99,101]:Str)) then
    call (strings_Split r_3.2.1 ([32]:Str)) fun r_10 =>
    chk ((!((!r_3.2.2) || (!decide ((r_10.length:Int)=3))))=true→(0≤0∧0 < (r_10.length:Int))) <|
    chk ((!(((!r_3.2.2) || (!decide ((r_10.length:Int)=3))) || (decide ((r_10.getD 0 [])=[]))))=true→(0≤1∧1 < (r_10.length:Int))) <|
    callG (!(((!r_3.2.2) || (!decide ((r_10.length:Int)=3))) || (decide ((r_10.getD 0 [])=[])))) (disk_isBit (r_10.getD 1 [])) false fun r_13 =>
    chk ((!((((!r_3.2.2) || (!decide ((r_10.length:Int)=3))) || (decide ((r_10.getD 0 [])=[]))) || (!r_13)))=true→(0≤2∧2 < (r_10.length:Int))) <|
    callG (!((((!r_3.2.2) || (!decide ((r_10.length:Int)=3))) || (decide ((r_10.getD 0 [])=[]))) || (!r_13))) (disk_isBit (r_10.getD 2 [])) false fun r_15 =>
    bif (((((!r_3.2.2) || (!decide ((r_10.length:Int)=3))) || (decide ((r_10.getD 0 [])=[]))) || (!r_13)) || (!r_15)) then
     some ((disk_line.mk [] (api_File.mk [] [] false) (api_Setting.mk [] []) (api_Service.mk [] [] false false)),false)
    else
    idx r_10 0 fun s_19 =>
    idx r_10 1 fun s_20 =>
    idx r_10 2 fun s_21 =>
    some ((disk_line.mk r_2.1 (api_File.mk [] [] false) (api_Setting.mk [] []) (api_Service.mk r_3.1 s_19 (decide (s_20=([49]:Str))) (decide (s_21=([49]:Str))))),true)
   else
   bif decide (r_2.1=([114,101,109,111,118,101]:Str)) then
    some ((disk_line.mk r_2.1 (api_File.mk r_3.1 [] false) (api_Setting.mk [] []) (api_Service.mk [] [] false false)),!r_3.2.2)
   else
   bif decide (r_2.1=([117,110,115,101,116]:Str)) then
    some ((disk_line.mk r_2.1 (api_File.mk [] [] false) (api_Setting.mk r_3.1 []) (api_Service.mk [] [] false false)),!r_3.2.2)
   else
   bif decide (r_2.1=([100,114,111,112]:Str)) then
    some ((disk_line.mk r_2.1 (api_File.mk [] [] false) (api_Setting.mk [] []) (api_Service.mk r_3.1 [] false false)),!r_3.2.2)
   else
   some ((disk_line.mk r_2.1 (api_File.mk [] [] false) (api_Setting.mk [] []) (api_Service.mk [] [] false false)),!r_3.2.2)) fun k_8 =>
  bif decide (r_2.1=([102,105,108,101]:Str)) then
   k_8 (decide (r_2.1=([102,105,108,101]:Str)))
  else
  bif decide (r_2.1=([114,117,110]:Str)) then
   k_8 (decide (r_2.1=([114,117,110]:Str)))
  else
  bif decide (r_2.1=([112,117,116]:Str)) then
   k_8 (decide (r_2.1=([112,117,116]:Str)))
  else
  k_8 (decide (r_2.1=([112,117,116,114,117,110]:Str)))) fun k_5 =>
 bif decide (r_2.1=([102,97,99,116]:Str)) then
  k_5 (decide (r_2.1=([102,97,99,116]:Str)))
 else
 k_5 (decide (r_2.1=([115,101,116]:Str)))
noncomputable def disk_changeKind (word_1:Str):Option Int :=
 jp (S:=Bool) (fun t4_2 =>
  bif t4_2 then
   some 1
  else
  bif decide (word_1=([114,101,109,111,118,101]:Str)) then
   some 2
  else
  bif decide (word_1=([115,101,116]:Str)) then
   some 3
  else
  bif decide (word_1=([117,110,115,101,116]:Str)) then
   some 4
  else
  bif decide (word_1=([115,101,114,118,105,99,101]:Str)) then
   some 5
  else
  bif decide (word_1=([100,114,111,112]:Str)) then
   some 6
  else
  some 0) fun k_3 =>
 bif decide (word_1=([112,117,116]:Str)) then
  k_3 (decide (word_1=([112,117,116]:Str)))
 else
 k_3 (decide (word_1=([112,117,116,114,117,110]:Str)))
noncomputable def disk_ParseChanges_1_i1 (x_1:disk_line) (o1_2:List api_Change):Option (Bool × List api_Change) :=
 call (disk_changeKind x_1.word) fun r_5 =>
 chk ((o1_2++[(api_Change.mk r_5 x_1.file x_1.setting x_1.service)]).length≤274877906944) <|
 some (!decide (r_5=0),o1_2++[(api_Change.mk r_5 x_1.file x_1.setting x_1.service)])
noncomputable def disk_eachLine_i1 (text_1:Str) (o1_2:List api_Change):Option (Int × List api_Change) :=
 jp (S:=List api_Change) (fun o1_53 =>
  some ((-1),o1_53)) fun k_54 =>
 loopN Fuel (fun s nx_67 k_66 =>
  match s with
  | (text_60,n_61,o1_62) =>
   bif !decide (text_60=[]) then
    call (strings_Cut text_60 ([10]:Str)) fun r_68 =>
    call (disk_readLine r_68.1) fun r_69 =>
    callG (!((!r_68.2.2) || (!r_69.2))) (disk_ParseChanges_1_i1 r_69.1 o1_62) (false,o1_62) fun r_70 =>
    bif (((!r_68.2.2) || (!r_69.2)) || (!r_70.1)) then
     some (n_61,r_70.2)
    else
    nx_67 (r_68.2.1,IntKind.i64.wrap (n_61+1),r_70.2)
   else
   k_66 (text_60,n_61,o1_62)) (text_1,0,o1_2) (fun s=>match s with
  | (text_60,n_61,o1_62) =>
   k_54 o1_62)
noncomputable def disk_changesFault (l_1:List api_Change):Option Int :=
 jp (S:=Unit) (fun _ =>
  some 0) fun k_11 =>
 forL l_1 0 (fun i_17 c_19 s nx_16 k_15 =>
  call (disk_CheckChange c_19) fun r_20 =>
  bif !decide (r_20=0) then
   some r_20
  else
  nx_16 ()) () (fun _ =>
  k_11 ())
noncomputable def disk_ParseChanges (text_1:Str):Option (List api_Change × Int × Int) :=
 bif decide (4194304 < (text_1.length:Int)) then
  some ([],0,4)
 else
 call (disk_eachLine_i1 text_1 []) fun r_2 =>
 bif decide (0≤r_2.1) then
  some ([],r_2.1,8)
 else
 call (disk_changesFault r_2.2) fun r_3 =>
 bif !decide (r_3=0) then
  some ([],0,r_3)
 else
 some (r_2.2,0,0)
noncomputable def stage_reader_changes_i1 (word_1:Str) (o0_0_2:List Str) (o0_1_3:Bool):Option (List api_Change × Int × List Str × Bool) :=
 call (stage_reader_line_i1 word_1 o0_0_2 o0_1_3) fun r_10 =>
 call (stage_number r_10.1) fun r_11 =>
 bif ((r_10.2.1 || (!r_11.2)) || (decide ((r_10.2.2.length:Int) < r_11.1))) then
  some ([],0,r_10.2.2,true)
 else
 chk (0≤r_11.1∧r_11.1≤(r_10.2.2.length:Int)) <|
 call (strings_Join (List.take r_11.1.toNat r_10.2.2) []) fun r_13 =>
 call (disk_ParseChanges r_13) fun r_14 =>
 chk (0≤r_11.1∧r_11.1≤(r_10.2.2.length:Int)) <|
 some (r_14.1,r_14.2.2,List.drop r_11.1.toNat r_10.2.2,decide (r_14.2.2=8))
noncomputable def stage_isSum (s_1:Str):Option Bool :=
 jp (S:=Unit) (fun _ =>
  some (decide ((s_1.length:Int)=16))) fun k_9 =>
 forL s_1 0 (fun i_14 c_16 s nx_13 k_12 =>
  bif !(((decide (48≤(c_16.toNat:Int))) && (decide ((c_16.toNat:Int)≤57))) || ((decide (97≤(c_16.toNat:Int))) && (decide ((c_16.toNat:Int)≤102)))) then
   some false
  else
  nx_13 ()) () (fun _ =>
  k_9 ())
noncomputable def disk_SumOf (text_1:Str):Option Str :=
 jp (S:=Int) (fun n_10 =>
  jp (S:=List Int) (fun o0_26 =>
   some (Go.Vc.strOf o0_26)) fun k_27 =>
  loopN Fuel (fun s nx_38 k_37 =>
   match s with
   | (t23_32,o0_33) =>
    bif decide (t23_32 < ((List.replicate 16 0).length:Int)) then
     chk (0≤(IntKind.i64.wrap (60 - (IntKind.i64.wrap (4 * t23_32))))) <|
     idxS ([48,49,50,51,52,53,54,55,56,57,97,98,99,100,101,102]:Str) (bitsI .and .u64 (Int.fdiv n_10 (2 ^ (shI .u64 (IntKind.i64.wrap (60 - (IntKind.i64.wrap (4 * t23_32))))))) 15) fun c_40 =>
     chk (0≤t23_32∧t23_32 < (o0_33.length:Int)) <|
     nx_38 (IntKind.i64.wrap (t23_32+1),List.set o0_33 t23_32.toNat c_40)
    else
    k_37 (t23_32,o0_33)) (0,List.replicate 16 0) (fun s=>match s with
   | (t23_32,o0_33) =>
    k_27 o0_33)) fun k_11 =>
 forL text_1 0 (fun i_47 c_49 n_42 nx_46 k_45 =>
  nx_46 (IntKind.u64.wrap ((bitsI .xor .u64 n_42 (IntKind.u64.wrap (c_49.toNat:Int))) * 1099511628211))) 14695981039346656037 (fun n_42 =>
  k_11 n_42)
noncomputable def stage_ParseJournal (text_1:Str):Option (api_Journal × Int) :=
 call (strings_SplitAfter text_1 ([10]:Str)) fun r_2 =>
 chk (0≤IntKind.i64.wrap ((r_2.length:Int) - 1)∧IntKind.i64.wrap ((r_2.length:Int) - 1)≤(r_2.length:Int)) <|
 call (stage_reader_line_i1 ([106,111,117,114,110,97,108]:Str) (List.take ((IntKind.i64.wrap ((r_2.length:Int) - 1)).toNat) r_2) false) fun r_4 =>
 call (stage_reader_changes_i1 ([99,104,97,110,103,101,115]:Str) r_4.2.2 r_4.2.1) fun r_5 =>
 call (stage_reader_changes_i1 ([111,108,100]:Str) r_5.2.2.1 r_5.2.2.2) fun r_6 =>
 jp (S:=Int) (fun ahead_8 =>
  call (stage_reader_line_i1 ([115,117,109]:Str) r_6.2.2.1 r_6.2.2.2) fun r_10 =>
  chk ((!(r_10.2.1 || (decide (0 < (r_10.2.2.length:Int)))))=true→(0≤IntKind.i64.wrap ((r_2.length:Int) - 1)∧IntKind.i64.wrap ((r_2.length:Int) - 1) < (r_2.length:Int))) <|
  callG (!((r_10.2.1 || (decide (0 < (r_10.2.2.length:Int)))) || (!decide ((r_2.getD ((IntKind.i64.wrap ((r_2.length:Int) - 1)).toNat) [])=[])))) (stage_isSum r_10.1) false fun r_12 =>
  bif (((r_10.2.1 || (decide (0 < (r_10.2.2.length:Int)))) || (!decide ((r_2.getD ((IntKind.i64.wrap ((r_2.length:Int) - 1)).toNat) [])=[]))) || (!r_12)) then
   some ((api_Journal.mk [] [] []),8)
  else
  chk (0≤ahead_8∧ahead_8≤(text_1.length:Int)) <|
  call (disk_SumOf (List.take ahead_8.toNat text_1)) fun r_15 =>
  bif !decide (r_10.1=r_15) then
   some ((api_Journal.mk [] [] []),14)
  else
  call (ver_IsName r_4.1) fun r_16 =>
  bif !r_16 then
   some ((api_Journal.mk [] [] []),5)
  else
  bif !decide (r_5.2.1=0) then
   some ((api_Journal.mk [] [] []),r_5.2.1)
  else
  bif !decide (r_6.2.1=0) then
   some ((api_Journal.mk [] [] []),r_6.2.1)
  else
  bif decide (65536 < (text_1.length:Int)) then
   some ((api_Journal.mk [] [] []),4)
  else
  some ((api_Journal.mk r_4.1 r_5.1 r_6.1),0)) fun k_9 =>
 bif decide (0 < (r_6.2.2.1.length:Int)) then
  idx r_6.2.2.1 0 fun s_17 =>
  k_9 (IntKind.i64.wrap ((text_1.length:Int) - (s_17.length:Int)))
 else
 k_9 (text_1.length:Int)
noncomputable def disk_Quote (s_1:Str):Option Str :=
 chk (0≤0∧0≤IntKind.i64.wrap ((s_1.length:Int)+2)∧IntKind.i64.wrap ((s_1.length:Int)+2)≤274877906944) <|
 chk (((List.replicate 0 0)++[34]).length≤274877906944) <|
 jp (S:=List Int) (fun o0_32 =>
  chk ((o0_32++[34]).length≤274877906944) <|
  some (Go.Vc.strOf (o0_32++[34]))) fun k_33 =>
 forL s_1 0 (fun i_54 c_56 o0_44 nx_53 k_52 =>
  bif ((decide ((c_56.toNat:Int)=92)) || (decide ((c_56.toNat:Int)=34))) then
   chk ((o0_44++[92,(c_56.toNat:Int)]).length≤274877906944) <|
   nx_53 (o0_44++[92,(c_56.toNat:Int)])
  else
  bif decide ((c_56.toNat:Int)=10) then
   chk ((o0_44++[92,110]).length≤274877906944) <|
   nx_53 (o0_44++[92,110])
  else
  bif ((decide ((c_56.toNat:Int) < 32)) || (decide (126 < (c_56.toNat:Int)))) then
   idxS ([48,49,50,51,52,53,54,55,56,57,97,98,99,100,101,102]:Str) (Int.fdiv (c_56.toNat:Int) (2 ^ (shI .u8 4))) fun c_59 =>
   idxS ([48,49,50,51,52,53,54,55,56,57,97,98,99,100,101,102]:Str) (bitsI .and .u8 (c_56.toNat:Int) 15) fun c_60 =>
   chk ((o0_44++[92,120,c_59,c_60]).length≤274877906944) <|
   nx_53 (o0_44++[92,120,c_59,c_60])
  else
  chk ((o0_44++[(c_56.toNat:Int)]).length≤274877906944) <|
  nx_53 (o0_44++[(c_56.toNat:Int)])) ((List.replicate 0 0)++[34]) (fun o0_44 =>
  k_33 o0_44)
noncomputable def disk_fileLine (word_1:Str) (runs_2:Str) (f_3:api_File):Option Str :=
 jp (S:=Str) (fun word_4 =>
  chk ((word_4++([32]:Str)).length≤274877906944) <|
  chk (((word_4++([32]:Str))++f_3.Path).length≤274877906944) <|
  chk ((((word_4++([32]:Str))++f_3.Path)++([32]:Str)).length≤274877906944) <|
  call (disk_Quote f_3.Data) fun r_9 =>
  chk (((((word_4++([32]:Str))++f_3.Path)++([32]:Str))++r_9).length≤274877906944) <|
  chk ((((((word_4++([32]:Str))++f_3.Path)++([32]:Str))++r_9)++([10]:Str)).length≤274877906944) <|
  some (((((word_4++([32]:Str))++f_3.Path)++([32]:Str))++r_9)++([10]:Str))) fun k_5 =>
 bif f_3.Runs then
  k_5 runs_2
 else
 k_5 word_1
noncomputable def disk_settingLine (word_1:Str) (s_2:api_Setting):Option Str :=
 chk ((word_1++([32]:Str)).length≤274877906944) <|
 chk (((word_1++([32]:Str))++s_2.Key).length≤274877906944) <|
 chk ((((word_1++([32]:Str))++s_2.Key)++([32]:Str)).length≤274877906944) <|
 call (disk_Quote s_2.Value) fun r_6 =>
 chk (((((word_1++([32]:Str))++s_2.Key)++([32]:Str))++r_6).length≤274877906944) <|
 chk ((((((word_1++([32]:Str))++s_2.Key)++([32]:Str))++r_6)++([10]:Str)).length≤274877906944) <|
 some (((((word_1++([32]:Str))++s_2.Key)++([32]:Str))++r_6)++([10]:Str))
noncomputable def disk_bit (b_1:Bool):Option Str :=
 bif b_1 then
  some ([49]:Str)
 else
 some ([48]:Str)
noncomputable def disk_serviceLine (s_1:api_Service):Option Str :=
 chk ((([115,101,114,118,105,99,101,32]:Str)++s_1.Name).length≤274877906944) <|
 chk (((([115,101,114,118,105,99,101,32]:Str)++s_1.Name)++([32]:Str)).length≤274877906944) <|
 chk ((((([115,101,114,118,105,99,101,32]:Str)++s_1.Name)++([32]:Str))++s_1.Path).length≤274877906944) <|
 chk (((((([115,101,114,118,105,99,101,32]:Str)++s_1.Name)++([32]:Str))++s_1.Path)++([32]:Str)).length≤274877906944) <|
 call (disk_bit s_1.Auto) fun r_6 =>
 chk ((((((([115,101,114,118,105,99,101,32]:Str)++s_1.Name)++([32]:Str))++s_1.Path)++([32]:Str))++r_6).length≤274877906944) <|
 chk (((((((([115,101,114,118,105,99,101,32]:Str)++s_1.Name)++([32]:Str))++s_1.Path)++([32]:Str))++r_6)++([32]:Str)).length≤274877906944) <|
 call (disk_bit s_1.On) fun r_9 =>
 chk ((((((((([115,101,114,118,105,99,101,32]:Str)++s_1.Name)++([32]:Str))++s_1.Path)++([32]:Str))++r_6)++([32]:Str))++r_9).length≤274877906944) <|
 chk (((((((((([115,101,114,118,105,99,101,32]:Str)++s_1.Name)++([32]:Str))++s_1.Path)++([32]:Str))++r_6)++([32]:Str))++r_9)++([10]:Str)).length≤274877906944) <|
 some ((((((((([115,101,114,118,105,99,101,32]:Str)++s_1.Name)++([32]:Str))++s_1.Path)++([32]:Str))++r_6)++([32]:Str))++r_9)++([10]:Str))
noncomputable def disk_sized (s_1:Str):Option (Str × Int) :=
 bif decide (4194304 < (s_1.length:Int)) then
  some ([],4)
 else
 some (s_1,0)
noncomputable def disk_PrintChanges (l_1:List api_Change):Option (Str × Int) :=
 call (disk_changesFault l_1) fun r_2 =>
 bif !decide (r_2=0) then
  some ([],r_2)
 else
 jp (S:=Str) (fun o1_58 =>
  call (strings_Builder_String_i1 o1_58) fun r_60 =>
  call (disk_sized r_60) fun r_61 =>
  some (r_61.1,r_61.2)) fun k_59 =>
 forL l_1 0 (fun i_99 c_101 o1_80 nx_98 k_97 =>
  bif decide (c_101.Kind=1) then
   call (disk_fileLine ([112,117,116]:Str) ([112,117,116,114,117,110]:Str) c_101.File) fun r_102 =>
   call (strings_Builder_WriteString_i1 r_102 o1_80) fun r_103 =>
   nx_98 r_103.2
  else
  bif decide (c_101.Kind=2) then
   chk ((([114,101,109,111,118,101,32]:Str)++c_101.File.Path).length≤274877906944) <|
   chk (((([114,101,109,111,118,101,32]:Str)++c_101.File.Path)++([10]:Str)).length≤274877906944) <|
   call (strings_Builder_WriteString_i1 ((([114,101,109,111,118,101,32]:Str)++c_101.File.Path)++([10]:Str)) o1_80) fun r_106 =>
   nx_98 r_106.2
  else
  bif decide (c_101.Kind=3) then
   call (disk_settingLine ([115,101,116]:Str) c_101.Setting) fun r_107 =>
   call (strings_Builder_WriteString_i1 r_107 o1_80) fun r_108 =>
   nx_98 r_108.2
  else
  bif decide (c_101.Kind=4) then
   chk ((([117,110,115,101,116,32]:Str)++c_101.Setting.Key).length≤274877906944) <|
   chk (((([117,110,115,101,116,32]:Str)++c_101.Setting.Key)++([10]:Str)).length≤274877906944) <|
   call (strings_Builder_WriteString_i1 ((([117,110,115,101,116,32]:Str)++c_101.Setting.Key)++([10]:Str)) o1_80) fun r_111 =>
   nx_98 r_111.2
  else
  bif decide (c_101.Kind=5) then
   call (disk_serviceLine c_101.Service) fun r_112 =>
   call (strings_Builder_WriteString_i1 r_112 o1_80) fun r_113 =>
   nx_98 r_113.2
  else
  chk ((([100,114,111,112,32]:Str)++c_101.Service.Name).length≤274877906944) <|
  chk (((([100,114,111,112,32]:Str)++c_101.Service.Name)++([10]:Str)).length≤274877906944) <|
  call (strings_Builder_WriteString_i1 ((([100,114,111,112,32]:Str)++c_101.Service.Name)++([10]:Str)) o1_80) fun r_116 =>
  nx_98 r_116.2) [] (fun o1_80 =>
  k_59 o1_80)
noncomputable def strconv_Itoa (n:Int):Option Str:=chk (-9223372036854775808≤n∧n≤9223372036854775807) <| some (Go.Lib.itoa n)
noncomputable def stage_PrintJournal (j_1:api_Journal):Option (Str × Int) :=
 call (ver_IsName j_1.Id) fun r_2 =>
 bif !r_2 then
  some ([],5)
 else
 chk ((([106,111,117,114,110,97,108,32]:Str)++j_1.Id).length≤274877906944) <|
 chk (((([106,111,117,114,110,97,108,32]:Str)++j_1.Id)++([10]:Str)).length≤274877906944) <|
 jp (S:=Str) (fun s_27 =>
  call (disk_SumOf s_27) fun r_29 =>
  chk ((([115,117,109,32]:Str)++r_29).length≤274877906944) <|
  chk (((([115,117,109,32]:Str)++r_29)++([10]:Str)).length≤274877906944) <|
  chk ((s_27++((([115,117,109,32]:Str)++r_29)++([10]:Str))).length≤274877906944) <|
  bif decide (65536 < ((s_27++((([115,117,109,32]:Str)++r_29)++([10]:Str))).length:Int)) then
   some ([],4)
  else
  some (s_27++((([115,117,109,32]:Str)++r_29)++([10]:Str)),0)) fun k_28 =>
 forL [(S_word_l.mk ([99,104,97,110,103,101,115]:Str) j_1.Changes),(S_word_l.mk ([111,108,100]:Str) j_1.Old)] 0 (fun i_45 x_47 s_33 nx_44 k_43 =>
  call (disk_PrintChanges x_47.l) fun r_48 =>
  bif !decide (r_48.2=0) then
   some ([],r_48.2)
  else
  chk ((x_47.word++([32]:Str)).length≤274877906944) <|
  call (strconv_Itoa (x_47.l.length:Int)) fun r_50 =>
  chk (((x_47.word++([32]:Str))++r_50).length≤274877906944) <|
  chk ((((x_47.word++([32]:Str))++r_50)++([10]:Str)).length≤274877906944) <|
  chk (((((x_47.word++([32]:Str))++r_50)++([10]:Str))++r_48.1).length≤274877906944) <|
  chk ((s_33++((((x_47.word++([32]:Str))++r_50)++([10]:Str))++r_48.1)).length≤274877906944) <|
  nx_44 (s_33++((((x_47.word++([32]:Str))++r_50)++([10]:Str))++r_48.1))) ((([106,111,117,114,110,97,108,32]:Str)++j_1.Id)++([10]:Str)) (fun s_33 =>
  k_28 s_33)
noncomputable def R_cutLines (text_1:Str):Option (List Str × Int) :=
 call (strings_Split text_1 ([10]:Str)) fun r_2 =>
 idx r_2 (IntKind.i64.wrap ((r_2.length:Int) - 1)) fun s_3 =>
 bif decide (s_3=[]) then
  chk (0≤IntKind.i64.wrap ((r_2.length:Int) - 1)∧IntKind.i64.wrap ((r_2.length:Int) - 1)≤(r_2.length:Int)) <|
  some (List.take ((IntKind.i64.wrap ((r_2.length:Int) - 1)).toNat) r_2,(-1))
 else
 some (r_2,IntKind.i64.wrap ((r_2.length:Int) - 1))
noncomputable def R_ParseJournal_1 (e_1:Int):Option (api_Journal × Int) :=
 some ((api_Journal.mk [] [] []),e_1)
noncomputable def R_Quote (s_1:Str):Option Str :=
 jp (S:=Str) (fun out_32 =>
  chk ((out_32++([34]:Str)).length≤274877906944) <|
  some (out_32++([34]:Str))) fun k_33 =>
 forL s_1 0 (fun i_51 c_53 out_35 nx_50 k_49 =>
  bif ((decide ((c_53.toNat:Int)=34)) || (decide ((c_53.toNat:Int)=92))) then
   chk (0≤(i_51:Int)∧(i_51:Int)≤(s_1.length:Int)∧0≤IntKind.i64.wrap ((i_51:Int)+1)∧IntKind.i64.wrap ((i_51:Int)+1)≤(s_1.length:Int)∧(i_51:Int)≤IntKind.i64.wrap ((i_51:Int)+1)) <|
   chk ((([92]:Str)++(List.take ((IntKind.i64.wrap ((i_51:Int)+1)).toNat - i_51) (List.drop i_51 s_1))).length≤274877906944) <|
   chk ((out_35++(([92]:Str)++(List.take ((IntKind.i64.wrap ((i_51:Int)+1)).toNat - i_51) (List.drop i_51 s_1)))).length≤274877906944) <|
   nx_50 (out_35++(([92]:Str)++(List.take ((IntKind.i64.wrap ((i_51:Int)+1)).toNat - i_51) (List.drop i_51 s_1))))
  else
  bif decide ((c_53.toNat:Int)=10) then
   chk ((out_35++([92,110]:Str)).length≤274877906944) <|
   nx_50 (out_35++([92,110]:Str))
  else
  bif ((decide ((c_53.toNat:Int) < 32)) || (decide (126 < (c_53.toNat:Int)))) then
   chk (0≤Int.fdiv (c_53.toNat:Int) (2 ^ (shI .u8 4))∧Int.fdiv (c_53.toNat:Int) (2 ^ (shI .u8 4))≤(([48,49,50,51,52,53,54,55,56,57,97,98,99,100,101,102]:Str).length:Int)∧0≤IntKind.u8.wrap ((Int.fdiv (c_53.toNat:Int) (2 ^ (shI .u8 4)))+1)∧IntKind.u8.wrap ((Int.fdiv (c_53.toNat:Int) (2 ^ (shI .u8 4)))+1)≤(([48,49,50,51,52,53,54,55,56,57,97,98,99,100,101,102]:Str).length:Int)∧Int.fdiv (c_53.toNat:Int) (2 ^ (shI .u8 4))≤IntKind.u8.wrap ((Int.fdiv (c_53.toNat:Int) (2 ^ (shI .u8 4)))+1)) <|
   chk ((([92,120]:Str)++(List.take ((IntKind.u8.wrap ((Int.fdiv (c_53.toNat:Int) (2 ^ (shI .u8 4)))+1)).toNat - (Int.fdiv (c_53.toNat:Int) (2 ^ (shI .u8 4))).toNat) (List.drop ((Int.fdiv (c_53.toNat:Int) (2 ^ (shI .u8 4))).toNat) ([48,49,50,51,52,53,54,55,56,57,97,98,99,100,101,102]:Str)))).length≤274877906944) <|
   chk (0≤bitsI .and .u8 (c_53.toNat:Int) 15∧bitsI .and .u8 (c_53.toNat:Int) 15≤(([48,49,50,51,52,53,54,55,56,57,97,98,99,100,101,102]:Str).length:Int)∧0≤IntKind.u8.wrap ((bitsI .and .u8 (c_53.toNat:Int) 15)+1)∧IntKind.u8.wrap ((bitsI .and .u8 (c_53.toNat:Int) 15)+1)≤(([48,49,50,51,52,53,54,55,56,57,97,98,99,100,101,102]:Str).length:Int)∧bitsI .and .u8 (c_53.toNat:Int) 15≤IntKind.u8.wrap ((bitsI .and .u8 (c_53.toNat:Int) 15)+1)) <|
   chk (((([92,120]:Str)++(List.take ((IntKind.u8.wrap ((Int.fdiv (c_53.toNat:Int) (2 ^ (shI .u8 4)))+1)).toNat - (Int.fdiv (c_53.toNat:Int) (2 ^ (shI .u8 4))).toNat) (List.drop ((Int.fdiv (c_53.toNat:Int) (2 ^ (shI .u8 4))).toNat) ([48,49,50,51,52,53,54,55,56,57,97,98,99,100,101,102]:Str))))++(List.take ((IntKind.u8.wrap ((bitsI .and .u8 (c_53.toNat:Int) 15)+1)).toNat - (bitsI .and .u8 (c_53.toNat:Int) 15).toNat) (List.drop ((bitsI .and .u8 (c_53.toNat:Int) 15).toNat) ([48,49,50,51,52,53,54,55,56,57,97,98,99,100,101,102]:Str)))).length≤274877906944) <|
   chk ((out_35++((([92,120]:Str)++(List.take ((IntKind.u8.wrap ((Int.fdiv (c_53.toNat:Int) (2 ^ (shI .u8 4)))+1)).toNat - (Int.fdiv (c_53.toNat:Int) (2 ^ (shI .u8 4))).toNat) (List.drop ((Int.fdiv (c_53.toNat:Int) (2 ^ (shI .u8 4))).toNat) ([48,49,50,51,52,53,54,55,56,57,97,98,99,100,101,102]:Str))))++(List.take ((IntKind.u8.wrap ((bitsI .and .u8 (c_53.toNat:Int) 15)+1)).toNat - (bitsI .and .u8 (c_53.toNat:Int) 15).toNat) (List.drop ((bitsI .and .u8 (c_53.toNat:Int) 15).toNat) ([48,49,50,51,52,53,54,55,56,57,97,98,99,100,101,102]:Str))))).length≤274877906944) <|
   nx_50 (out_35++((([92,120]:Str)++(List.take ((IntKind.u8.wrap ((Int.fdiv (c_53.toNat:Int) (2 ^ (shI .u8 4)))+1)).toNat - (Int.fdiv (c_53.toNat:Int) (2 ^ (shI .u8 4))).toNat) (List.drop ((Int.fdiv (c_53.toNat:Int) (2 ^ (shI .u8 4))).toNat) ([48,49,50,51,52,53,54,55,56,57,97,98,99,100,101,102]:Str))))++(List.take ((IntKind.u8.wrap ((bitsI .and .u8 (c_53.toNat:Int) 15)+1)).toNat - (bitsI .and .u8 (c_53.toNat:Int) 15).toNat) (List.drop ((bitsI .and .u8 (c_53.toNat:Int) 15).toNat) ([48,49,50,51,52,53,54,55,56,57,97,98,99,100,101,102]:Str)))))
  else
  chk (0≤(i_51:Int)∧(i_51:Int)≤(s_1.length:Int)∧0≤IntKind.i64.wrap ((i_51:Int)+1)∧IntKind.i64.wrap ((i_51:Int)+1)≤(s_1.length:Int)∧(i_51:Int)≤IntKind.i64.wrap ((i_51:Int)+1)) <|
  chk ((out_35++(List.take ((IntKind.i64.wrap ((i_51:Int)+1)).toNat - i_51) (List.drop i_51 s_1))).length≤274877906944) <|
  nx_50 (out_35++(List.take ((IntKind.i64.wrap ((i_51:Int)+1)).toNat - i_51) (List.drop i_51 s_1)))) ([34]:Str) (fun out_35 =>
  k_33 out_35)
noncomputable def R_Unquote (s_1:Str):Option (Str × Int) :=
 chk ((!(decide ((s_1.length:Int) < 2)))=true→(0≤0∧0 < (s_1.length:Int))) <|
 chk ((!((decide ((s_1.length:Int) < 2)) || (!decide (((s_1.getD 0 0).toNat:Int)=34))))=true→(0≤IntKind.i64.wrap ((s_1.length:Int) - 1)∧IntKind.i64.wrap ((s_1.length:Int) - 1) < (s_1.length:Int))) <|
 bif (((decide ((s_1.length:Int) < 2)) || (!decide (((s_1.getD 0 0).toNat:Int)=34))) || (!decide (((s_1.getD ((IntKind.i64.wrap ((s_1.length:Int) - 1)).toNat) 0).toNat:Int)=34))) then
  some ([],8)
 else
 jp (S:=List Int) (fun o0_64 =>
  call (R_Quote (Go.Vc.strOf o0_64)) fun r_66 =>
  bif !decide (r_66=s_1) then
   some ([],8)
  else
  some (Go.Vc.strOf o0_64,0)) fun k_65 =>
 chk (0≤1∧1≤(s_1.length:Int)∧0≤IntKind.i64.wrap ((s_1.length:Int) - 1)∧IntKind.i64.wrap ((s_1.length:Int) - 1)≤(s_1.length:Int)∧1≤IntKind.i64.wrap ((s_1.length:Int) - 1)) <|
 loopN Fuel (fun s nx_108 k_107 =>
  match s with
  | (b_87,o0_88) =>
   bif !decide (b_87=[]) then
    idxS b_87 0 fun c_109 =>
    bif !decide (c_109=92) then
     chk ((o0_88++[c_109]).length≤274877906944) <|
     chk (0≤1∧1≤(b_87.length:Int)) <|
     nx_108 (List.drop 1 b_87,o0_88++[c_109])
    else
    chk ((decide (2≤(b_87.length:Int)))=true→(0≤1∧1 < (b_87.length:Int))) <|
    chk (((decide (2≤(b_87.length:Int))) && (!(decide (((b_87.getD 1 0).toNat:Int)=34))))=true→(0≤1∧1 < (b_87.length:Int))) <|
    bif ((decide (2≤(b_87.length:Int))) && ((decide (((b_87.getD 1 0).toNat:Int)=34)) || (decide (((b_87.getD 1 0).toNat:Int)=92)))) then
     idxS b_87 1 fun c_114 =>
     chk ((o0_88++[c_114]).length≤274877906944) <|
     chk (0≤2∧2≤(b_87.length:Int)) <|
     nx_108 (List.drop 2 b_87,o0_88++[c_114])
    else
    chk ((decide (2≤(b_87.length:Int)))=true→(0≤1∧1 < (b_87.length:Int))) <|
    bif ((decide (2≤(b_87.length:Int))) && (decide (((b_87.getD 1 0).toNat:Int)=110))) then
     chk ((o0_88++[10]).length≤274877906944) <|
     chk (0≤2∧2≤(b_87.length:Int)) <|
     nx_108 (List.drop 2 b_87,o0_88++[10])
    else
    chk ((decide (4≤(b_87.length:Int)))=true→(0≤1∧1 < (b_87.length:Int))) <|
    bif ((decide (4≤(b_87.length:Int))) && (decide (((b_87.getD 1 0).toNat:Int)=120))) then
     chk (0≤2∧2≤(b_87.length:Int)∧0≤3∧3≤(b_87.length:Int)∧2≤3) <|
     call (strings_Index ([48,49,50,51,52,53,54,55,56,57,97,98,99,100,101,102]:Str) (List.take (3 - 2) (List.drop 2 b_87))) fun r_122 =>
     chk (0≤3∧3≤(b_87.length:Int)∧0≤4∧4≤(b_87.length:Int)∧3≤4) <|
     call (strings_Index ([48,49,50,51,52,53,54,55,56,57,97,98,99,100,101,102]:Str) (List.take (4 - 3) (List.drop 3 b_87))) fun r_124 =>
     chk ((o0_88++[IntKind.u8.wrap (IntKind.i64.wrap ((IntKind.i64.wrap (r_122 * 16))+r_124))]).length≤274877906944) <|
     chk (0≤4∧4≤(b_87.length:Int)) <|
     nx_108 (List.drop 4 b_87,o0_88++[IntKind.u8.wrap (IntKind.i64.wrap ((IntKind.i64.wrap (r_122 * 16))+r_124))])
    else
    some ([],8)
   else
   k_107 (b_87,o0_88)) (List.take ((IntKind.i64.wrap ((s_1.length:Int) - 1)).toNat - 1) (List.drop 1 s_1),[]) (fun s=>match s with
  | (b_87,o0_88) =>
   k_65 o0_88)
noncomputable def R_quoted (s_1:Str):Option (Str × Str × Bool) :=
 call (strings_Cut s_1 ([32]:Str)) fun r_2 =>
 call (R_Unquote r_2.2.1) fun r_3 =>
 some (r_2.1,r_3.1,((r_2.2.2 && (!decide (r_2.1=[]))) && (decide (r_3.2=0))))
noncomputable def strings_Contains (s_1:Str) (substr_2:Str):Option Bool :=
 call (strings_Index s_1 substr_2) fun r_3 =>
 some (decide (0≤r_3))
noncomputable def R_serviceOf (w_1:List Str):Option (api_Service × Bool) :=
 chk ((!(!decide ((w_1.length:Int)=4)))=true→(0≤0∧0 < (w_1.length:Int))) <|
 chk ((!((!decide ((w_1.length:Int)=4)) || (decide ((w_1.getD 0 [])=[]))))=true→(0≤1∧1 < (w_1.length:Int))) <|
 chk ((!(((!decide ((w_1.length:Int)=4)) || (decide ((w_1.getD 0 [])=[]))) || (decide ((w_1.getD 1 [])=[]))))=true→(0≤2∧2 < (w_1.length:Int))) <|
 chk (((!(((!decide ((w_1.length:Int)=4)) || (decide ((w_1.getD 0 [])=[]))) || (decide ((w_1.getD 1 [])=[])))) && (!decide ((w_1.getD 2 [])=([48]:Str))))=true→(0≤2∧2 < (w_1.length:Int))) <|
 chk ((!((((!decide ((w_1.length:Int)=4)) || (decide ((w_1.getD 0 [])=[]))) || (decide ((w_1.getD 1 [])=[]))) || ((!decide ((w_1.getD 2 [])=([48]:Str))) && (!decide ((w_1.getD 2 [])=([49]:Str))))))=true→(0≤3∧3 < (w_1.length:Int))) <|
 chk (((!((((!decide ((w_1.length:Int)=4)) || (decide ((w_1.getD 0 [])=[]))) || (decide ((w_1.getD 1 [])=[]))) || ((!decide ((w_1.getD 2 [])=([48]:Str))) && (!decide ((w_1.getD 2 [])=([49]:Str)))))) && (!decide ((w_1.getD 3 [])=([48]:Str))))=true→(0≤3∧3 < (w_1.length:Int))) <|
 bif (((((!decide ((w_1.length:Int)=4)) || (decide ((w_1.getD 0 [])=[]))) || (decide ((w_1.getD 1 [])=[]))) || ((!decide ((w_1.getD 2 [])=([48]:Str))) && (!decide ((w_1.getD 2 [])=([49]:Str))))) || ((!decide ((w_1.getD 3 [])=([48]:Str))) && (!decide ((w_1.getD 3 [])=([49]:Str))))) then
  some ((api_Service.mk [] [] false false),false)
 else
 idx w_1 0 fun s_12 =>
 idx w_1 1 fun s_13 =>
 idx w_1 2 fun s_14 =>
 idx w_1 3 fun s_15 =>
 some ((api_Service.mk s_12 s_13 (decide (s_14=([49]:Str))) (decide (s_15=([49]:Str)))),true)
noncomputable def R_changeOf (l_1:Str):Option (api_Change × Bool) :=
 call (strings_Cut l_1 ([32]:Str)) fun r_2 =>
 call (R_quoted r_2.2.1) fun r_3 =>
 callG (!decide (r_2.2.1=[])) (strings_Contains r_2.2.1 ([32]:Str)) false fun r_4 =>
 jp (S:=Bool) (fun t33_5 =>
  bif t33_5 then
   some ((api_Change.mk 1 (api_File.mk r_3.1 r_3.2.1 (decide (r_2.1=([112,117,116,114,117,110]:Str)))) (api_Setting.mk [] []) (api_Service.mk [] [] false false)),r_3.2.2)
  else
  bif decide (r_2.1=([114,101,109,111,118,101]:Str)) then
   some ((api_Change.mk 2 (api_File.mk r_2.2.1 [] false) (api_Setting.mk [] []) (api_Service.mk [] [] false false)),((!decide (r_2.2.1=[])) && (!r_4)))
  else
  bif decide (r_2.1=([115,101,116]:Str)) then
   some ((api_Change.mk 3 (api_File.mk [] [] false) (api_Setting.mk r_3.1 r_3.2.1) (api_Service.mk [] [] false false)),r_3.2.2)
  else
  bif decide (r_2.1=([117,110,115,101,116]:Str)) then
   some ((api_Change.mk 4 (api_File.mk [] [] false) (api_Setting.mk r_2.2.1 []) (api_Service.mk [] [] false false)),((!decide (r_2.2.1=[])) && (!r_4)))
  else
  bif decide (r_2.1=([115,101,114,118,105,99,101]:Str)) then
   call (strings_Split r_2.2.1 ([32]:Str)) fun r_7 =>
   call (R_serviceOf r_7) fun r_8 =>
   some ((api_Change.mk 5 (api_File.mk [] [] false) (api_Setting.mk [] []) r_8.1),r_8.2)
  else
  bif decide (r_2.1=([100,114,111,112]:Str)) then
   some ((api_Change.mk 6 (api_File.mk [] [] false) (api_Setting.mk [] []) (api_Service.mk r_2.2.1 [] false false)),((!decide (r_2.2.1=[])) && (!r_4)))
  else
  some ((api_Change.mk 0 (api_File.mk [] [] false) (api_Setting.mk [] []) (api_Service.mk [] [] false false)),false)) fun k_6 =>
 bif decide (r_2.1=([112,117,116]:Str)) then
  k_6 (decide (r_2.1=([112,117,116]:Str)))
 else
 k_6 (decide (r_2.1=([112,117,116,114,117,110]:Str)))
noncomputable def R_ParseJournal_2_i1 (word_1:Str) (o0_0_2:Int) (o1_0_3:List Str):Option (List api_Change × Bool × Int) :=
 bif decide ((o1_0_3.length:Int)≤o0_0_2) then
  some ([],false,o0_0_2)
 else
 idx o1_0_3 o0_0_2 fun s_45 =>
 chk ((word_1++([32]:Str)).length≤274877906944) <|
 call (strings_CutPrefix s_45 (word_1++([32]:Str))) fun r_47 =>
 call (strconv_Atoi r_47.1) fun r_48 =>
 callG (!(((!r_47.2) || (!r_48.2)) || (decide (r_48.1 < 0)))) (strconv_Itoa r_48.1) [] fun r_49 =>
 bif (((((!r_47.2) || (!r_48.2)) || (decide (r_48.1 < 0))) || (!decide (r_49=r_47.1))) || (decide ((IntKind.i64.wrap ((IntKind.i64.wrap ((o1_0_3.length:Int) - o0_0_2)) - 1)) < r_48.1))) then
  some ([],false,o0_0_2)
 else
 jp (S:=List api_Change) (fun o2_67 =>
  some (o2_67,true,IntKind.i64.wrap (o0_0_2+(IntKind.i64.wrap (1+r_48.1))))) fun k_68 =>
 chk (0≤IntKind.i64.wrap (o0_0_2+1)∧IntKind.i64.wrap (o0_0_2+1)≤(o1_0_3.length:Int)∧0≤IntKind.i64.wrap ((IntKind.i64.wrap (o0_0_2+1))+r_48.1)∧IntKind.i64.wrap ((IntKind.i64.wrap (o0_0_2+1))+r_48.1)≤(o1_0_3.length:Int)∧IntKind.i64.wrap (o0_0_2+1)≤IntKind.i64.wrap ((IntKind.i64.wrap (o0_0_2+1))+r_48.1)) <|
 forL (List.take ((IntKind.i64.wrap ((IntKind.i64.wrap (o0_0_2+1))+r_48.1)).toNat - (IntKind.i64.wrap (o0_0_2+1)).toNat) (List.drop ((IntKind.i64.wrap (o0_0_2+1)).toNat) o1_0_3)) 0 (fun i_81 s_83 o2_75 nx_80 k_79 =>
  call (R_changeOf s_83) fun r_84 =>
  bif !r_84.2 then
   some ([],false,o0_0_2)
  else
  chk ((o2_75++[r_84.1]).length≤274877906944) <|
  nx_80 (o2_75++[r_84.1])) [] (fun o2_75 =>
  k_68 o2_75)
noncomputable def R_IsSum (s_1:Str):Option Bool :=
 jp (S:=Unit) (fun _ =>
  some (decide ((s_1.length:Int)=16))) fun k_9 =>
 forL s_1 0 (fun i_14 c_16 s nx_13 k_12 =>
  bif (((decide ((c_16.toNat:Int) < 48)) || (decide (57 < (c_16.toNat:Int)))) && ((decide ((c_16.toNat:Int) < 97)) || (decide (102 < (c_16.toNat:Int))))) then
   some false
  else
  nx_13 ()) () (fun _ =>
  k_9 ())
noncomputable def internal_strconv_isPowerOfTwo (x_1:Int):Option Bool :=
 some (decide ((bitsI .and .i64 x_1 (IntKind.i64.wrap (x_1 - 1)))=0))
noncomputable def math_bits_TrailingZeros64 (x_1:Int):Option Int :=
 bif decide (x_1=0) then
  some 64
 else
 chk (0≤Int.fdiv (IntKind.u64.wrap ((bitsI .and .u64 x_1 (IntKind.u64.wrap (-x_1))) * 285870213051353865)) (2 ^ (shI .u64 58))∧Int.fdiv (IntKind.u64.wrap ((bitsI .and .u64 x_1 (IntKind.u64.wrap (-x_1))) * 285870213051353865)) (2 ^ (shI .u64 58)) < (64:Int)) <|
 some (IntKind.i64.wrap (tabL_7.getD ((Int.fdiv (IntKind.u64.wrap ((bitsI .and .u64 x_1 (IntKind.u64.wrap (-x_1))) * 285870213051353865)) (2 ^ (shI .u64 58))).toNat) 0))
noncomputable def math_bits_TrailingZeros (x_1:Int):Option Int :=
 call (math_bits_TrailingZeros64 x_1) fun r_2 =>
 some r_2
noncomputable def internal_strconv_formatBits (dst_1:List Int) (u_2:Int) (base_3:Int) (neg_4:Bool) (append__5:Bool):Option (List Int × Str) :=
 jp (S:=Unit) (fun _ =>
  jp (S:=Int) (fun u_7 =>
   jp (S:=Int × List Int) (fun s=>match s with
    | (i_87,o0_88) =>
     jp (S:=Int × List Int) (fun s=>match s with
      | (i_91,o0_92) =>
       bif append__5 then
        chk (o0_92.length=65∧0≤i_91∧i_91≤(65:Int)) <|
        none
       else
       chk (o0_92.length=65∧0≤i_91∧i_91≤(65:Int)) <|
       some ([],Go.Vc.strOf (List.take (65 - i_91.toNat) (List.drop i_91.toNat o0_92)))) fun k_93 =>
     bif neg_4 then
      chk (0≤IntKind.i64.wrap (i_87 - 1)∧IntKind.i64.wrap (i_87 - 1) < (65:Int)∧65=o0_88.length) <|
      k_93 (IntKind.i64.wrap (i_87 - 1),List.set o0_88 ((IntKind.i64.wrap (i_87 - 1)).toNat) 45)
     else
     k_93 (i_87,o0_88)) fun k_89 =>
   call (internal_strconv_isPowerOfTwo base_3) fun r_97 =>
   bif r_97 then
    call (math_bits_TrailingZeros (IntKind.u64.wrap base_3)) fun r_98 =>
    jp (S:=Int × Int × List Int) (fun s=>match s with
     | (u_115,i_116,o0_117) =>
      idxS ([48,49,50,51,52,53,54,55,56,57,97,98,99,100,101,102,103,104,105,106,107,108,109,110,111,112,113,114,115,116,117,118,119,120,121,122]:Str) u_115 fun c_119 =>
      chk (0≤IntKind.i64.wrap (i_116 - 1)∧IntKind.i64.wrap (i_116 - 1) < (65:Int)∧65=o0_117.length) <|
      k_89 (IntKind.i64.wrap (i_116 - 1),List.set o0_117 ((IntKind.i64.wrap (i_116 - 1)).toNat) c_119)) fun k_118 =>
    loopN Fuel (fun s nx_133 k_132 =>
     match s with
     | (u_126,i_127,o0_128) =>
      bif decide ((IntKind.u64.wrap base_3)≤u_126) then
       idxS ([48,49,50,51,52,53,54,55,56,57,97,98,99,100,101,102,103,104,105,106,107,108,109,110,111,112,113,114,115,116,117,118,119,120,121,122]:Str) (bitsI .and .u64 u_126 (IntKind.u64.wrap ((IntKind.u64.wrap base_3) - 1))) fun c_134 =>
       chk (0≤IntKind.i64.wrap (i_127 - 1)∧IntKind.i64.wrap (i_127 - 1) < (65:Int)∧65=o0_128.length) <|
       chk (0≤(IntKind.u64.wrap r_98)) <|
       nx_133 (Int.fdiv u_126 (2 ^ (shI .u64 (IntKind.u64.wrap r_98))),IntKind.i64.wrap (i_127 - 1),List.set o0_128 ((IntKind.i64.wrap (i_127 - 1)).toNat) c_134)
      else
      k_132 (u_126,i_127,o0_128)) (u_7,65,List.replicate 65 0) (fun s=>match s with
     | (u_126,i_127,o0_128) =>
      k_118 (u_126,i_127,o0_128))
   else
   jp (S:=Int × Int × List Int) (fun s=>match s with
    | (u_153,i_154,o0_155) =>
     idxS ([48,49,50,51,52,53,54,55,56,57,97,98,99,100,101,102,103,104,105,106,107,108,109,110,111,112,113,114,115,116,117,118,119,120,121,122]:Str) u_153 fun c_157 =>
     chk (0≤IntKind.i64.wrap (i_154 - 1)∧IntKind.i64.wrap (i_154 - 1) < (65:Int)∧65=o0_155.length) <|
     k_89 (IntKind.i64.wrap (i_154 - 1),List.set o0_155 ((IntKind.i64.wrap (i_154 - 1)).toNat) c_157)) fun k_156 =>
   loopN Fuel (fun s nx_171 k_170 =>
    match s with
    | (u_164,i_165,o0_166) =>
     bif decide ((IntKind.u64.wrap base_3)≤u_164) then
      chk (¬ (IntKind.u64.wrap base_3)=0) <|
      idxS ([48,49,50,51,52,53,54,55,56,57,97,98,99,100,101,102,103,104,105,106,107,108,109,110,111,112,113,114,115,116,117,118,119,120,121,122]:Str) (IntKind.u64.wrap (u_164 - (IntKind.u64.wrap ((IntKind.u64.wrap (Int.tdiv u_164 (IntKind.u64.wrap base_3))) * (IntKind.u64.wrap base_3))))) fun c_173 =>
      chk (0≤IntKind.i64.wrap (i_165 - 1)∧IntKind.i64.wrap (i_165 - 1) < (65:Int)∧65=o0_166.length) <|
      nx_171 (IntKind.u64.wrap (Int.tdiv u_164 (IntKind.u64.wrap base_3)),IntKind.i64.wrap (i_165 - 1),List.set o0_166 ((IntKind.i64.wrap (i_165 - 1)).toNat) c_173)
     else
     k_170 (u_164,i_165,o0_166)) (u_7,65,List.replicate 65 0) (fun s=>match s with
    | (u_164,i_165,o0_166) =>
     k_156 (u_164,i_165,o0_166))) fun k_8 =>
  bif neg_4 then
   k_8 (IntKind.u64.wrap (-u_2))
  else
  k_8 u_2) fun k_6 =>
 bif (((decide (base_3 < 2)) || (decide (base_3=10))) || (decide (36 < base_3))) then
  none
 else
 k_6 ()
noncomputable def internal_strconv_FormatUint (i_1:Int) (base_2:Int):Option Str :=
 bif decide (base_2=10) then
  bif decide (i_1 < 100) then
   none
  else
  none
 else
 call (internal_strconv_formatBits [] i_1 base_2 false false) fun r_3 =>
 some r_3.2
noncomputable def strconv_FormatUint (i_1:Int) (base_2:Int):Option Str :=
 call (internal_strconv_FormatUint i_1 base_2) fun r_3 =>
 some r_3
noncomputable def math_bits_Mul64 (x_1:Int) (y_2:Int):Option (Int × Int) :=
 some (IntKind.u64.wrap ((IntKind.u64.wrap ((IntKind.u64.wrap ((Int.fdiv x_1 (2 ^ (shI .u64 32))) * (Int.fdiv y_2 (2 ^ (shI .u64 32)))))+(Int.fdiv (IntKind.u64.wrap ((IntKind.u64.wrap ((Int.fdiv x_1 (2 ^ (shI .u64 32))) * (bitsI .and .u64 y_2 4294967295)))+(Int.fdiv (IntKind.u64.wrap ((bitsI .and .u64 x_1 4294967295) * (bitsI .and .u64 y_2 4294967295))) (2 ^ (shI .u64 32))))) (2 ^ (shI .u64 32)))))+(Int.fdiv (IntKind.u64.wrap ((bitsI .and .u64 (IntKind.u64.wrap ((IntKind.u64.wrap ((Int.fdiv x_1 (2 ^ (shI .u64 32))) * (bitsI .and .u64 y_2 4294967295)))+(Int.fdiv (IntKind.u64.wrap ((bitsI .and .u64 x_1 4294967295) * (bitsI .and .u64 y_2 4294967295))) (2 ^ (shI .u64 32))))) 4294967295)+(IntKind.u64.wrap ((bitsI .and .u64 x_1 4294967295) * (Int.fdiv y_2 (2 ^ (shI .u64 32))))))) (2 ^ (shI .u64 32)))),IntKind.u64.wrap (x_1 * y_2))
noncomputable def math_bits_Mul (x_1:Int) (y_2:Int):Option (Int × Int) :=
 call (math_bits_Mul64 x_1 y_2) fun r_3 =>
 some (r_3.1,r_3.2)
noncomputable def strings_Builder_Len_i1 (o1_1:Str):Option Int :=
 some (o1_1.length:Int)
noncomputable def strings_Repeat (s_1:Str) (count_2:Int):Option Str :=
 bif decide (count_2=0) then
  some []
 else
 bif decide (count_2=1) then
  some s_1
 else
 jp (S:=Unit) (fun _ =>
  call (math_bits_Mul (IntKind.u64.wrap (s_1.length:Int)) (IntKind.u64.wrap count_2)) fun r_4 =>
  jp (S:=Unit) (fun _ =>
   bif decide ((s_1.length:Int)=0) then
    some []
   else
   jp (S:=Unit) (fun _ =>
    jp (S:=Int) (fun chunkMax_21 =>
     call (strings_Builder_Grow (IntKind.i64.wrap r_4.2) []) fun r_23 =>
     call (strings_Builder_WriteString_i1 s_1 []) fun r_24 =>
     jp (S:=Str) (fun o1_46 =>
      call (strings_Builder_String_i1 o1_46) fun r_48 =>
      some r_48) fun k_47 =>
     loopN Fuel (fun o1_55 nx_63 k_62 =>
      call (strings_Builder_Len_i1 o1_55) fun r_64 =>
      bif decide (r_64 < (IntKind.i64.wrap r_4.2)) then
       call (strings_Builder_Len_i1 o1_55) fun r_65 =>
       call (strings_Builder_Len_i1 o1_55) fun r_66 =>
       call (strings_Builder_String_i1 o1_55) fun r_67 =>
       chk (0≤min (min (IntKind.i64.wrap ((IntKind.i64.wrap r_4.2) - r_65)) r_66) chunkMax_21∧min (min (IntKind.i64.wrap ((IntKind.i64.wrap r_4.2) - r_65)) r_66) chunkMax_21≤(r_67.length:Int)) <|
       call (strings_Builder_WriteString_i1 (List.take ((min (min (IntKind.i64.wrap ((IntKind.i64.wrap r_4.2) - r_65)) r_66) chunkMax_21).toNat) r_67) o1_55) fun r_69 =>
       nx_63 r_69.2
      else
      k_62 o1_55) r_24.2 (fun o1_55 =>
      k_47 o1_55)) fun k_22 =>
    bif decide (8192 < (IntKind.i64.wrap r_4.2)) then
     chk (¬ (s_1.length:Int)=0) <|
     bif decide ((IntKind.i64.wrap ((IntKind.i64.wrap (Int.tdiv 8192 (s_1.length:Int))) * (s_1.length:Int)))=0) then
      k_22 (s_1.length:Int)
     else
     k_22 (IntKind.i64.wrap ((IntKind.i64.wrap (Int.tdiv 8192 (s_1.length:Int))) * (s_1.length:Int)))
    else
    k_22 (IntKind.i64.wrap r_4.2)) fun k_19 =>
   idxS s_1 0 fun c_71 =>
   jp (S:=Bool) (fun t43_72 =>
    bif t43_72 then
     callG (decide ((IntKind.i64.wrap r_4.2)≤128)) (strings_HasPrefix ((List.append [32,32,32,32,32,32,32,32,32,32,32,32,32,32,32,32,32,32,32,32,32,32,32,32,32,32,32,32,32,32,32,32,32,32,32,32,32,32,32,32,32,32,32,32,32,32,32,32,32,32,32,32,32,32,32,32,32,32,32,32,32,32,32,32] [32,32,32,32,32,32,32,32,32,32,32,32,32,32,32,32,32,32,32,32,32,32,32,32,32,32,32,32,32,32,32,32,32,32,32,32,32,32,32,32,32,32,32,32,32,32,32,32,32,32,32,32,32,32,32,32,32,32,32,32,32,32,32,32]):Str) s_1) false fun r_74 =>
     bif ((decide ((IntKind.i64.wrap r_4.2)≤128)) && r_74) then
      chk (0≤IntKind.i64.wrap r_4.2∧IntKind.i64.wrap r_4.2≤(((List.append [32,32,32,32,32,32,32,32,32,32,32,32,32,32,32,32,32,32,32,32,32,32,32,32,32,32,32,32,32,32,32,32,32,32,32,32,32,32,32,32,32,32,32,32,32,32,32,32,32,32,32,32,32,32,32,32,32,32,32,32,32,32,32,32] [32,32,32,32,32,32,32,32,32,32,32,32,32,32,32,32,32,32,32,32,32,32,32,32,32,32,32,32,32,32,32,32,32,32,32,32,32,32,32,32,32,32,32,32,32,32,32,32,32,32,32,32,32,32,32,32,32,32,32,32,32,32,32,32]):Str).length:Int)) <|
      some (List.take ((IntKind.i64.wrap r_4.2).toNat) ((List.append [32,32,32,32,32,32,32,32,32,32,32,32,32,32,32,32,32,32,32,32,32,32,32,32,32,32,32,32,32,32,32,32,32,32,32,32,32,32,32,32,32,32,32,32,32,32,32,32,32,32,32,32,32,32,32,32,32,32,32,32,32,32,32,32] [32,32,32,32,32,32,32,32,32,32,32,32,32,32,32,32,32,32,32,32,32,32,32,32,32,32,32,32,32,32,32,32,32,32,32,32,32,32,32,32,32,32,32,32,32,32,32,32,32,32,32,32,32,32,32,32,32,32,32,32,32,32,32,32]):Str))
     else
     callG (decide ((IntKind.i64.wrap r_4.2)≤128)) (strings_HasPrefix ((List.append [45,45,45,45,45,45,45,45,45,45,45,45,45,45,45,45,45,45,45,45,45,45,45,45,45,45,45,45,45,45,45,45,45,45,45,45,45,45,45,45,45,45,45,45,45,45,45,45,45,45,45,45,45,45,45,45,45,45,45,45,45,45,45,45] [45,45,45,45,45,45,45,45,45,45,45,45,45,45,45,45,45,45,45,45,45,45,45,45,45,45,45,45,45,45,45,45,45,45,45,45,45,45,45,45,45,45,45,45,45,45,45,45,45,45,45,45,45,45,45,45,45,45,45,45,45,45,45,45]):Str) s_1) false fun r_76 =>
     bif ((decide ((IntKind.i64.wrap r_4.2)≤128)) && r_76) then
      chk (0≤IntKind.i64.wrap r_4.2∧IntKind.i64.wrap r_4.2≤(((List.append [45,45,45,45,45,45,45,45,45,45,45,45,45,45,45,45,45,45,45,45,45,45,45,45,45,45,45,45,45,45,45,45,45,45,45,45,45,45,45,45,45,45,45,45,45,45,45,45,45,45,45,45,45,45,45,45,45,45,45,45,45,45,45,45] [45,45,45,45,45,45,45,45,45,45,45,45,45,45,45,45,45,45,45,45,45,45,45,45,45,45,45,45,45,45,45,45,45,45,45,45,45,45,45,45,45,45,45,45,45,45,45,45,45,45,45,45,45,45,45,45,45,45,45,45,45,45,45,45]):Str).length:Int)) <|
      some (List.take ((IntKind.i64.wrap r_4.2).toNat) ((List.append [45,45,45,45,45,45,45,45,45,45,45,45,45,45,45,45,45,45,45,45,45,45,45,45,45,45,45,45,45,45,45,45,45,45,45,45,45,45,45,45,45,45,45,45,45,45,45,45,45,45,45,45,45,45,45,45,45,45,45,45,45,45,45,45] [45,45,45,45,45,45,45,45,45,45,45,45,45,45,45,45,45,45,45,45,45,45,45,45,45,45,45,45,45,45,45,45,45,45,45,45,45,45,45,45,45,45,45,45,45,45,45,45,45,45,45,45,45,45,45,45,45,45,45,45,45,45,45,45]):Str))
     else
     callG (decide ((IntKind.i64.wrap r_4.2)≤64)) (strings_HasPrefix ([48,48,48,48,48,48,48,48,48,48,48,48,48,48,48,48,48,48,48,48,48,48,48,48,48,48,48,48,48,48,48,48,48,48,48,48,48,48,48,48,48,48,48,48,48,48,48,48,48,48,48,48,48,48,48,48,48,48,48,48,48,48,48,48]:Str) s_1) false fun r_78 =>
     bif ((decide ((IntKind.i64.wrap r_4.2)≤64)) && r_78) then
      chk (0≤IntKind.i64.wrap r_4.2∧IntKind.i64.wrap r_4.2≤(([48,48,48,48,48,48,48,48,48,48,48,48,48,48,48,48,48,48,48,48,48,48,48,48,48,48,48,48,48,48,48,48,48,48,48,48,48,48,48,48,48,48,48,48,48,48,48,48,48,48,48,48,48,48,48,48,48,48,48,48,48,48,48,48]:Str).length:Int)) <|
      some (List.take ((IntKind.i64.wrap r_4.2).toNat) ([48,48,48,48,48,48,48,48,48,48,48,48,48,48,48,48,48,48,48,48,48,48,48,48,48,48,48,48,48,48,48,48,48,48,48,48,48,48,48,48,48,48,48,48,48,48,48,48,48,48,48,48,48,48,48,48,48,48,48,48,48,48,48,48]:Str))
     else
     callG (decide ((IntKind.i64.wrap r_4.2)≤128)) (strings_HasPrefix ((List.append [61,61,61,61,61,61,61,61,61,61,61,61,61,61,61,61,61,61,61,61,61,61,61,61,61,61,61,61,61,61,61,61,61,61,61,61,61,61,61,61,61,61,61,61,61,61,61,61,61,61,61,61,61,61,61,61,61,61,61,61,61,61,61,61] [61,61,61,61,61,61,61,61,61,61,61,61,61,61,61,61,61,61,61,61,61,61,61,61,61,61,61,61,61,61,61,61,61,61,61,61,61,61,61,61,61,61,61,61,61,61,61,61,61,61,61,61,61,61,61,61,61,61,61,61,61,61,61,61]):Str) s_1) false fun r_80 =>
     bif ((decide ((IntKind.i64.wrap r_4.2)≤128)) && r_80) then
      chk (0≤IntKind.i64.wrap r_4.2∧IntKind.i64.wrap r_4.2≤(((List.append [61,61,61,61,61,61,61,61,61,61,61,61,61,61,61,61,61,61,61,61,61,61,61,61,61,61,61,61,61,61,61,61,61,61,61,61,61,61,61,61,61,61,61,61,61,61,61,61,61,61,61,61,61,61,61,61,61,61,61,61,61,61,61,61] [61,61,61,61,61,61,61,61,61,61,61,61,61,61,61,61,61,61,61,61,61,61,61,61,61,61,61,61,61,61,61,61,61,61,61,61,61,61,61,61,61,61,61,61,61,61,61,61,61,61,61,61,61,61,61,61,61,61,61,61,61,61,61,61]):Str).length:Int)) <|
      some (List.take ((IntKind.i64.wrap r_4.2).toNat) ((List.append [61,61,61,61,61,61,61,61,61,61,61,61,61,61,61,61,61,61,61,61,61,61,61,61,61,61,61,61,61,61,61,61,61,61,61,61,61,61,61,61,61,61,61,61,61,61,61,61,61,61,61,61,61,61,61,61,61,61,61,61,61,61,61,61] [61,61,61,61,61,61,61,61,61,61,61,61,61,61,61,61,61,61,61,61,61,61,61,61,61,61,61,61,61,61,61,61,61,61,61,61,61,61,61,61,61,61,61,61,61,61,61,61,61,61,61,61,61,61,61,61,61,61,61,61,61,61,61,61]):Str))
     else
     callG (decide ((IntKind.i64.wrap r_4.2)≤64)) (strings_HasPrefix ([9,9,9,9,9,9,9,9,9,9,9,9,9,9,9,9,9,9,9,9,9,9,9,9,9,9,9,9,9,9,9,9,9,9,9,9,9,9,9,9,9,9,9,9,9,9,9,9,9,9,9,9,9,9,9,9,9,9,9,9,9,9,9,9]:Str) s_1) false fun r_82 =>
     bif ((decide ((IntKind.i64.wrap r_4.2)≤64)) && r_82) then
      chk (0≤IntKind.i64.wrap r_4.2∧IntKind.i64.wrap r_4.2≤(([9,9,9,9,9,9,9,9,9,9,9,9,9,9,9,9,9,9,9,9,9,9,9,9,9,9,9,9,9,9,9,9,9,9,9,9,9,9,9,9,9,9,9,9,9,9,9,9,9,9,9,9,9,9,9,9,9,9,9,9,9,9,9,9]:Str).length:Int)) <|
      some (List.take ((IntKind.i64.wrap r_4.2).toNat) ([9,9,9,9,9,9,9,9,9,9,9,9,9,9,9,9,9,9,9,9,9,9,9,9,9,9,9,9,9,9,9,9,9,9,9,9,9,9,9,9,9,9,9,9,9,9,9,9,9,9,9,9,9,9,9,9,9,9,9,9,9,9,9,9]:Str))
     else
     k_19 ()
    else
    k_19 ()) fun k_73 =>
   bif decide (c_71=32) then
    k_73 (decide (c_71=32))
   else
   bif decide (c_71=45) then
    k_73 (decide (c_71=45))
   else
   bif decide (c_71=48) then
    k_73 (decide (c_71=48))
   else
   bif decide (c_71=61) then
    k_73 (decide (c_71=61))
   else
   k_73 (decide (c_71=9))) fun k_5 =>
  bif ((decide (0 < r_4.1)) || (decide (9223372036854775807 < r_4.2))) then
   none
  else
  k_5 ()) fun k_3 =>
 bif decide (count_2 < 0) then
  none
 else
 k_3 ()
noncomputable def R_SumOf (s_1:Str):Option Str :=
 jp (S:=Int) (fun h_10 =>
  call (strconv_FormatUint h_10 16) fun r_12 =>
  call (strings_Repeat ([48]:Str) (IntKind.i64.wrap (16 - (r_12.length:Int)))) fun r_13 =>
  chk ((r_13++r_12).length≤274877906944) <|
  some (r_13++r_12)) fun k_11 =>
 forL s_1 0 (fun i_20 c_22 h_15 nx_19 k_18 =>
  nx_19 (IntKind.u64.wrap ((bitsI .xor .u64 h_15 (IntKind.u64.wrap (c_22.toNat:Int))) * 1099511628211))) 14695981039346656037 (fun h_15 =>
  k_11 h_15)
noncomputable def R_ChangesError (l_1:List api_Change):Option Int :=
 jp (S:=Unit) (fun _ =>
  some 0) fun k_11 =>
 forL l_1 0 (fun i_17 c_19 s nx_16 k_15 =>
  call (R_ChangeError c_19) fun r_20 =>
  bif !decide (r_20=0) then
   some r_20
  else
  nx_16 ()) () (fun _ =>
  k_11 ())
noncomputable def R_bit (b_1:Bool):Option Str :=
 bif b_1 then
  some ([49]:Str)
 else
 some ([48]:Str)
noncomputable def R_serviceWords (s_1:api_Service):Option Str :=
 chk ((s_1.Name++([32]:Str)).length≤274877906944) <|
 chk (((s_1.Name++([32]:Str))++s_1.Path).length≤274877906944) <|
 chk ((((s_1.Name++([32]:Str))++s_1.Path)++([32]:Str)).length≤274877906944) <|
 call (R_bit s_1.Auto) fun r_5 =>
 chk (((((s_1.Name++([32]:Str))++s_1.Path)++([32]:Str))++r_5).length≤274877906944) <|
 chk ((((((s_1.Name++([32]:Str))++s_1.Path)++([32]:Str))++r_5)++([32]:Str)).length≤274877906944) <|
 call (R_bit s_1.On) fun r_8 =>
 chk (((((((s_1.Name++([32]:Str))++s_1.Path)++([32]:Str))++r_5)++([32]:Str))++r_8).length≤274877906944) <|
 some ((((((s_1.Name++([32]:Str))++s_1.Path)++([32]:Str))++r_5)++([32]:Str))++r_8)
noncomputable def strings_Builder_WriteByte_i1 (c_1:Int) (o1_2:Str):Option Str :=
 call (strings_Builder_copyCheck_np o1_2) fun r_5 =>
 chk ((o1_2++(Go.Vc.strOf [c_1])).length≤274877906944) <|
 some (o1_2++(Go.Vc.strOf [c_1]))
noncomputable def R_PrintChanges (l_1:List api_Change):Option Str :=
 jp (S:=Str) (fun o1_157 =>
  call (strings_Builder_String_i1 o1_157) fun r_159 =>
  some r_159) fun k_158 =>
 forL l_1 0 (fun i_257 c_259 o1_208 nx_256 k_255 =>
  jp (S:=Str) (fun o1_281 =>
   call (strings_Builder_WriteByte_i1 10 o1_281) fun r_283 =>
   nx_256 r_283) fun k_282 =>
  bif decide (c_259.Kind=1) then
   jp (S:=Str) (fun word_284 =>
    chk ((word_284++c_259.File.Path).length≤274877906944) <|
    chk (((word_284++c_259.File.Path)++([32]:Str)).length≤274877906944) <|
    call (R_Quote c_259.File.Data) fun r_288 =>
    chk ((((word_284++c_259.File.Path)++([32]:Str))++r_288).length≤274877906944) <|
    call (strings_Builder_WriteString_i1 (((word_284++c_259.File.Path)++([32]:Str))++r_288) o1_208) fun r_290 =>
    k_282 r_290.2) fun k_285 =>
   bif c_259.File.Runs then
    k_285 ([112,117,116,114,117,110,32]:Str)
   else
   k_285 ([112,117,116,32]:Str)
  else
  bif decide (c_259.Kind=2) then
   chk ((([114,101,109,111,118,101,32]:Str)++c_259.File.Path).length≤274877906944) <|
   call (strings_Builder_WriteString_i1 (([114,101,109,111,118,101,32]:Str)++c_259.File.Path) o1_208) fun r_292 =>
   k_282 r_292.2
  else
  bif decide (c_259.Kind=3) then
   chk ((([115,101,116,32]:Str)++c_259.Setting.Key).length≤274877906944) <|
   chk (((([115,101,116,32]:Str)++c_259.Setting.Key)++([32]:Str)).length≤274877906944) <|
   call (R_Quote c_259.Setting.Value) fun r_295 =>
   chk ((((([115,101,116,32]:Str)++c_259.Setting.Key)++([32]:Str))++r_295).length≤274877906944) <|
   call (strings_Builder_WriteString_i1 (((([115,101,116,32]:Str)++c_259.Setting.Key)++([32]:Str))++r_295) o1_208) fun r_297 =>
   k_282 r_297.2
  else
  bif decide (c_259.Kind=4) then
   chk ((([117,110,115,101,116,32]:Str)++c_259.Setting.Key).length≤274877906944) <|
   call (strings_Builder_WriteString_i1 (([117,110,115,101,116,32]:Str)++c_259.Setting.Key) o1_208) fun r_299 =>
   k_282 r_299.2
  else
  bif decide (c_259.Kind=5) then
   call (R_serviceWords c_259.Service) fun r_300 =>
   chk ((([115,101,114,118,105,99,101,32]:Str)++r_300).length≤274877906944) <|
   call (strings_Builder_WriteString_i1 (([115,101,114,118,105,99,101,32]:Str)++r_300) o1_208) fun r_302 =>
   k_282 r_302.2
  else
  bif decide (c_259.Kind=6) then
   chk ((([100,114,111,112,32]:Str)++c_259.Service.Name).length≤274877906944) <|
   call (strings_Builder_WriteString_i1 (([100,114,111,112,32]:Str)++c_259.Service.Name) o1_208) fun r_304 =>
   k_282 r_304.2
  else
  k_282 o1_208) [] (fun o1_208 =>
  k_158 o1_208)
noncomputable def R_PrintJournal (j_1:api_Journal):Option (Str × Int) :=
 call (R_IsName j_1.Id) fun r_2 =>
 bif !r_2 then
  some ([],5)
 else
 call (R_ChangesError j_1.Changes) fun r_3 =>
 call (R_ChangesError j_1.Old) fun r_4 =>
 call (R_first [r_3,r_4]) fun r_5 =>
 bif !decide (r_5=0) then
  some ([],r_5)
 else
 chk ((([106,111,117,114,110,97,108,32]:Str)++j_1.Id).length≤274877906944) <|
 chk (((([106,111,117,114,110,97,108,32]:Str)++j_1.Id)++([10,99,104,97,110,103,101,115,32]:Str)).length≤274877906944) <|
 call (strconv_Itoa (j_1.Changes.length:Int)) fun r_8 =>
 chk ((((([106,111,117,114,110,97,108,32]:Str)++j_1.Id)++([10,99,104,97,110,103,101,115,32]:Str))++r_8).length≤274877906944) <|
 chk (((((([106,111,117,114,110,97,108,32]:Str)++j_1.Id)++([10,99,104,97,110,103,101,115,32]:Str))++r_8)++([10]:Str)).length≤274877906944) <|
 call (R_PrintChanges j_1.Changes) fun r_11 =>
 chk ((((((([106,111,117,114,110,97,108,32]:Str)++j_1.Id)++([10,99,104,97,110,103,101,115,32]:Str))++r_8)++([10]:Str))++r_11).length≤274877906944) <|
 chk (((((((([106,111,117,114,110,97,108,32]:Str)++j_1.Id)++([10,99,104,97,110,103,101,115,32]:Str))++r_8)++([10]:Str))++r_11)++([111,108,100,32]:Str)).length≤274877906944) <|
 call (strconv_Itoa (j_1.Old.length:Int)) fun r_14 =>
 chk ((((((((([106,111,117,114,110,97,108,32]:Str)++j_1.Id)++([10,99,104,97,110,103,101,115,32]:Str))++r_8)++([10]:Str))++r_11)++([111,108,100,32]:Str))++r_14).length≤274877906944) <|
 chk (((((((((([106,111,117,114,110,97,108,32]:Str)++j_1.Id)++([10,99,104,97,110,103,101,115,32]:Str))++r_8)++([10]:Str))++r_11)++([111,108,100,32]:Str))++r_14)++([10]:Str)).length≤274877906944) <|
 call (R_PrintChanges j_1.Old) fun r_17 =>
 chk ((((((((((([106,111,117,114,110,97,108,32]:Str)++j_1.Id)++([10,99,104,97,110,103,101,115,32]:Str))++r_8)++([10]:Str))++r_11)++([111,108,100,32]:Str))++r_14)++([10]:Str))++r_17).length≤274877906944) <|
 call (R_SumOf (((((((((([106,111,117,114,110,97,108,32]:Str)++j_1.Id)++([10,99,104,97,110,103,101,115,32]:Str))++r_8)++([10]:Str))++r_11)++([111,108,100,32]:Str))++r_14)++([10]:Str))++r_17)) fun r_19 =>
 chk ((([115,117,109,32]:Str)++r_19).length≤274877906944) <|
 chk (((([115,117,109,32]:Str)++r_19)++([10]:Str)).length≤274877906944) <|
 chk (((((((((((([106,111,117,114,110,97,108,32]:Str)++j_1.Id)++([10,99,104,97,110,103,101,115,32]:Str))++r_8)++([10]:Str))++r_11)++([111,108,100,32]:Str))++r_14)++([10]:Str))++r_17)++((([115,117,109,32]:Str)++r_19)++([10]:Str))).length≤274877906944) <|
 bif decide (65536 < (((((((((((([106,111,117,114,110,97,108,32]:Str)++j_1.Id)++([10,99,104,97,110,103,101,115,32]:Str))++r_8)++([10]:Str))++r_11)++([111,108,100,32]:Str))++r_14)++([10]:Str))++r_17)++((([115,117,109,32]:Str)++r_19)++([10]:Str))).length:Int)) then
  some ([],4)
 else
 some ((((((((((([106,111,117,114,110,97,108,32]:Str)++j_1.Id)++([10,99,104,97,110,103,101,115,32]:Str))++r_8)++([10]:Str))++r_11)++([111,108,100,32]:Str))++r_14)++([10]:Str))++r_17)++((([115,117,109,32]:Str)++r_19)++([10]:Str)),0)
noncomputable def R_ParseJournal (s_1:Str):Option (api_Journal × Int) :=
 call (R_cutLines s_1) fun r_2 =>
 bif ((decide (0≤r_2.2)) || (decide ((r_2.1.length:Int) < 4))) then
  call (R_ParseJournal_1 8) fun r_3 =>
  some (r_3.1,r_3.2)
 else
 idx r_2.1 0 fun s_4 =>
 call (strings_CutPrefix s_4 ([106,111,117,114,110,97,108,32]:Str)) fun r_5 =>
 bif !r_5.2 then
  call (R_ParseJournal_1 8) fun r_6 =>
  some (r_6.1,r_6.2)
 else
 call (R_ParseJournal_2_i1 ([99,104,97,110,103,101,115]:Str) 1 r_2.1) fun r_7 =>
 jp (S:=Bool × List api_Change × Int) (fun s=>match s with
  | (b_9,o2_2_10,o3_0_11) =>
   bif (((!r_7.2.1) || (!b_9)) || (!decide (o3_0_11=(IntKind.i64.wrap ((r_2.1.length:Int) - 1))))) then
    call (R_ParseJournal_1 8) fun r_13 =>
    some (r_13.1,r_13.2)
   else
   idx r_2.1 o3_0_11 fun s_14 =>
   call (strings_CutPrefix s_14 ([115,117,109,32]:Str)) fun r_15 =>
   callG (!(!r_15.2)) (R_IsSum r_15.1) false fun r_16 =>
   bif ((!r_15.2) || (!r_16)) then
    call (R_ParseJournal_1 8) fun r_17 =>
    some (r_17.1,r_17.2)
   else
   chk (0≤o3_0_11∧o3_0_11≤(r_2.1.length:Int)) <|
   call (strings_Join (List.take o3_0_11.toNat r_2.1) ([10]:Str)) fun r_19 =>
   chk ((r_19++([10]:Str)).length≤274877906944) <|
   call (R_SumOf (r_19++([10]:Str))) fun r_21 =>
   bif !decide (r_21=r_15.1) then
    call (R_ParseJournal_1 14) fun r_22 =>
    some (r_22.1,r_22.2)
   else
   call (R_PrintJournal (api_Journal.mk r_5.1 r_7.1 o2_2_10)) fun r_23 =>
   bif !decide (r_23.2=0) then
    call (R_ParseJournal_1 r_23.2) fun r_24 =>
    some (r_24.1,r_24.2)
   else
   bif !decide (r_23.1=s_1) then
    call (R_ParseJournal_1 8) fun r_25 =>
    some (r_25.1,r_25.2)
   else
   some ((api_Journal.mk r_5.1 r_7.1 o2_2_10),0)) fun k_12 =>
 bif r_7.2.1 then
  call (R_ParseJournal_2_i1 ([111,108,100]:Str) r_7.2.2 r_2.1) fun r_26 =>
  k_12 (r_26.2.1,r_26.1,r_26.2.2)
 else
 k_12 (false,[],r_7.2.2)
noncomputable def slices_Equal_api_Change_api_Change (s1_1:List api_Change) (s2_2:List api_Change):Option Bool :=
 bif !decide ((s1_1.length:Int)=(s2_2.length:Int)) then
  some false
 else
 jp (S:=Unit) (fun _ =>
  some true) fun k_12 =>
 forL s1_1 0 (fun i_18 c_20 s nx_17 k_16 =>
  idx s2_2 (i_18:Int) fun c_21 =>
  bif !((decide (c_20.Kind=c_21.Kind)) && ((decide (c_20.File.Path=c_21.File.Path)) && ((decide (c_20.File.Data=c_21.File.Data)) && ((decide (c_20.File.Runs=c_21.File.Runs)) && ((decide (c_20.Setting.Key=c_21.Setting.Key)) && ((decide (c_20.Setting.Value=c_21.Setting.Value)) && ((decide (c_20.Service.Name=c_21.Service.Name)) && ((decide (c_20.Service.Path=c_21.Service.Path)) && ((decide (c_20.Service.Auto=c_21.Service.Auto)) && (decide (c_20.Service.On=c_21.Service.On))))))))))) then
   some false
  else
  nx_17 ()) () (fun _ =>
  k_12 ())
noncomputable def Law_sameJournal (a_1:api_Journal) (b_2:api_Journal):Option Bool :=
 callG (decide (a_1.Id=b_2.Id)) (slices_Equal_api_Change_api_Change a_1.Changes b_2.Changes) false fun r_3 =>
 callG ((decide (a_1.Id=b_2.Id)) && r_3) (slices_Equal_api_Change_api_Change a_1.Old b_2.Old) false fun r_4 =>
 some (((decide (a_1.Id=b_2.Id)) && r_3) && r_4)
noncomputable def Law_JournalsMatch (j_1:api_Journal) (at_2:Int) (by_3:Int) (raw_4:Str):Option Bool :=
 call (Law_landed) fun r_5 =>
 bif !r_5 then
  some false
 else
 call (stage_PrintJournal j_1) fun r_6 =>
 call (R_PrintJournal j_1) fun r_7 =>
 bif ((!decide (r_6.1=r_7.1)) || (!decide (r_6.2=r_7.2))) then
  some false
 else
 jp (S:=Unit) (fun _ =>
  call (stage_ParseJournal raw_4) fun r_23 =>
  call (R_ParseJournal raw_4) fun r_24 =>
  callG (decide (r_23.2=r_24.2)) (Law_sameJournal r_23.1 r_24.1) false fun r_25 =>
  some ((decide (r_23.2=r_24.2)) && r_25)) fun k_22 =>
 bif decide (r_6.2=0) then
  call (stage_ParseJournal r_6.1) fun r_26 =>
  callG (!(!decide (r_26.2=0))) (Law_sameJournal j_1 r_26.1) false fun r_27 =>
  bif ((!decide (r_26.2=0)) || (!r_27)) then
   some false
  else
  chk (¬ (r_6.1.length:Int)=0) <|
  chk (¬ (r_6.1.length:Int)=0) <|
  letv (Int.tmod (IntKind.i64.wrap ((Int.tmod at_2 (r_6.1.length:Int))+(r_6.1.length:Int))) (r_6.1.length:Int)) fun v_30 =>
  chk (0≤v_30∧v_30 < (r_6.1.length:Int)) <|
  chk (0≤v_30∧v_30 < (r_6.1.length:Int)) <|
  letv (List.set (bytesOf r_6.1) v_30.toNat (bitsI .xor .u8 ((bytesOf r_6.1).getD v_30.toNat 0) by_3)) fun v_34 =>
  call (stage_ParseJournal (Go.Vc.strOf v_34)) fun r_37 =>
  call (R_ParseJournal (Go.Vc.strOf v_34)) fun r_38 =>
  callG (!((!decide (by_3=0)) && ((decide (r_37.2=0)) || (decide (r_38.2=0))))) (Law_sameJournal r_37.1 r_38.1) false fun r_39 =>
  bif (((!decide (by_3=0)) && ((decide (r_37.2=0)) || (decide (r_38.2=0)))) || (!r_39)) then
   some false
  else
  k_22 ()
 else
 k_22 ()
end Go.Md
