/- Models of the functions that the statement reaches: what each computes, in plain words. -/
import Derived.Test.YtbofknpajcdnmaaGreatDoorVc3
set_option linter.unusedVariables false
namespace Go.Md
open Go.Vc
instance theTabs:Tabs:=⟨fun b=>none,fun b=>false⟩
def ecB (b:Bool):List Dt:=[.b b]
def ecS (x:Str):List Dt:=[.s x]
def ecI_i8 (n:Int):List Dt:=[.i .i8 n]
def ecI_i16 (n:Int):List Dt:=[.i .i16 n]
def ecI_i32 (n:Int):List Dt:=[.i .i32 n]
def ecI_i64 (n:Int):List Dt:=[.i .i64 n]
def ecI_u8 (n:Int):List Dt:=[.i .u8 n]
def ecI_u16 (n:Int):List Dt:=[.i .u16 n]
def ecI_u32 (n:Int):List Dt:=[.i .u32 n]
def ecI_u64 (n:Int):List Dt:=[.i .u64 n]
theorem dec1_s:∀ r,hasR r [.s]→∃ x,r=ecS x:=by
 intro r h
 rcases r with _ | ⟨d,_ | _⟩ <;> simp only [hasR,and_false,and_true] at h
 cases d <;> simp only [hasT] at h
 exact ⟨_,rfl⟩
theorem dec1_i64:∀ r,hasR r [.i .i64]→∃ x,r=ecI_i64 x:=by
 intro r h
 rcases r with _ | ⟨d,_ | _⟩ <;> simp only [hasR,and_false,and_true] at h
 cases d <;> simp only [hasT] at h
 subst h
 exact ⟨_,rfl⟩
theorem dec1_u8:∀ r,hasR r [.i .u8]→∃ x,r=ecI_u8 x:=by
 intro r h
 rcases r with _ | ⟨d,_ | _⟩ <;> simp only [hasR,and_false,and_true] at h
 cases d <;> simp only [hasT] at h
 subst h
 exact ⟨_,rfl⟩
structure api_Setting where
 Key:Str
 Value:Str
def enc_api_Setting (x:api_Setting):List Dt:=[.s x.Key,.s x.Value]
def sh_api_Setting:List Sh:=[.s,.s]
theorem dec_api_Setting:∀ r,hasR r sh_api_Setting→∃ x:api_Setting,r=enc_api_Setting x:=by
 intro r h
 unfold sh_api_Setting at h
 rcases r with _ | ⟨d0,_ | ⟨d1,_ | _⟩⟩ <;> simp only [hasR,and_false,and_true] at h
 obtain ⟨h0,h1⟩:=h
 cases d0 <;> simp only [hasT] at h0
 cases d1 <;> simp only [hasT] at h1
 exact ⟨⟨_,_⟩,rfl⟩
structure api_File where
 Path:Str
 Data:Str
 Runs:Bool
def enc_api_File (x:api_File):List Dt:=[.s x.Path,.s x.Data,.b x.Runs]
def sh_api_File:List Sh:=[.s,.s,.b]
theorem dec_api_File:∀ r,hasR r sh_api_File→∃ x:api_File,r=enc_api_File x:=by
 intro r h
 unfold sh_api_File at h
 rcases r with _ | ⟨d0,_ | ⟨d1,_ | ⟨d2,_ | _⟩⟩⟩ <;> simp only [hasR,and_false,and_true] at h
 obtain ⟨h0,h1,h2⟩:=h
 cases d0 <;> simp only [hasT] at h0
 cases d1 <;> simp only [hasT] at h1
 cases d2 <;> simp only [hasT] at h2
 exact ⟨⟨_,_,_⟩,rfl⟩
structure api_Service where
 Name:Str
 Path:Str
 Auto:Bool
 On:Bool
def enc_api_Service (x:api_Service):List Dt:=[.s x.Name,.s x.Path,.b x.Auto,.b x.On]
def sh_api_Service:List Sh:=[.s,.s,.b,.b]
theorem dec_api_Service:∀ r,hasR r sh_api_Service→∃ x:api_Service,r=enc_api_Service x:=by
 intro r h
 unfold sh_api_Service at h
 rcases r with _ | ⟨d0,_ | ⟨d1,_ | ⟨d2,_ | ⟨d3,_ | _⟩⟩⟩⟩ <;> simp only [hasR,and_false,and_true] at h
 obtain ⟨h0,h1,h2,h3⟩:=h
 cases d0 <;> simp only [hasT] at h0
 cases d1 <;> simp only [hasT] at h1
 cases d2 <;> simp only [hasT] at h2
 cases d3 <;> simp only [hasT] at h3
 exact ⟨⟨_,_,_,_⟩,rfl⟩
structure api_Machine where
 Facts:List api_Setting
 Files:List api_File
 Settings:List api_Setting
 Services:List api_Service
def enc_api_Machine (x:api_Machine):List Dt:=[.l (List.map enc_api_Setting x.Facts),.l (List.map enc_api_File x.Files),.l (List.map enc_api_Setting x.Settings),.l (List.map enc_api_Service x.Services)]
def sh_api_Machine:List Sh:=[.l sh_api_Setting,.l sh_api_File,.l sh_api_Setting,.l sh_api_Service]
theorem dec_api_Machine:∀ r,hasR r sh_api_Machine→∃ x:api_Machine,r=enc_api_Machine x:=by
 intro r h
 unfold sh_api_Machine at h
 rcases r with _ | ⟨d0,_ | ⟨d1,_ | ⟨d2,_ | ⟨d3,_ | _⟩⟩⟩⟩ <;> simp only [hasR,and_false,and_true] at h
 obtain ⟨h0,h1,h2,h3⟩:=h
 cases d0 <;> simp only [hasT] at h0
 obtain ⟨l0,rfl⟩:=hasRs_map dec_api_Setting h0
 cases d1 <;> simp only [hasT] at h1
 obtain ⟨l1,rfl⟩:=hasRs_map dec_api_File h1
 cases d2 <;> simp only [hasT] at h2
 obtain ⟨l2,rfl⟩:=hasRs_map dec_api_Setting h2
 cases d3 <;> simp only [hasT] at h3
 obtain ⟨l3,rfl⟩:=hasRs_map dec_api_Service h3
 exact ⟨⟨_,_,_,_⟩,rfl⟩
structure api_Change where
 Kind:Int
 File:api_File
 Setting:api_Setting
 Service:api_Service
def enc_api_Change (x:api_Change):List Dt:=[.i .i64 x.Kind,.s x.File.Path,.s x.File.Data,.b x.File.Runs,.s x.Setting.Key,.s x.Setting.Value,.s x.Service.Name,.s x.Service.Path,.b x.Service.Auto,.b x.Service.On]
def sh_api_Change:List Sh:=[.i .i64,.s,.s,.b,.s,.s,.s,.s,.b,.b]
set_option maxRecDepth 100000 in
theorem dec_api_Change:∀ r,hasR r sh_api_Change→∃ x:api_Change,r=enc_api_Change x:=by
 intro r h
 unfold sh_api_Change at h
 rcases r with _ | ⟨d0,_ | ⟨d1,_ | ⟨d2,_ | ⟨d3,_ | ⟨d4,_ | ⟨d5,_ | ⟨d6,_ | ⟨d7,_ | ⟨d8,_ | ⟨d9,_ | _⟩⟩⟩⟩⟩⟩⟩⟩⟩⟩ <;> simp only [hasR,and_false,and_true] at h
 obtain ⟨h0,h1,h2,h3,h4,h5,h6,h7,h8,h9⟩:=h
 cases d0 <;> simp only [hasT] at h0
 subst h0
 cases d1 <;> simp only [hasT] at h1
 cases d2 <;> simp only [hasT] at h2
 cases d3 <;> simp only [hasT] at h3
 cases d4 <;> simp only [hasT] at h4
 cases d5 <;> simp only [hasT] at h5
 cases d6 <;> simp only [hasT] at h6
 cases d7 <;> simp only [hasT] at h7
 cases d8 <;> simp only [hasT] at h8
 cases d9 <;> simp only [hasT] at h9
 exact ⟨⟨_,⟨_,_,_⟩,⟨_,_⟩,⟨_,_,_,_⟩⟩,rfl⟩
structure outlaw1_Act where
 Kind:Int
 Change:api_Change
 After:Int
 Torn:Bool
def enc_outlaw1_Act (x:outlaw1_Act):List Dt:=[.i .i64 x.Kind,.i .i64 x.Change.Kind,.s x.Change.File.Path,.s x.Change.File.Data,.b x.Change.File.Runs,.s x.Change.Setting.Key,.s x.Change.Setting.Value,.s x.Change.Service.Name,.s x.Change.Service.Path,.b x.Change.Service.Auto,.b x.Change.Service.On,.i .i64 x.After,.b x.Torn]
def sh_outlaw1_Act:List Sh:=[.i .i64,.i .i64,.s,.s,.b,.s,.s,.s,.s,.b,.b,.i .i64,.b]
set_option maxRecDepth 100000 in
theorem dec_outlaw1_Act:∀ r,hasR r sh_outlaw1_Act→∃ x:outlaw1_Act,r=enc_outlaw1_Act x:=by
 intro r h
 unfold sh_outlaw1_Act at h
 rcases r with _ | ⟨d0,_ | ⟨d1,_ | ⟨d2,_ | ⟨d3,_ | ⟨d4,_ | ⟨d5,_ | ⟨d6,_ | ⟨d7,_ | ⟨d8,_ | ⟨d9,_ | ⟨d10,_ | ⟨d11,_ | ⟨d12,_ | _⟩⟩⟩⟩⟩⟩⟩⟩⟩⟩⟩⟩⟩ <;> simp only [hasR,and_false,and_true] at h
 obtain ⟨h0,h1,h2,h3,h4,h5,h6,h7,h8,h9,h10,h11,h12⟩:=h
 cases d0 <;> simp only [hasT] at h0
 subst h0
 cases d1 <;> simp only [hasT] at h1
 subst h1
 cases d2 <;> simp only [hasT] at h2
 cases d3 <;> simp only [hasT] at h3
 cases d4 <;> simp only [hasT] at h4
 cases d5 <;> simp only [hasT] at h5
 cases d6 <;> simp only [hasT] at h6
 cases d7 <;> simp only [hasT] at h7
 cases d8 <;> simp only [hasT] at h8
 cases d9 <;> simp only [hasT] at h9
 cases d10 <;> simp only [hasT] at h10
 cases d11 <;> simp only [hasT] at h11
 subst h11
 cases d12 <;> simp only [hasT] at h12
 exact ⟨⟨_,⟨_,⟨_,_,_⟩,⟨_,_⟩,⟨_,_,_,_⟩⟩,_,_⟩,rfl⟩
structure stage_place where
 kind:Int
 name:Str
def enc_stage_place (x:stage_place):List Dt:=[.i .i64 x.kind,.s x.name]
def sh_stage_place:List Sh:=[.i .i64,.s]
theorem dec_stage_place:∀ r,hasR r sh_stage_place→∃ x:stage_place,r=enc_stage_place x:=by
 intro r h
 unfold sh_stage_place at h
 rcases r with _ | ⟨d0,_ | ⟨d1,_ | _⟩⟩ <;> simp only [hasR,and_false,and_true] at h
 obtain ⟨h0,h1⟩:=h
 cases d0 <;> simp only [hasT] at h0
 subst h0
 cases d1 <;> simp only [hasT] at h1
 exact ⟨⟨_,_⟩,rfl⟩
structure api_Journal where
 Id:Str
 Changes:List api_Change
 Old:List api_Change
def enc_api_Journal (x:api_Journal):List Dt:=[.s x.Id,.l (List.map enc_api_Change x.Changes),.l (List.map enc_api_Change x.Old)]
def sh_api_Journal:List Sh:=[.s,.l sh_api_Change,.l sh_api_Change]
theorem dec_api_Journal:∀ r,hasR r sh_api_Journal→∃ x:api_Journal,r=enc_api_Journal x:=by
 intro r h
 unfold sh_api_Journal at h
 rcases r with _ | ⟨d0,_ | ⟨d1,_ | ⟨d2,_ | _⟩⟩⟩ <;> simp only [hasR,and_false,and_true] at h
 obtain ⟨h0,h1,h2⟩:=h
 cases d0 <;> simp only [hasT] at h0
 cases d1 <;> simp only [hasT] at h1
 obtain ⟨l1,rfl⟩:=hasRs_map dec_api_Change h1
 cases d2 <;> simp only [hasT] at h2
 obtain ⟨l2,rfl⟩:=hasRs_map dec_api_Change h2
 exact ⟨⟨_,_,_⟩,rfl⟩
structure S_word_l where
 word:Str
 l:List api_Change
def enc_S_word_l (x:S_word_l):List Dt:=[.s x.word,.l (List.map enc_api_Change x.l)]
def sh_S_word_l:List Sh:=[.s,.l sh_api_Change]
theorem dec_S_word_l:∀ r,hasR r sh_S_word_l→∃ x:S_word_l,r=enc_S_word_l x:=by
 intro r h
 unfold sh_S_word_l at h
 rcases r with _ | ⟨d0,_ | ⟨d1,_ | _⟩⟩ <;> simp only [hasR,and_false,and_true] at h
 obtain ⟨h0,h1⟩:=h
 cases d0 <;> simp only [hasT] at h0
 cases d1 <;> simp only [hasT] at h1
 obtain ⟨l1,rfl⟩:=hasRs_map dec_api_Change h1
 exact ⟨⟨_,_⟩,rfl⟩
structure disk_line where
 word:Str
 file:api_File
 setting:api_Setting
 service:api_Service
def enc_disk_line (x:disk_line):List Dt:=[.s x.word,.s x.file.Path,.s x.file.Data,.b x.file.Runs,.s x.setting.Key,.s x.setting.Value,.s x.service.Name,.s x.service.Path,.b x.service.Auto,.b x.service.On]
def sh_disk_line:List Sh:=[.s,.s,.s,.b,.s,.s,.s,.s,.b,.b]
set_option maxRecDepth 100000 in
theorem dec_disk_line:∀ r,hasR r sh_disk_line→∃ x:disk_line,r=enc_disk_line x:=by
 intro r h
 unfold sh_disk_line at h
 rcases r with _ | ⟨d0,_ | ⟨d1,_ | ⟨d2,_ | ⟨d3,_ | ⟨d4,_ | ⟨d5,_ | ⟨d6,_ | ⟨d7,_ | ⟨d8,_ | ⟨d9,_ | _⟩⟩⟩⟩⟩⟩⟩⟩⟩⟩ <;> simp only [hasR,and_false,and_true] at h
 obtain ⟨h0,h1,h2,h3,h4,h5,h6,h7,h8,h9⟩:=h
 cases d0 <;> simp only [hasT] at h0
 cases d1 <;> simp only [hasT] at h1
 cases d2 <;> simp only [hasT] at h2
 cases d3 <;> simp only [hasT] at h3
 cases d4 <;> simp only [hasT] at h4
 cases d5 <;> simp only [hasT] at h5
 cases d6 <;> simp only [hasT] at h6
 cases d7 <;> simp only [hasT] at h7
 cases d8 <;> simp only [hasT] at h8
 cases d9 <;> simp only [hasT] at h9
 exact ⟨⟨_,⟨_,_,_⟩,⟨_,_⟩,⟨_,_,_,_⟩⟩,rfl⟩
structure api_Cut where
 After:Int
 Torn:Bool
def enc_api_Cut (x:api_Cut):List Dt:=[.i .i64 x.After,.b x.Torn]
def sh_api_Cut:List Sh:=[.i .i64,.b]
theorem dec_api_Cut:∀ r,hasR r sh_api_Cut→∃ x:api_Cut,r=enc_api_Cut x:=by
 intro r h
 unfold sh_api_Cut at h
 rcases r with _ | ⟨d0,_ | ⟨d1,_ | _⟩⟩ <;> simp only [hasR,and_false,and_true] at h
 obtain ⟨h0,h1⟩:=h
 cases d0 <;> simp only [hasT] at h0
 subst h0
 cases d1 <;> simp only [hasT] at h1
 exact ⟨⟨_,_⟩,rfl⟩
structure outlaw1_Step where
 Kind:Int
 Id:Str
 Changes:List api_Change
 Cut:api_Cut
def enc_outlaw1_Step (x:outlaw1_Step):List Dt:=[.i .i64 x.Kind,.s x.Id,.l (List.map enc_api_Change x.Changes),.i .i64 x.Cut.After,.b x.Cut.Torn]
def sh_outlaw1_Step:List Sh:=[.i .i64,.s,.l sh_api_Change,.i .i64,.b]
theorem dec_outlaw1_Step:∀ r,hasR r sh_outlaw1_Step→∃ x:outlaw1_Step,r=enc_outlaw1_Step x:=by
 intro r h
 unfold sh_outlaw1_Step at h
 rcases r with _ | ⟨d0,_ | ⟨d1,_ | ⟨d2,_ | ⟨d3,_ | ⟨d4,_ | _⟩⟩⟩⟩⟩ <;> simp only [hasR,and_false,and_true] at h
 obtain ⟨h0,h1,h2,h3,h4⟩:=h
 cases d0 <;> simp only [hasT] at h0
 subst h0
 cases d1 <;> simp only [hasT] at h1
 cases d2 <;> simp only [hasT] at h2
 obtain ⟨l2,rfl⟩:=hasRs_map dec_api_Change h2
 cases d3 <;> simp only [hasT] at h3
 subst h3
 cases d4 <;> simp only [hasT] at h4
 exact ⟨⟨_,_,_,⟨_,_⟩⟩,rfl⟩
instance instDec_stage_place:DecidableEq stage_place:=fun a b=>decidable_of_iff (a.kind=b.kind∧a.name=b.name) (by cases a; cases b; simp)
def kdk_stage_place (x:stage_place):Dt:=.a (enc_stage_place x)
theorem keq_stage_place (a b:stage_place):keq (kdk_stage_place a) (kdk_stage_place b)=decide (a=b):=by
 rw [Bool.eq_iff_iff]
 obtain ⟨a0,a1⟩:=a
 obtain ⟨b0,b1⟩:=b
 simp only [keq,kdk_stage_place,enc_stage_place,eqRow,Bool.and_true,Bool.and_eq_true,decide_eq_true_eq,stage_place.mk.injEq]
 exact ⟨fun h=>by simp only [h,and_self],fun h=>by simp only [h,and_self]⟩
theorem mkeys_stage_place {V:Type} (e:V→List Dt) (l:List (stage_place × V)):mkeys (.ks [.i .i64,.s]) (encM kdk_stage_place e l)=True:=mkeys_a (kd:=enc_stage_place) (fun x=>by simp [hasKs,enc_stage_place]) e l
attribute [go_sem] mkeys_stage_place
theorem sz_ecB:∀ l,szOk (1) (List.map ecB l)=True:=fun l=>eq_true (by intro r hr; obtain ⟨x,_,rfl⟩:=List.mem_map.1 hr; rfl)
theorem sz_ecS:∀ l,szOk (1) (List.map ecS l)=True:=fun l=>eq_true (by intro r hr; obtain ⟨x,_,rfl⟩:=List.mem_map.1 hr; rfl)
theorem sz_ecI_i64:∀ l,szOk (1) (List.map ecI_i64 l)=True:=fun l=>eq_true (by intro r hr; obtain ⟨x,_,rfl⟩:=List.mem_map.1 hr; rfl)
theorem sz_ecI_u8:∀ l,szOk (1) (List.map ecI_u8 l)=True:=fun l=>eq_true (by intro r hr; obtain ⟨x,_,rfl⟩:=List.mem_map.1 hr; rfl)
theorem sz_ecI_u64:∀ l,szOk (1) (List.map ecI_u64 l)=True:=fun l=>eq_true (by intro r hr; obtain ⟨x,_,rfl⟩:=List.mem_map.1 hr; rfl)
theorem sz_ecI_i32:∀ l,szOk (1) (List.map ecI_i32 l)=True:=fun l=>eq_true (by intro r hr; obtain ⟨x,_,rfl⟩:=List.mem_map.1 hr; rfl)
theorem sz_ecI_u32:∀ l,szOk (1) (List.map ecI_u32 l)=True:=fun l=>eq_true (by intro r hr; obtain ⟨x,_,rfl⟩:=List.mem_map.1 hr; rfl)
theorem sz_enc_api_Setting:∀ l,szOk (2) (List.map enc_api_Setting l)=True:=fun l=>eq_true (by intro r hr; obtain ⟨x,_,rfl⟩:=List.mem_map.1 hr; rfl)
theorem sz_enc_api_File:∀ l,szOk (3) (List.map enc_api_File l)=True:=fun l=>eq_true (by intro r hr; obtain ⟨x,_,rfl⟩:=List.mem_map.1 hr; rfl)
theorem sz_enc_api_Service:∀ l,szOk (4) (List.map enc_api_Service l)=True:=fun l=>eq_true (by intro r hr; obtain ⟨x,_,rfl⟩:=List.mem_map.1 hr; rfl)
theorem sz_enc_api_Machine:∀ l,szOk (4) (List.map enc_api_Machine l)=True:=fun l=>eq_true (by intro r hr; obtain ⟨x,_,rfl⟩:=List.mem_map.1 hr; rfl)
theorem sz_enc_api_Change:∀ l,szOk (10) (List.map enc_api_Change l)=True:=fun l=>eq_true (by intro r hr; obtain ⟨x,_,rfl⟩:=List.mem_map.1 hr; rfl)
theorem sz_enc_outlaw1_Act:∀ l,szOk (13) (List.map enc_outlaw1_Act l)=True:=fun l=>eq_true (by intro r hr; obtain ⟨x,_,rfl⟩:=List.mem_map.1 hr; rfl)
theorem sz_enc_stage_place:∀ l,szOk (2) (List.map enc_stage_place l)=True:=fun l=>eq_true (by intro r hr; obtain ⟨x,_,rfl⟩:=List.mem_map.1 hr; rfl)
theorem sz_enc_api_Journal:∀ l,szOk (3) (List.map enc_api_Journal l)=True:=fun l=>eq_true (by intro r hr; obtain ⟨x,_,rfl⟩:=List.mem_map.1 hr; rfl)
theorem sz_enc_S_word_l:∀ l,szOk (2) (List.map enc_S_word_l l)=True:=fun l=>eq_true (by intro r hr; obtain ⟨x,_,rfl⟩:=List.mem_map.1 hr; rfl)
theorem sz_enc_disk_line:∀ l,szOk (10) (List.map enc_disk_line l)=True:=fun l=>eq_true (by intro r hr; obtain ⟨x,_,rfl⟩:=List.mem_map.1 hr; rfl)
theorem sz_enc_api_Cut:∀ l,szOk (2) (List.map enc_api_Cut l)=True:=fun l=>eq_true (by intro r hr; obtain ⟨x,_,rfl⟩:=List.mem_map.1 hr; rfl)
theorem sz_enc_outlaw1_Step:∀ l,szOk (5) (List.map enc_outlaw1_Step l)=True:=fun l=>eq_true (by intro r hr; obtain ⟨x,_,rfl⟩:=List.mem_map.1 hr; rfl)
theorem allB_enc:∀ l:List Int,allB (List.map ecI_u8 l)=True
 | []=>by simp only [List.map_nil,allB]
 | _::l=>by simp only [List.map_cons,ecI_u8,allB,allB_enc l,and_self]
theorem unB_enc:∀ l:List Int,unB (List.map ecI_u8 l)=Go.Vc.strOf l
 | []=>by simp only [List.map_nil,unB,Go.Vc.strOf]
 | _::l=>by simp only [List.map_cons,ecI_u8,unB,unB_enc l,Go.Vc.strOf]
theorem bR_enc (l:Str):bR l=List.map ecI_u8 (bytesOf l):=by simp [bR,bytesOf,ecI_u8]
attribute [go_sem] allB_enc unB_enc bR_enc
attribute [go_sem] ecB ecS ecI_i64 ecI_u8 ecI_u64 ecI_i32 ecI_u32 enc_api_Setting enc_api_File enc_api_Service enc_api_Machine enc_api_Change enc_outlaw1_Act enc_stage_place enc_api_Journal enc_S_word_l enc_disk_line enc_api_Cut enc_outlaw1_Step sz_ecB sz_ecS sz_ecI_i64 sz_ecI_u8 sz_ecI_u64 sz_ecI_i32 sz_ecI_u32 sz_enc_api_Setting sz_enc_api_File sz_enc_api_Service sz_enc_api_Machine sz_enc_api_Change sz_enc_outlaw1_Act sz_enc_stage_place sz_enc_api_Journal sz_enc_S_word_l sz_enc_disk_line sz_enc_api_Cut sz_enc_outlaw1_Step
noncomputable def ver_isSmall (c_1:Int):Option Bool :=
 some ((decide (97≤c_1)) && (decide (c_1≤122)))
noncomputable def ver_isDigit (c_1:Int):Option Bool :=
 some ((decide (48≤c_1)) && (decide (c_1≤57)))
noncomputable def ver_IsName_1 (c_1:Int):Option Bool :=
 call (ver_isSmall c_1) fun r_2 =>
 callG (!r_2) (ver_isDigit c_1) false fun r_3 =>
 some (((r_2 || r_3) || (decide (c_1=45))) || (decide (c_1=46)))
noncomputable def ver_each_i1 (s_1:Str) (most_2:Int):Option Bool :=
 jp (S:=Unit) (fun _ =>
  some ((!decide (s_1=[])) && (decide ((s_1.length:Int)≤most_2)))) fun k_12 =>
 forL s_1 0 (fun i_18 c_20 s nx_17 k_16 =>
  call (ver_IsName_1 (c_20.toNat:Int)) fun r_21 =>
  bif !r_21 then
   some false
  else
  nx_17 ()) () (fun _ =>
  k_12 ())
noncomputable def ver_IsName (s_1:Str):Option Bool :=
 call (ver_each_i1 s_1 40) fun r_2 =>
 chk (r_2=true→(0≤0∧0 < (s_1.length:Int))) <|
 callG r_2 (ver_isSmall ((s_1.getD 0 0).toNat:Int)) false fun r_4 =>
 some (r_2 && r_4)
noncomputable def Law_landed :Option Bool :=
 call (ver_IsName ([97]:Str)) fun r_1 =>
 some r_1
noncomputable def R_IsName (s_1:Str):Option Bool :=
 jp (S:=Unit) (fun _ =>
  some ((!decide (s_1=[])) && (decide ((s_1.length:Int)≤40)))) fun k_9 =>
 forL s_1 0 (fun i_14 c_16 s nx_13 k_12 =>
  bif (((decide ((i_14:Int)=0)) && (!((decide (97≤(c_16.toNat:Int))) && (decide ((c_16.toNat:Int)≤122))))) || ((((!((decide (97≤(c_16.toNat:Int))) && (decide ((c_16.toNat:Int)≤122)))) && ((decide ((c_16.toNat:Int) < 48)) || (decide (57 < (c_16.toNat:Int))))) && (!decide ((c_16.toNat:Int)=45))) && (!decide ((c_16.toNat:Int)=46)))) then
   some false
  else
  nx_13 ()) () (fun _ =>
  k_9 ())
noncomputable def R_when (bad_1:Bool) (e_2:Int):Option Int :=
 bif bad_1 then
  some e_2
 else
 some 0
noncomputable def R_IsValue (s_1:Str):Option Bool :=
 jp (S:=Unit) (fun _ =>
  some (decide ((s_1.length:Int)≤1000))) fun k_9 =>
 forL s_1 0 (fun i_14 c_16 s nx_13 k_12 =>
  bif ((decide ((c_16.toNat:Int) < 32)) || (decide (126 < (c_16.toNat:Int)))) then
   some false
  else
  nx_13 ()) () (fun _ =>
  k_9 ())
noncomputable def R_Check_1_i1 (i_1:Int) (s_2:Str) (o0_0_3:Str):Option (Int × Str) :=
 call (R_when ((decide (0 < i_1)) && (strLt s_2 o0_0_3 || decide (s_2=o0_0_3))) 7) fun r_5 =>
 some (r_5,s_2)
noncomputable def R_first (l_1:List Int):Option Int :=
 jp (S:=Unit) (fun _ =>
  some 0) fun k_9 =>
 forL l_1 0 (fun i_14 e_16 s nx_13 k_12 =>
  bif !decide (e_16=0) then
   some e_16
  else
  nx_13 ()) () (fun _ =>
  k_9 ())
noncomputable def internal_stringslite_IndexByte (s_1:Str) (c_2:Int):Option Int :=
 some (ixByte s_1 c_2)
noncomputable def internal_stringslite_Index (s_1:Str) (substr_2:Str):Option Int :=
 bif ((decide ((substr_2.length:Int)=0)) || (decide (substr_2=s_1))) then
  some 0
 else
 bif decide ((substr_2.length:Int)=1) then
  idxS substr_2 0 fun c_3 =>
  call (internal_stringslite_IndexByte s_1 c_3) fun r_4 =>
  some r_4
 else
 bif decide ((s_1.length:Int)≤(substr_2.length:Int)) then
  some (-1)
 else
 none
noncomputable def strings_Index (s_1:Str) (substr_2:Str):Option Int :=
 call (internal_stringslite_Index s_1 substr_2) fun r_3 =>
 some r_3
noncomputable def strings_Count (s_1:Str) (substr_2:Str):Option Int :=
 bif decide ((substr_2.length:Int)=0) then
  none
 else
 bif decide ((substr_2.length:Int)=1) then
  idxS substr_2 0 fun c_3 =>
  some (cntByte s_1 c_3)
 else
 loopN Fuel (fun s nx_15 k_14 =>
  match s with
  | (s_10,n_11) =>
   call (strings_Index s_10 substr_2) fun r_16 =>
   bif decide (r_16=(-1)) then
    some n_11
   else
   chk (0≤IntKind.i64.wrap (r_16+(substr_2.length:Int))∧IntKind.i64.wrap (r_16+(substr_2.length:Int))≤(s_10.length:Int)) <|
   nx_15 (List.drop ((IntKind.i64.wrap (r_16+(substr_2.length:Int))).toNat) s_10,IntKind.i64.wrap (n_11+1))) (s_1,0) (fun s=>match s with
  | (s_10,n_11) =>
   some 0)
noncomputable def strings_genSplit (s_1:Str) (sep_2:Str) (sepSave_3:Int) (n_4:Int):Option (List Str) :=
 bif decide (n_4=0) then
  some []
 else
 bif decide (sep_2=[]) then
  none
 else
 jp (S:=Int) (fun n_6 =>
  chk (0≤min n_6 (IntKind.i64.wrap ((s_1.length:Int)+1))∧min n_6 (IntKind.i64.wrap ((s_1.length:Int)+1))≤min n_6 (IntKind.i64.wrap ((s_1.length:Int)+1))∧min n_6 (IntKind.i64.wrap ((s_1.length:Int)+1))≤274877906944) <|
  jp (S:=Str × Int × List Str) (fun s=>match s with
   | (s_28,i_29,o0_30) =>
    chk (0≤i_29∧i_29 < (o0_30.length:Int)) <|
    chk (0≤IntKind.i64.wrap (i_29+1)∧IntKind.i64.wrap (i_29+1)≤((List.set o0_30 i_29.toNat s_28).length:Int)) <|
    some (List.take ((IntKind.i64.wrap (i_29+1)).toNat) (List.set o0_30 i_29.toNat s_28))) fun k_31 =>
  loopN Fuel (fun s nx_48 k_47 =>
   match s with
   | (s_40,i_41,o0_42) =>
    bif decide (i_41 < (IntKind.i64.wrap ((min n_6 (IntKind.i64.wrap ((s_1.length:Int)+1))) - 1))) then
     call (strings_Index s_40 sep_2) fun r_49 =>
     bif decide (r_49 < 0) then
      k_47 (s_40,i_41,o0_42)
     else
     chk (0≤IntKind.i64.wrap (r_49+sepSave_3)∧IntKind.i64.wrap (r_49+sepSave_3)≤(s_40.length:Int)) <|
     chk (0≤i_41∧i_41 < (o0_42.length:Int)) <|
     chk (0≤IntKind.i64.wrap (r_49+(sep_2.length:Int))∧IntKind.i64.wrap (r_49+(sep_2.length:Int))≤(s_40.length:Int)) <|
     nx_48 (List.drop ((IntKind.i64.wrap (r_49+(sep_2.length:Int))).toNat) s_40,IntKind.i64.wrap (i_41+1),List.set o0_42 i_41.toNat (List.take ((IntKind.i64.wrap (r_49+sepSave_3)).toNat) s_40))
    else
    k_47 (s_40,i_41,o0_42)) (s_1,0,List.replicate ((min n_6 (IntKind.i64.wrap ((s_1.length:Int)+1))).toNat) []) (fun s=>match s with
   | (s_40,i_41,o0_42) =>
    k_31 (s_40,i_41,o0_42))) fun k_7 =>
 bif decide (n_4 < 0) then
  call (strings_Count s_1 sep_2) fun r_53 =>
  k_7 (IntKind.i64.wrap (r_53+1))
 else
 k_7 n_4
noncomputable def strings_Split (s_1:Str) (sep_2:Str):Option (List Str) :=
 call (strings_genSplit s_1 sep_2 0 (-1)) fun r_3 =>
 some r_3
noncomputable def R_isPart (s_1:Str):Option Bool :=
 jp (S:=Unit) (fun _ =>
  some ((((!decide (s_1=[])) && (decide ((s_1.length:Int)≤40))) && (!decide (s_1=([46]:Str)))) && (!decide (s_1=([46,46]:Str))))) fun k_9 =>
 forL s_1 0 (fun i_14 c_16 s nx_13 k_12 =>
  bif (((((((decide ((c_16.toNat:Int) < 97)) || (decide (122 < (c_16.toNat:Int)))) && ((decide ((c_16.toNat:Int) < 65)) || (decide (90 < (c_16.toNat:Int))))) && ((decide ((c_16.toNat:Int) < 48)) || (decide (57 < (c_16.toNat:Int))))) && (!decide ((c_16.toNat:Int)=45))) && (!decide ((c_16.toNat:Int)=46))) && (!decide ((c_16.toNat:Int)=95))) then
   some false
  else
  nx_13 ()) () (fun _ =>
  k_9 ())
noncomputable def R_IsPath (s_1:Str):Option Bool :=
 jp (S:=Unit) (fun _ =>
  some (decide ((s_1.length:Int)≤200))) fun k_12 =>
 call (strings_Split s_1 ([47]:Str)) fun r_13 =>
 forL r_13 0 (fun i_19 s_21 s nx_18 k_17 =>
  call (R_isPart s_21) fun r_22 =>
  bif !r_22 then
   some false
  else
  nx_18 ()) () (fun _ =>
  k_12 ())
noncomputable def R_fileError (f_1:api_File):Option Int :=
 call (R_IsPath f_1.Path) fun r_2 =>
 call (R_when (!r_2) 5) fun r_3 =>
 call (R_when (decide (65536 < (f_1.Data.length:Int))) 4) fun r_4 =>
 call (R_first [r_3,r_4]) fun r_5 =>
 some r_5
noncomputable def R_settingError (s_1:api_Setting):Option Int :=
 call (R_IsPath s_1.Key) fun r_2 =>
 call (R_when (!r_2) 5) fun r_3 =>
 call (R_IsValue s_1.Value) fun r_4 =>
 call (R_when (!r_4) 2) fun r_5 =>
 call (R_first [r_3,r_5]) fun r_6 =>
 some r_6
noncomputable def R_serviceError (s_1:api_Service):Option Int :=
 call (R_IsName s_1.Name) fun r_2 =>
 callG (!(!r_2)) (R_IsPath s_1.Path) false fun r_3 =>
 call (R_when ((!r_2) || (!r_3)) 5) fun r_4 =>
 some r_4
noncomputable def R_Check (m_1:api_Machine):Option Int :=
 bif ((((decide (100 < (m_1.Facts.length:Int))) || (decide (2000 < (m_1.Files.length:Int)))) || (decide (2000 < (m_1.Settings.length:Int)))) || (decide (100 < (m_1.Services.length:Int)))) then
  some 4
 else
 jp (S:=Str) (fun o1_0_35 =>
  jp (S:=Str) (fun o1_0_246 =>
   jp (S:=Str) (fun o1_0_269 =>
    jp (S:=Unit) (fun _ =>
     some 0) fun k_292 =>
    forL m_1.Services 0 (fun i_306 s_308 o1_0_299 nx_305 k_304 =>
     call (R_serviceError s_308) fun r_309 =>
     call (R_Check_1_i1 (i_306:Int) s_308.Name o1_0_299) fun r_310 =>
     call (R_first [r_309,r_310.1]) fun r_311 =>
     bif !decide (r_311=0) then
      some r_311
     else
     nx_305 r_310.2) o1_0_269 (fun o1_0_299 =>
     k_292 ())) fun k_270 =>
   forL m_1.Settings 0 (fun i_325 s_327 o1_0_318 nx_324 k_323 =>
    call (R_settingError s_327) fun r_328 =>
    call (R_Check_1_i1 (i_325:Int) s_327.Key o1_0_318) fun r_329 =>
    call (R_first [r_328,r_329.1]) fun r_330 =>
    bif !decide (r_330=0) then
     some r_330
    else
    nx_324 r_329.2) o1_0_246 (fun o1_0_318 =>
    k_270 o1_0_318)) fun k_247 =>
  forL m_1.Files 0 (fun i_471 f_473 s nx_470 k_469 =>
   match s with
   | (o1_0_400,m2_401) =>
    jp (S:=Str) (fun o1_0_505 =>
     nx_470 (o1_0_505,aset m2_401 f_473.Path true)) fun k_506 =>
    call (R_fileError f_473) fun r_507 =>
    call (R_Check_1_i1 (i_471:Int) f_473.Path o1_0_400) fun r_508 =>
    call (R_first [r_507,r_508.1]) fun r_509 =>
    jp (S:=Int) (fun e_522 =>
     bif !decide (e_522=0) then
      some e_522
     else
     chk ((aset m2_401 f_473.Path true).length≤274877906944) <|
     k_506 r_508.2) fun k_523 =>
    bif decide (r_509=0) then
     loopN Fuel (fun s nx_533 k_532 =>
      match s with
      | (e_526,t94_527) =>
       bif decide (t94_527 < (f_473.Path.length:Int)) then
        idxS f_473.Path t94_527 fun c_534 =>
        chk ((decide (c_534=47))=true→(0≤t94_527∧t94_527≤(f_473.Path.length:Int))) <|
        letv (alook m2_401 (List.take t94_527.toNat f_473.Path)) fun q_536 =>
        bif ((decide (c_534=47)) && (q_536.getD false)) then
         nx_533 (11,IntKind.i64.wrap (t94_527+1))
        else
        nx_533 (e_526,IntKind.i64.wrap (t94_527+1))
       else
       k_532 (e_526,t94_527)) (r_509,0) (fun s=>match s with
      | (e_526,t94_527) =>
       k_523 e_526)
    else
    k_523 r_509) (o1_0_35,[]) (fun s=>match s with
   | (o1_0_400,m2_401) =>
    k_247 o1_0_400)) fun k_36 =>
 forL m_1.Facts 0 (fun i_557 s_559 o1_0_547 nx_556 k_555 =>
  call (R_IsName s_559.Key) fun r_560 =>
  call (R_when (!r_560) 5) fun r_561 =>
  call (R_IsValue s_559.Value) fun r_562 =>
  call (R_when (!r_562) 2) fun r_563 =>
  call (R_Check_1_i1 (i_557:Int) s_559.Key o1_0_547) fun r_564 =>
  call (R_first [r_561,r_563,r_564.1]) fun r_565 =>
  bif !decide (r_565=0) then
   some r_565
  else
  nx_556 r_564.2) [] (fun o1_0_547 =>
  k_36 o1_0_547)
noncomputable def ver_IsValue_1 (c_1:Int):Option Bool :=
 some ((decide (32≤c_1)) && (decide (c_1≤126)))
noncomputable def ver_each_i2 (s_1:Str) (most_2:Int):Option Bool :=
 jp (S:=Unit) (fun _ =>
  some ((!decide (s_1=[])) && (decide ((s_1.length:Int)≤most_2)))) fun k_12 =>
 forL s_1 0 (fun i_18 c_20 s nx_17 k_16 =>
  call (ver_IsValue_1 (c_20.toNat:Int)) fun r_21 =>
  bif !r_21 then
   some false
  else
  nx_17 ()) () (fun _ =>
  k_12 ())
noncomputable def ver_IsValue (s_1:Str):Option Bool :=
 callG (!(decide (s_1=[]))) (ver_each_i2 s_1 1000) false fun r_2 =>
 some ((decide (s_1=[])) || r_2)
noncomputable def disk_settingFault_i1 (s_1:api_Setting):Option Int :=
 call (ver_IsName s_1.Key) fun r_2 =>
 bif !r_2 then
  some 5
 else
 call (ver_IsValue s_1.Value) fun r_3 =>
 bif !r_3 then
  some 2
 else
 some 0
noncomputable def disk_Check_1 (s_1:api_Setting):Option Int :=
 call (disk_settingFault_i1 s_1) fun r_2 =>
 some r_2
noncomputable def disk_keyOf (s_1:api_Setting):Option Str :=
 some s_1.Key
noncomputable def disk_eachFault_api_Setting_i1 (l_1:List api_Setting):Option Int :=
 jp (S:=Unit) (fun _ =>
  some 0) fun k_19 =>
 forL l_1 0 (fun i_29 s_31 s nx_28 k_27 =>
  call (disk_Check_1 s_31) fun r_32 =>
  bif !decide (r_32=0) then
   some r_32
  else
  callG (decide (0 < (i_29:Int))) (disk_keyOf s_31) [] fun r_33 =>
  chk ((decide (0 < (i_29:Int)))=true→(0≤IntKind.i64.wrap ((i_29:Int) - 1)∧IntKind.i64.wrap ((i_29:Int) - 1) < (l_1.length:Int))) <|
  callG (decide (0 < (i_29:Int))) (disk_keyOf (api_Setting.mk ((l_1.getD ((IntKind.i64.wrap ((i_29:Int) - 1)).toNat) (api_Setting.mk [] [])).Key) ((l_1.getD ((IntKind.i64.wrap ((i_29:Int) - 1)).toNat) (api_Setting.mk [] [])).Value))) [] fun r_35 =>
  bif ((decide (0 < (i_29:Int))) && (strLt r_33 r_35 || decide (r_33=r_35))) then
   some 7
  else
  nx_28 ()) () (fun _ =>
  k_19 ())
noncomputable def ver_isPart_1 (c_1:Int):Option Bool :=
 call (ver_isSmall c_1) fun r_2 =>
 callG (!(r_2 || ((decide (65≤c_1)) && (decide (c_1≤90))))) (ver_isDigit c_1) false fun r_3 =>
 some (((((r_2 || ((decide (65≤c_1)) && (decide (c_1≤90)))) || r_3) || (decide (c_1=45))) || (decide (c_1=46))) || (decide (c_1=95)))
noncomputable def ver_each_i3 (s_1:Str) (most_2:Int):Option Bool :=
 jp (S:=Unit) (fun _ =>
  some ((!decide (s_1=[])) && (decide ((s_1.length:Int)≤most_2)))) fun k_12 =>
 forL s_1 0 (fun i_18 c_20 s nx_17 k_16 =>
  call (ver_isPart_1 (c_20.toNat:Int)) fun r_21 =>
  bif !r_21 then
   some false
  else
  nx_17 ()) () (fun _ =>
  k_12 ())
noncomputable def ver_isPart (s_1:Str):Option Bool :=
 call (ver_each_i3 s_1 40) fun r_2 =>
 some ((r_2 && (!decide (s_1=([46]:Str)))) && (!decide (s_1=([46,46]:Str))))
noncomputable def ver_IsPath (s_1:Str):Option Bool :=
 jp (S:=Unit) (fun _ =>
  some (decide ((s_1.length:Int)≤200))) fun k_12 =>
 call (strings_Split s_1 ([47]:Str)) fun r_13 =>
 forL r_13 0 (fun i_19 s_21 s nx_18 k_17 =>
  call (ver_isPart s_21) fun r_22 =>
  bif !r_22 then
   some false
  else
  nx_18 ()) () (fun _ =>
  k_12 ())
noncomputable def disk_fileFault (f_1:api_File):Option Int :=
 call (ver_IsPath f_1.Path) fun r_2 =>
 bif !r_2 then
  some 5
 else
 bif decide (65536 < (f_1.Data.length:Int)) then
  some 4
 else
 some 0
noncomputable def disk_Check_2_i1 (dir_1:Str) (m1_2:List (Str × Bool)):Option Bool :=
 letv (alook m1_2 dir_1) fun q_5 =>
 some (!(q_5.getD false))
noncomputable def disk_above_i1 (path_1:Str) (m1_2:List (Str × Bool)):Option Bool :=
 jp (S:=Unit) (fun _ =>
  some true) fun k_37 =>
 forL path_1 0 (fun i_44 c_46 s nx_43 k_42 =>
  chk ((decide ((c_46.toNat:Int)=47))=true→(0≤(i_44:Int)∧(i_44:Int)≤(path_1.length:Int))) <|
  callG (decide ((c_46.toNat:Int)=47)) (disk_Check_2_i1 (List.take i_44 path_1) m1_2) false fun r_48 =>
  bif ((decide ((c_46.toNat:Int)=47)) && (!r_48)) then
   some false
  else
  nx_43 ()) () (fun _ =>
  k_37 ())
noncomputable def disk_settingFault_i2 (s_1:api_Setting):Option Int :=
 call (ver_IsPath s_1.Key) fun r_2 =>
 bif !r_2 then
  some 5
 else
 call (ver_IsValue s_1.Value) fun r_3 =>
 bif !r_3 then
  some 2
 else
 some 0
noncomputable def disk_Check_3 (s_1:api_Setting):Option Int :=
 call (disk_settingFault_i2 s_1) fun r_2 =>
 some r_2
noncomputable def disk_eachFault_api_Setting_i2 (l_1:List api_Setting):Option Int :=
 jp (S:=Unit) (fun _ =>
  some 0) fun k_19 =>
 forL l_1 0 (fun i_29 s_31 s nx_28 k_27 =>
  call (disk_Check_3 s_31) fun r_32 =>
  bif !decide (r_32=0) then
   some r_32
  else
  callG (decide (0 < (i_29:Int))) (disk_keyOf s_31) [] fun r_33 =>
  chk ((decide (0 < (i_29:Int)))=true→(0≤IntKind.i64.wrap ((i_29:Int) - 1)∧IntKind.i64.wrap ((i_29:Int) - 1) < (l_1.length:Int))) <|
  callG (decide (0 < (i_29:Int))) (disk_keyOf (api_Setting.mk ((l_1.getD ((IntKind.i64.wrap ((i_29:Int) - 1)).toNat) (api_Setting.mk [] [])).Key) ((l_1.getD ((IntKind.i64.wrap ((i_29:Int) - 1)).toNat) (api_Setting.mk [] [])).Value))) [] fun r_35 =>
  bif ((decide (0 < (i_29:Int))) && (strLt r_33 r_35 || decide (r_33=r_35))) then
   some 7
  else
  nx_28 ()) () (fun _ =>
  k_19 ())
noncomputable def disk_serviceFault (s_1:api_Service):Option Int :=
 call (ver_IsName s_1.Name) fun r_2 =>
 callG (!(!r_2)) (ver_IsPath s_1.Path) false fun r_3 =>
 bif ((!r_2) || (!r_3)) then
  some 5
 else
 some 0
noncomputable def disk_nameOf (s_1:api_Service):Option Str :=
 some s_1.Name
noncomputable def disk_eachFault_api_Service_i1 (l_1:List api_Service):Option Int :=
 jp (S:=Unit) (fun _ =>
  some 0) fun k_19 =>
 forL l_1 0 (fun i_29 s_31 s nx_28 k_27 =>
  call (disk_serviceFault s_31) fun r_32 =>
  bif !decide (r_32=0) then
   some r_32
  else
  callG (decide (0 < (i_29:Int))) (disk_nameOf s_31) [] fun r_33 =>
  chk ((decide (0 < (i_29:Int)))=true→(0≤IntKind.i64.wrap ((i_29:Int) - 1)∧IntKind.i64.wrap ((i_29:Int) - 1) < (l_1.length:Int))) <|
  callG (decide (0 < (i_29:Int))) (disk_nameOf (api_Service.mk ((l_1.getD ((IntKind.i64.wrap ((i_29:Int) - 1)).toNat) (api_Service.mk [] [] false false)).Name) ((l_1.getD ((IntKind.i64.wrap ((i_29:Int) - 1)).toNat) (api_Service.mk [] [] false false)).Path) ((l_1.getD ((IntKind.i64.wrap ((i_29:Int) - 1)).toNat) (api_Service.mk [] [] false false)).Auto) ((l_1.getD ((IntKind.i64.wrap ((i_29:Int) - 1)).toNat) (api_Service.mk [] [] false false)).On))) [] fun r_35 =>
  bif ((decide (0 < (i_29:Int))) && (strLt r_33 r_35 || decide (r_33=r_35))) then
   some 7
  else
  nx_28 ()) () (fun _ =>
  k_19 ())
noncomputable def disk_Check (m_1:api_Machine):Option Int :=
 bif ((((decide (100 < (m_1.Facts.length:Int))) || (decide (2000 < (m_1.Files.length:Int)))) || (decide (2000 < (m_1.Settings.length:Int)))) || (decide (100 < (m_1.Services.length:Int)))) then
  some 4
 else
 call (disk_eachFault_api_Setting_i1 m_1.Facts) fun r_2 =>
 bif !decide (r_2=0) then
  some r_2
 else
 jp (S:=Unit) (fun _ =>
  call (disk_eachFault_api_Setting_i2 m_1.Settings) fun r_28 =>
  bif !decide (r_28=0) then
   some r_28
  else
  call (disk_eachFault_api_Service_i1 m_1.Services) fun r_29 =>
  some r_29) fun k_27 =>
 forL m_1.Files 0 (fun i_47 f_49 s nx_46 k_45 =>
  match s with
  | (before_37,m1_39) =>
   call (disk_fileFault f_49) fun r_50 =>
   bif !decide (r_50=0) then
    some r_50
   else
   bif ((decide (0 < (i_47:Int))) && (strLt f_49.Path before_37 || decide (f_49.Path=before_37))) then
    some 7
   else
   call (disk_above_i1 f_49.Path m1_39) fun r_51 =>
   bif !r_51 then
    some 11
   else
   chk ((aset m1_39 f_49.Path true).length≤274877906944) <|
   nx_46 (f_49.Path,aset m1_39 f_49.Path true)) ([],[]) (fun s=>match s with
  | (before_37,m1_39) =>
   k_27 ())
noncomputable def slices_Clone_api_Setting_api_Setting (s_1:List api_Setting):Option (List api_Setting) :=
 anyOf (fun b_2:Bool=>b_2=true→s_1=[]) fun b_2 =>
 bif b_2 then
  some []
 else
 chk (([]++s_1).length≤274877906944) <|
 some ([]++s_1)
noncomputable def disk_bench_count_1_i1 (dir_1:Str) (o1_0_2:List api_Setting) (m2_3:List (Str × api_File)) (m3_4:List (Str × Int)) (m4_5:List (Str × api_Setting)) (m5_6:List (Str × api_Service)) (o6_0_7:Int):Option (Bool × (List (Str × Int))) :=
 letv (alook m3_4 dir_1) fun q_12 =>
 chk ((aset m3_4 dir_1 (IntKind.i64.wrap ((q_12.getD 0)+o6_0_7))).length≤274877906944) <|
 some (true,aset m3_4 dir_1 (IntKind.i64.wrap ((q_12.getD 0)+o6_0_7)))
noncomputable def disk_above_i2 (path_1:Str) (o1_0_2:List api_Setting) (m2_3:List (Str × api_File)) (m3_4:List (Str × Int)) (m4_5:List (Str × api_Setting)) (m5_6:List (Str × api_Service)) (o6_0_7:Int):Option (Bool × (List (Str × Int))) :=
 jp (S:=(List (Str × Int))) (fun m3_58 =>
  some (true,m3_58)) fun k_59 =>
 forL path_1 0 (fun i_71 c_73 m3_65 nx_70 k_69 =>
  chk ((decide ((c_73.toNat:Int)=47))=true→(0≤(i_71:Int)∧(i_71:Int)≤(path_1.length:Int))) <|
  callG (decide ((c_73.toNat:Int)=47)) (disk_bench_count_1_i1 (List.take i_71 path_1) o1_0_2 m2_3 m3_65 m4_5 m5_6 o6_0_7) (false,m3_65) fun r_75 =>
  bif ((decide ((c_73.toNat:Int)=47)) && (!r_75.1)) then
   some (false,r_75.2)
  else
  nx_70 r_75.2) m3_4 (fun m3_65 =>
  k_59 m3_65)
noncomputable def disk_bench_count_i1 (path_1:Str) (n_2:Int) (o0_0_3:List api_Setting) (m1_4:List (Str × api_File)) (m2_5:List (Str × Int)) (m3_6:List (Str × api_Setting)) (m4_7:List (Str × api_Service)):Option ((List (Str × Int))) :=
 call (disk_above_i2 path_1 o0_0_3 m1_4 m2_5 m3_6 m4_7 n_2) fun r_9 =>
 some r_9.2
noncomputable def disk_bench_put_i1 (f_1:api_File) (o0_0_2:List api_Setting) (m1_3:List (Str × api_File)) (m2_4:List (Str × Int)) (m3_5:List (Str × api_Setting)) (m4_6:List (Str × api_Service)):Option ((List (Str × api_File)) × (List (Str × Int))) :=
 letv (alook m1_3 f_1.Path) fun q_14 =>
 bif !q_14.isSome then
  call (disk_bench_count_i1 f_1.Path 1 o0_0_2 m1_3 m2_4 m3_5 m4_6) fun r_16 =>
  chk ((aset m1_3 f_1.Path f_1).length≤274877906944) <|
  some (aset m1_3 f_1.Path f_1,r_16)
 else
 chk ((aset m1_3 f_1.Path f_1).length≤274877906944) <|
 some (aset m1_3 f_1.Path f_1,m2_4)
noncomputable def disk_benchOf (m_1:api_Machine):Option ((List (Str × api_File)) × (List (Str × Int)) × (List (Str × api_Setting)) × (List (Str × api_Service)) × List api_Setting) :=
 call (slices_Clone_api_Setting_api_Setting m_1.Facts) fun r_102 =>
 jp (S:=(List (Str × api_File)) × (List (Str × Int))) (fun s=>match s with
  | (m1_117,m2_118) =>
   jp (S:=(List (Str × api_Setting))) (fun m3_136 =>
    jp (S:=(List (Str × api_Service))) (fun m4_154 =>
     some (m1_117,m2_118,m3_136,m4_154,r_102)) fun k_155 =>
    forL m_1.Services 0 (fun i_167 s_169 m4_161 nx_166 k_165 =>
     chk ((aset m4_161 s_169.Name s_169).length≤274877906944) <|
     nx_166 (aset m4_161 s_169.Name s_169)) [] (fun m4_161 =>
     k_155 m4_161)) fun k_137 =>
   forL m_1.Settings 0 (fun i_183 s_185 m3_177 nx_182 k_181 =>
    chk ((aset m3_177 s_185.Key s_185).length≤274877906944) <|
    nx_182 (aset m3_177 s_185.Key s_185)) [] (fun m3_177 =>
    k_137 m3_177)) fun k_119 =>
 forL m_1.Files 0 (fun i_198 f_200 s nx_197 k_196 =>
  match s with
  | (m1_192,m2_193) =>
   call (disk_bench_put_i1 f_200 r_102 m1_192 m2_193 [] []) fun r_201 =>
   nx_197 (r_201.1,r_201.2)) ([],[]) (fun s=>match s with
  | (m1_192,m2_193) =>
   k_119 (m1_192,m2_193))
noncomputable def disk_NewDisk_nil (m_1:api_Machine):Option Int :=
 call (disk_Check m_1) fun r_4 =>
 bif !decide (r_4=0) then
  some r_4
 else
 call (disk_benchOf m_1) fun r_5 =>
 none
noncomputable def internal_bytealg_CompareString (a_1:Str) (b_2:Str):Option Int :=
 some (cmpB a_1 b_2)
noncomputable def strings_Compare (a_1:Str) (b_2:Str):Option Int :=
 call (internal_bytealg_CompareString a_1 b_2) fun r_3 =>
 some r_3
noncomputable def Law_fit_1 (a_1:api_Setting) (b_2:api_Setting):Option Int :=
 call (strings_Compare a_1.Key b_2.Key) fun r_3 =>
 some r_3
noncomputable def slices_insertionSortCmpFunc_api_Setting_i1 (a_1:Int) (b_2:Int) (o0_3:List api_Setting):Option (List api_Setting) :=
 loopN Fuel (fun s nx_673 k_672 =>
  match s with
  | (i_538,o0_539) =>
   bif decide (i_538 < b_2) then
    jp (S:=List api_Setting) (fun o0_739 =>
     nx_673 (IntKind.i64.wrap (i_538+1),o0_739)) fun k_740 =>
    loopN Fuel (fun s nx_785 k_784 =>
     match s with
     | (j_762,o0_763) =>
      chk ((decide (a_1 < j_762))=true→(0≤j_762∧j_762 < (o0_763.length:Int))) <|
      chk ((decide (a_1 < j_762))=true→(0≤IntKind.i64.wrap (j_762 - 1)∧IntKind.i64.wrap (j_762 - 1) < (o0_763.length:Int))) <|
      callG (decide (a_1 < j_762)) (Law_fit_1 (api_Setting.mk ((o0_763.getD j_762.toNat (api_Setting.mk [] [])).Key) ((o0_763.getD j_762.toNat (api_Setting.mk [] [])).Value)) (api_Setting.mk ((o0_763.getD ((IntKind.i64.wrap (j_762 - 1)).toNat) (api_Setting.mk [] [])).Key) ((o0_763.getD ((IntKind.i64.wrap (j_762 - 1)).toNat) (api_Setting.mk [] [])).Value))) 0 fun r_788 =>
      bif ((decide (a_1 < j_762)) && (decide (r_788 < 0))) then
       chk (0≤IntKind.i64.wrap (j_762 - 1)∧IntKind.i64.wrap (j_762 - 1) < (o0_763.length:Int)) <|
       chk (0≤j_762∧j_762 < (o0_763.length:Int)) <|
       chk (0≤j_762∧j_762 < (o0_763.length:Int)) <|
       chk (0≤IntKind.i64.wrap (j_762 - 1)∧IntKind.i64.wrap (j_762 - 1) < ((List.set o0_763 j_762.toNat (api_Setting.mk ((o0_763.getD ((IntKind.i64.wrap (j_762 - 1)).toNat) (api_Setting.mk [] [])).Key) ((o0_763.getD ((IntKind.i64.wrap (j_762 - 1)).toNat) (api_Setting.mk [] [])).Value))).length:Int)) <|
       nx_785 (IntKind.i64.wrap (j_762 - 1),List.set (List.set o0_763 j_762.toNat (api_Setting.mk ((o0_763.getD ((IntKind.i64.wrap (j_762 - 1)).toNat) (api_Setting.mk [] [])).Key) ((o0_763.getD ((IntKind.i64.wrap (j_762 - 1)).toNat) (api_Setting.mk [] [])).Value))) ((IntKind.i64.wrap (j_762 - 1)).toNat) (api_Setting.mk ((o0_763.getD j_762.toNat (api_Setting.mk [] [])).Key) ((o0_763.getD j_762.toNat (api_Setting.mk [] [])).Value)))
      else
      k_784 (j_762,o0_763)) (i_538,o0_539) (fun s=>match s with
     | (j_762,o0_763) =>
      k_740 o0_763)
   else
   k_672 (i_538,o0_539)) (IntKind.i64.wrap (a_1+1),o0_3) (fun s=>match s with
  | (i_538,o0_539) =>
   some o0_539)
noncomputable def slices_stableCmpFunc_api_Setting_i1 (n_1:Int) (o0_2:List api_Setting):Option (List api_Setting) :=
 jp (S:=Int × List api_Setting) (fun s=>match s with
  | (a_58,o0_59) =>
   call (slices_insertionSortCmpFunc_api_Setting_i1 a_58 n_1 o0_59) fun r_61 =>
   loopN Fuel (fun blockSize_62 nx_73 k_72 =>
    bif decide (blockSize_62 < n_1) then
     jp (S:=Unit) (fun _ =>
      bif decide ((IntKind.i64.wrap (0+blockSize_62)) < n_1) then
       none
      else
      nx_73 (IntKind.i64.wrap (blockSize_62 * 2))) fun k_78 =>
     loopN Fuel (fun s nx_82 k_81 =>
      bif decide ((IntKind.i64.wrap (2 * blockSize_62))≤n_1) then
       none
      else
      k_81 ()) () (fun _ =>
      k_78 ())
    else
    k_72 blockSize_62) 20 (fun blockSize_62 =>
    some r_61)) fun k_60 =>
 loopN Fuel (fun s nx_91 k_90 =>
  match s with
  | (a_86,b_87,o0_88) =>
   bif decide (b_87≤n_1) then
    call (slices_insertionSortCmpFunc_api_Setting_i1 a_86 b_87 o0_88) fun r_92 =>
    nx_91 (b_87,IntKind.i64.wrap (b_87+20),r_92)
   else
   k_90 (a_86,b_87,o0_88)) (0,20,o0_2) (fun s=>match s with
  | (a_86,b_87,o0_88) =>
   k_60 (a_86,o0_88))
noncomputable def slices_SortStableFunc_api_Setting_api_Setting_i1 (o0_1:List api_Setting):Option (List api_Setting) :=
 call (slices_stableCmpFunc_api_Setting_i1 (o0_1.length:Int) o0_1) fun r_3 =>
 some r_3
noncomputable def Law_fit_2 (a_1:api_Setting) (b_2:api_Setting):Option Bool :=
 some (decide (a_1.Key=b_2.Key))
noncomputable def slices_CompactFunc_api_Setting_api_Setting_i1 (o0_1:List api_Setting):Option (Nat × Nat × List api_Setting) :=
 bif decide (((List.take o0_1.length o0_1).length:Int) < 2) then
  some (0,o0_1.length,o0_1)
 else
 jp (S:=Unit) (fun _ =>
  some (0,o0_1.length,o0_1)) fun k_1158 =>
 loopN Fuel (fun k_1159 nx_1352 k_1351 =>
  bif decide (k_1159 < ((List.take o0_1.length o0_1).length:Int)) then
   jp (S:=Unit) (fun _ =>
    nx_1352 (IntKind.i64.wrap (k_1159+1))) fun k_1448 =>
   chk (0≤k_1159∧k_1159 < (o0_1.length:Int)) <|
   chk (0≤IntKind.i64.wrap (k_1159 - 1)∧IntKind.i64.wrap (k_1159 - 1) < (o0_1.length:Int)) <|
   call (Law_fit_2 (api_Setting.mk ((o0_1.getD (k_1159.toNat:Nat) (api_Setting.mk [] [])).Key) ((o0_1.getD (k_1159.toNat:Nat) (api_Setting.mk [] [])).Value)) (api_Setting.mk ((o0_1.getD ((IntKind.i64.wrap (k_1159 - 1)).toNat:Nat) (api_Setting.mk [] [])).Key) ((o0_1.getD ((IntKind.i64.wrap (k_1159 - 1)).toNat:Nat) (api_Setting.mk [] [])).Value))) fun r_1451 =>
   bif r_1451 then
    chk (0≤k_1159∧k_1159≤(o0_1.length:Int)) <|
    jp (S:=Int × List api_Setting) (fun s=>match s with
     | (k_1497,o0_1498) =>
      chk (0≤k_1497∧k_1497≤(o0_1.length:Int)) <|
      chk (0≤k_1497∧k_1497≤(o0_1.length:Int)) <|
      some (0,k_1497.toNat,List.take k_1497.toNat o0_1498++List.replicate (o0_1.length - k_1497.toNat) (api_Setting.mk [] [])++List.drop (k_1497.toNat+(o0_1.length - k_1497.toNat)) o0_1498)) fun k_1499 =>
    loopN Fuel (fun s nx_1531 k_1530 =>
     match s with
     | (k_1515,k2_1516,o0_1517) =>
      bif decide (k2_1516 < ((List.take (o0_1.length - k_1159.toNat) (List.drop k_1159.toNat o0_1517)).length:Int)) then
       chk (0≤k2_1516∧k2_1516 < (o0_1.length - k_1159.toNat:Int)) <|
       chk (k_1159.toNat+k2_1516.toNat < o0_1517.length) <|
       chk (0≤IntKind.i64.wrap (k2_1516 - 1)∧IntKind.i64.wrap (k2_1516 - 1) < (o0_1.length - k_1159.toNat:Int)) <|
       chk (k_1159.toNat+((IntKind.i64.wrap (k2_1516 - 1)).toNat) < o0_1517.length) <|
       call (Law_fit_2 (api_Setting.mk ((o0_1517.getD (k_1159.toNat+k2_1516.toNat:Nat) (api_Setting.mk [] [])).Key) ((o0_1517.getD (k_1159.toNat+k2_1516.toNat:Nat) (api_Setting.mk [] [])).Value)) (api_Setting.mk ((o0_1517.getD (k_1159.toNat+((IntKind.i64.wrap (k2_1516 - 1)).toNat):Nat) (api_Setting.mk [] [])).Key) ((o0_1517.getD (k_1159.toNat+((IntKind.i64.wrap (k2_1516 - 1)).toNat):Nat) (api_Setting.mk [] [])).Value))) fun r_1536 =>
       bif !r_1536 then
        chk (0≤k2_1516∧k2_1516 < (o0_1.length - k_1159.toNat:Int)) <|
        chk (k_1159.toNat+k2_1516.toNat < o0_1517.length) <|
        chk (0≤k_1515∧k_1515 < (o0_1.length:Int)) <|
        chk (k_1515.toNat < o0_1517.length) <|
        nx_1531 (IntKind.i64.wrap (k_1515+1),IntKind.i64.wrap (k2_1516+1),List.set o0_1517 (k_1515.toNat:Nat) (api_Setting.mk ((o0_1517.getD (k_1159.toNat+k2_1516.toNat:Nat) (api_Setting.mk [] [])).Key) ((o0_1517.getD (k_1159.toNat+k2_1516.toNat:Nat) (api_Setting.mk [] [])).Value)))
       else
       nx_1531 (k_1515,IntKind.i64.wrap (k2_1516+1),o0_1517)
      else
      k_1530 (k_1515,k2_1516,o0_1517)) (k_1159,1,o0_1) (fun s=>match s with
     | (k_1515,k2_1516,o0_1517) =>
      k_1499 (k_1515,o0_1517))
   else
   k_1448 ()
  else
  k_1351 k_1159) 1 (fun k_1159 =>
  k_1158 ())
noncomputable def R_worldOf (m_1:api_Machine):Option ((List (Str × api_File)) × (List (Str × Str)) × (List (Str × api_Service)) × List api_Setting) :=
 jp (S:=(List (Str × api_File))) (fun m1_120 =>
  jp (S:=(List (Str × Str))) (fun m2_138 =>
   jp (S:=(List (Str × api_Service))) (fun m3_156 =>
    some (m1_120,m2_138,m3_156,m_1.Facts)) fun k_157 =>
   forL m_1.Services 0 (fun i_169 s_171 m3_163 nx_168 k_167 =>
    chk ((aset m3_163 s_171.Name s_171).length≤274877906944) <|
    nx_168 (aset m3_163 s_171.Name s_171)) [] (fun m3_163 =>
    k_157 m3_163)) fun k_139 =>
  forL m_1.Settings 0 (fun i_185 s_187 m2_179 nx_184 k_183 =>
   chk ((aset m2_179 s_187.Key s_187.Value).length≤274877906944) <|
   nx_184 (aset m2_179 s_187.Key s_187.Value)) [] (fun m2_179 =>
   k_139 m2_179)) fun k_121 =>
 forL m_1.Files 0 (fun i_201 f_203 m1_195 nx_200 k_199 =>
  chk ((aset m1_195 f_203.Path f_203).length≤274877906944) <|
  nx_200 (aset m1_195 f_203.Path f_203)) [] (fun m1_195 =>
  k_121 m1_195)
noncomputable def R_ChangeError (c_1:api_Change):Option Int :=
 jp (S:=Int × Str × Str × Bool × Str × Str × Str × Str × Bool × Bool) (fun s=>match s with
  | (e_11,o1_1_12,o1_2_13,o1_3_14,o1_4_15,o1_5_16,o1_6_17,o1_7_18,o1_8_19,o1_9_20) =>
   call (R_when (!(true && ((decide (o1_1_12=[])) && ((decide (o1_2_13=[])) && ((decide (o1_3_14=false)) && ((decide (o1_4_15=[])) && ((decide (o1_5_16=[])) && ((decide (o1_6_17=[])) && ((decide (o1_7_18=[])) && ((decide (o1_8_19=false)) && (decide (o1_9_20=false)))))))))))) 2) fun r_22 =>
   call (R_first [e_11,r_22]) fun r_23 =>
   some r_23) fun k_21 =>
 bif decide (c_1.Kind=1) then
  call (R_fileError c_1.File) fun r_24 =>
  k_21 (r_24,[],[],false,c_1.Setting.Key,c_1.Setting.Value,c_1.Service.Name,c_1.Service.Path,c_1.Service.Auto,c_1.Service.On)
 else
 bif decide (c_1.Kind=2) then
  call (R_IsPath c_1.File.Path) fun r_25 =>
  call (R_when (!r_25) 5) fun r_26 =>
  k_21 (r_26,[],c_1.File.Data,c_1.File.Runs,c_1.Setting.Key,c_1.Setting.Value,c_1.Service.Name,c_1.Service.Path,c_1.Service.Auto,c_1.Service.On)
 else
 bif decide (c_1.Kind=3) then
  call (R_settingError c_1.Setting) fun r_27 =>
  k_21 (r_27,c_1.File.Path,c_1.File.Data,c_1.File.Runs,[],[],c_1.Service.Name,c_1.Service.Path,c_1.Service.Auto,c_1.Service.On)
 else
 bif decide (c_1.Kind=4) then
  call (R_IsPath c_1.Setting.Key) fun r_28 =>
  call (R_when (!r_28) 5) fun r_29 =>
  k_21 (r_29,c_1.File.Path,c_1.File.Data,c_1.File.Runs,[],c_1.Setting.Value,c_1.Service.Name,c_1.Service.Path,c_1.Service.Auto,c_1.Service.On)
 else
 bif decide (c_1.Kind=5) then
  call (R_serviceError c_1.Service) fun r_30 =>
  k_21 (r_30,c_1.File.Path,c_1.File.Data,c_1.File.Runs,c_1.Setting.Key,c_1.Setting.Value,[],[],false,false)
 else
 bif decide (c_1.Kind=6) then
  call (R_IsName c_1.Service.Name) fun r_31 =>
  call (R_when (!r_31) 5) fun r_32 =>
  k_21 (r_32,c_1.File.Path,c_1.File.Data,c_1.File.Runs,c_1.Setting.Key,c_1.Setting.Value,[],c_1.Service.Path,c_1.Service.Auto,c_1.Service.On)
 else
 some 1
noncomputable def internal_stringslite_HasPrefix (s_1:Str) (prefix_2:Str):Option Bool :=
 chk ((decide ((prefix_2.length:Int)≤(s_1.length:Int)))=true→(0≤(prefix_2.length:Int)∧(prefix_2.length:Int)≤(s_1.length:Int))) <|
 some ((decide ((prefix_2.length:Int)≤(s_1.length:Int))) && (decide ((List.take prefix_2.length s_1)=prefix_2)))
noncomputable def strings_HasPrefix (s_1:Str) (prefix_2:Str):Option Bool :=
 call (internal_stringslite_HasPrefix s_1 prefix_2) fun r_3 =>
 some r_3
noncomputable def R_under (path_1:Str) (dir_2:Str):Option Bool :=
 chk ((dir_2++([47]:Str)).length≤274877906944) <|
 call (strings_HasPrefix path_1 (dir_2++([47]:Str))) fun r_4 =>
 some r_4
noncomputable def R_world_do_i1 (c_1:api_Change) (o0_0_2:List api_Setting) (m1_3:List (Str × api_File)) (m2_4:List (Str × Str)) (m3_5:List (Str × api_Service)):Option (Int × (List (Str × api_File)) × (List (Str × Str)) × (List (Str × api_Service))) :=
 call (R_ChangeError c_1) fun r_139 =>
 bif !decide (r_139=0) then
  some (r_139,m1_3,m2_4,m3_5)
 else
 jp (S:=(List (Str × api_File)) × (List (Str × Str)) × (List (Str × api_Service))) (fun s=>match s with
  | (m1_204,m2_205,m3_206) =>
   some (0,m1_204,m2_205,m3_206)) fun k_207 =>
 bif decide (c_1.Kind=2) then
  letv (alook m1_3 c_1.File.Path) fun q_208 =>
  bif !q_208.isSome then
   some (10,m1_3,m2_4,m3_5)
  else
  k_207 (adel m1_3 c_1.File.Path,m2_4,m3_5)
 else
 bif decide (c_1.Kind=4) then
  letv (alook m2_4 c_1.Setting.Key) fun q_211 =>
  bif !q_211.isSome then
   some (10,m1_3,m2_4,m3_5)
  else
  k_207 (m1_3,adel m2_4 c_1.Setting.Key,m3_5)
 else
 bif decide (c_1.Kind=6) then
  letv (alook m3_5 c_1.Service.Name) fun q_214 =>
  bif !q_214.isSome then
   some (10,m1_3,m2_4,m3_5)
  else
  k_207 (m1_3,m2_4,adel m3_5 c_1.Service.Name)
 else
 bif decide (c_1.Kind=1) then
  jp (S:=Unit) (fun _ =>
   letv (alook m1_3 c_1.File.Path) fun q_239 =>
   bif ((!q_239.isSome) && (decide (2000≤(m1_3.length:Int)))) then
    some (4,m1_3,m2_4,m3_5)
   else
   chk ((aset m1_3 c_1.File.Path c_1.File).length≤274877906944) <|
   k_207 (aset m1_3 c_1.File.Path c_1.File,m2_4,m3_5)) fun k_238 =>
  forM (fun e_260 s nx_254 k_253 =>
   call (R_under e_260.1 c_1.File.Path) fun r_262 =>
   callG (!r_262) (R_under c_1.File.Path e_260.1) false fun r_263 =>
   bif (r_262 || r_263) then
    some (11,m1_3,m2_4,m3_5)
   else
   nx_254 ()) m1_3.length m1_3 () (fun _ =>
   k_238 ())
 else
 bif decide (c_1.Kind=3) then
  letv (alook m2_4 c_1.Setting.Key) fun q_264 =>
  bif ((!q_264.isSome) && (decide (2000≤(m2_4.length:Int)))) then
   some (4,m1_3,m2_4,m3_5)
  else
  chk ((aset m2_4 c_1.Setting.Key c_1.Setting.Value).length≤274877906944) <|
  k_207 (m1_3,aset m2_4 c_1.Setting.Key c_1.Setting.Value,m3_5)
 else
 letv (alook m3_5 c_1.Service.Name) fun q_268 =>
 bif ((!q_268.isSome) && (decide (100≤(m3_5.length:Int)))) then
  some (4,m1_3,m2_4,m3_5)
 else
 chk ((aset m3_5 c_1.Service.Name c_1.Service).length≤274877906944) <|
 k_207 (m1_3,m2_4,aset m3_5 c_1.Service.Name c_1.Service)
noncomputable def slices_Sort_str (o0:List Str):Option (List Str):=some (sortS o0)
noncomputable def R_keys_api_File_i1 (m0_1:List (Str × api_File)):Option (List Str) :=
 jp (S:=List Str) (fun o2_74 =>
  call (slices_Sort_str o2_74) fun r_76 =>
  some r_76) fun k_75 =>
 forM (fun e_97 o2_85 nx_91 k_90 =>
  chk ((o2_85++[e_97.1]).length≤274877906944) <|
  nx_91 (o2_85++[e_97.1])) m0_1.length m0_1 [] (fun o2_85 =>
  k_75 o2_85)
noncomputable def R_keys_string_i1 (m0_1:List (Str × Str)):Option (List Str) :=
 jp (S:=List Str) (fun o2_74 =>
  call (slices_Sort_str o2_74) fun r_76 =>
  some r_76) fun k_75 =>
 forM (fun e_97 o2_85 nx_91 k_90 =>
  chk ((o2_85++[e_97.1]).length≤274877906944) <|
  nx_91 (o2_85++[e_97.1])) m0_1.length m0_1 [] (fun o2_85 =>
  k_75 o2_85)
noncomputable def R_keys_api_Service_i1 (m0_1:List (Str × api_Service)):Option (List Str) :=
 jp (S:=List Str) (fun o2_74 =>
  call (slices_Sort_str o2_74) fun r_76 =>
  some r_76) fun k_75 =>
 forM (fun e_97 o2_85 nx_91 k_90 =>
  chk ((o2_85++[e_97.1]).length≤274877906944) <|
  nx_91 (o2_85++[e_97.1])) m0_1.length m0_1 [] (fun o2_85 =>
  k_75 o2_85)
noncomputable def R_world_machine_i1 (o0_0_1:List api_Setting) (m1_2:List (Str × api_File)) (m2_3:List (Str × Str)) (m3_4:List (Str × api_Service)):Option api_Machine :=
 call (slices_Clone_api_Setting_api_Setting o0_0_1) fun r_162 =>
 jp (S:=List api_File) (fun o6_188 =>
  jp (S:=List api_Setting) (fun o7_215 =>
   jp (S:=List api_Service) (fun o8_242 =>
    some (api_Machine.mk r_162 o6_188 o7_215 o8_242)) fun k_243 =>
   call (R_keys_api_Service_i1 m3_4) fun r_244 =>
   forL r_244 0 (fun i_263 s_265 o8_256 nx_262 k_261 =>
    letv (alook m3_4 s_265) fun q_266 =>
    chk ((o8_256++[(q_266.getD (api_Service.mk [] [] false false))]).length≤274877906944) <|
    nx_262 (o8_256++[(q_266.getD (api_Service.mk [] [] false false))])) [] (fun o8_256 =>
    k_243 o8_256)) fun k_216 =>
  call (R_keys_string_i1 m2_3) fun r_269 =>
  forL r_269 0 (fun i_288 s_290 o7_281 nx_287 k_286 =>
   letv (alook m2_3 s_290) fun q_291 =>
   chk ((o7_281++[(api_Setting.mk s_290 (q_291.getD []))]).length≤274877906944) <|
   nx_287 (o7_281++[(api_Setting.mk s_290 (q_291.getD []))])) [] (fun o7_281 =>
   k_216 o7_281)) fun k_189 =>
 call (R_keys_api_File_i1 m1_2) fun r_294 =>
 forL r_294 0 (fun i_313 s_315 o6_306 nx_312 k_311 =>
  letv (alook m1_2 s_315) fun q_316 =>
  chk ((o6_306++[(q_316.getD (api_File.mk [] [] false))]).length≤274877906944) <|
  nx_312 (o6_306++[(q_316.getD (api_File.mk [] [] false))])) [] (fun o6_306 =>
  k_189 o6_306)
noncomputable def R_Apply (m_1:api_Machine) (l_2:List api_Change):Option (api_Machine × Int) :=
 call (R_Check m_1) fun r_3 =>
 bif !decide (r_3=0) then
  some ((api_Machine.mk [] [] [] []),r_3)
 else
 call (R_worldOf m_1) fun r_4 =>
 jp (S:=(List (Str × api_File)) × (List (Str × Str)) × (List (Str × api_Service))) (fun s=>match s with
  | (m3_20,m4_21,m5_22) =>
   call (R_world_machine_i1 r_4.2.2.2 m3_20 m4_21 m5_22) fun r_24 =>
   some (r_24,0)) fun k_23 =>
 forL l_2 0 (fun i_36 c_38 s nx_35 k_34 =>
  match s with
  | (m3_29,m4_30,m5_31) =>
   call (R_world_do_i1 c_38 r_4.2.2.2 m3_29 m4_30 m5_31) fun r_39 =>
   bif !decide (r_39.1=0) then
    some ((api_Machine.mk [] [] [] []),r_39.1)
   else
   nx_35 (r_39.2.1,r_39.2.2.1,r_39.2.2.2)) (r_4.1,r_4.2.1,r_4.2.2.1) (fun s=>match s with
  | (m3_29,m4_30,m5_31) =>
   k_23 (m3_29,m4_30,m5_31))
noncomputable def Law_fit_3_i1 (c_1:api_Change) (o0_0_2:List api_Setting):Option (List api_Setting × List api_File × List api_Setting × List api_Service) :=
 call (R_Apply (api_Machine.mk o0_0_2 [] [] []) [c_1]) fun r_4 =>
 bif decide (r_4.2=0) then
  some (r_4.1.Facts,r_4.1.Files,r_4.1.Settings,r_4.1.Services)
 else
 some (o0_0_2,[],[],[])
noncomputable def Law_fit_3_i2 (c_1:api_Change) (o0_0_2:List api_Setting) (o0_1_3:List api_File) (o0_2_4:List api_Setting) (o0_3_5:List api_Service):Option (List api_Setting × List api_File × List api_Setting × List api_Service) :=
 call (R_Apply (api_Machine.mk o0_0_2 o0_1_3 o0_2_4 o0_3_5) [c_1]) fun r_7 =>
 bif decide (r_7.2=0) then
  some (r_7.1.Facts,r_7.1.Files,r_7.1.Settings,r_7.1.Services)
 else
 some (o0_0_2,o0_1_3,o0_2_4,o0_3_5)
noncomputable def Law_fit (m_1:api_Machine):Option api_Machine :=
 jp (S:=List api_Setting) (fun o3_26 =>
  call (slices_SortStableFunc_api_Setting_api_Setting_i1 o3_26) fun r_28 =>
  call (slices_CompactFunc_api_Setting_api_Setting_i1 r_28) fun r_29 =>
  jp (S:=List api_Setting × List api_File × List api_Setting × List api_Service) (fun s=>match s with
   | (o2_0_54,o2_1_55,o2_2_56,o2_3_57) =>
    jp (S:=List api_Setting × List api_File × List api_Setting × List api_Service) (fun s=>match s with
     | (o2_0_76,o2_1_77,o2_2_78,o2_3_79) =>
      jp (S:=List api_Setting × List api_File × List api_Setting × List api_Service) (fun s=>match s with
       | (o2_0_98,o2_1_99,o2_2_100,o2_3_101) =>
        some (api_Machine.mk o2_0_98 o2_1_99 o2_2_100 o2_3_101)) fun k_102 =>
      chk (0≤min (m_1.Services.length:Int) 40∧min (m_1.Services.length:Int) 40≤(m_1.Services.length:Int)) <|
      forL (List.take ((min (m_1.Services.length:Int) 40).toNat) m_1.Services) 0 (fun i_116 s_118 s nx_115 k_114 =>
       match s with
       | (o2_0_108,o2_1_109,o2_2_110,o2_3_111) =>
        call (Law_fit_3_i2 (api_Change.mk 5 (api_File.mk [] [] false) (api_Setting.mk [] []) s_118) o2_0_108 o2_1_109 o2_2_110 o2_3_111) fun r_119 =>
        nx_115 (r_119.1,r_119.2.1,r_119.2.2.1,r_119.2.2.2)) (o2_0_76,o2_1_77,o2_2_78,o2_3_79) (fun s=>match s with
       | (o2_0_108,o2_1_109,o2_2_110,o2_3_111) =>
        k_102 (o2_0_108,o2_1_109,o2_2_110,o2_3_111))) fun k_80 =>
    chk (0≤min (m_1.Settings.length:Int) 40∧min (m_1.Settings.length:Int) 40≤(m_1.Settings.length:Int)) <|
    forL (List.take ((min (m_1.Settings.length:Int) 40).toNat) m_1.Settings) 0 (fun i_133 s_135 s nx_132 k_131 =>
     match s with
     | (o2_0_125,o2_1_126,o2_2_127,o2_3_128) =>
      call (Law_fit_3_i2 (api_Change.mk 3 (api_File.mk [] [] false) s_135 (api_Service.mk [] [] false false)) o2_0_125 o2_1_126 o2_2_127 o2_3_128) fun r_136 =>
      nx_132 (r_136.1,r_136.2.1,r_136.2.2.1,r_136.2.2.2)) (o2_0_54,o2_1_55,o2_2_56,o2_3_57) (fun s=>match s with
     | (o2_0_125,o2_1_126,o2_2_127,o2_3_128) =>
      k_80 (o2_0_125,o2_1_126,o2_2_127,o2_3_128))) fun k_58 =>
  chk (0≤min (m_1.Files.length:Int) 40∧min (m_1.Files.length:Int) 40≤(m_1.Files.length:Int)) <|
  forL (List.take ((min (m_1.Files.length:Int) 40).toNat) m_1.Files) 0 (fun i_156 f_158 s nx_155 k_154 =>
   match s with
   | (o2_0_147,o2_1_148,o2_2_149,o2_3_150) =>
    chk (0≤min (f_158.Data.length:Int) 3000∧min (f_158.Data.length:Int) 3000≤(f_158.Data.length:Int)) <|
    call (Law_fit_3_i2 (api_Change.mk 1 (api_File.mk f_158.Path (List.take ((min (f_158.Data.length:Int) 3000).toNat) f_158.Data) f_158.Runs) (api_Setting.mk [] []) (api_Service.mk [] [] false false)) o2_0_147 o2_1_148 o2_2_149 o2_3_150) fun r_160 =>
    nx_155 (r_160.1,r_160.2.1,r_160.2.2.1,r_160.2.2.2)) (List.take r_29.2.1 (List.drop r_29.1 r_29.2.2),[],[],[]) (fun s=>match s with
   | (o2_0_147,o2_1_148,o2_2_149,o2_3_150) =>
    k_58 (o2_0_147,o2_1_148,o2_2_149,o2_3_150))) fun k_27 =>
 forL m_1.Facts 0 (fun i_179 s_181 o3_172 nx_178 k_177 =>
  call (R_IsName s_181.Key) fun r_182 =>
  callG r_182 (R_IsValue s_181.Value) false fun r_183 =>
  bif ((r_182 && r_183) && (decide ((o3_172.length:Int) < 20))) then
   chk ((o3_172++[s_181]).length≤274877906944) <|
   nx_178 (o3_172++[s_181])
  else
  nx_178 o3_172) [] (fun o3_172 =>
  k_27 o3_172)
noncomputable def disk_NewDisk_i2 (m_1:api_Machine):Option (Int × List api_Setting × List api_File × List api_Setting × List api_Service × (List (Str × api_File)) × (List (Str × Int)) × (List (Str × api_Setting)) × (List (Str × api_Service)) × List api_Setting × Bool × Bool × Int × Bool × Int) :=
 call (disk_Check m_1) fun r_4 =>
 bif !decide (r_4=0) then
  none
 else
 call (disk_benchOf m_1) fun r_5 =>
 some (0,m_1.Facts,m_1.Files,m_1.Settings,m_1.Services,r_5.1,r_5.2.1,r_5.2.2.1,r_5.2.2.2.1,r_5.2.2.2.2,false,false,0,false,0)
noncomputable def R_NewDisk (m_1:api_Machine):Option (List api_Setting × List api_File × List api_Setting × List api_Service × (List (Str × api_File)) × (List (Str × Str)) × (List (Str × api_Service)) × List api_Setting × Bool × Int × Bool × Bool × Int) :=
 call (R_worldOf m_1) fun r_3 =>
 some (m_1.Facts,m_1.Files,m_1.Settings,m_1.Services,r_3.1,r_3.2.1,r_3.2.2.1,r_3.2.2.2,false,0,false,false,0)
noncomputable def disk_CheckChange (c_1:api_Change):Option Int :=
 jp (S:=Int × Str × Str × Bool × Str × Str × Str × Str × Bool × Bool) (fun s=>match s with
  | (e_8,o1_1_9,o1_2_10,o1_3_11,o1_4_12,o1_5_13,o1_6_14,o1_7_15,o1_8_16,o1_9_17) =>
   bif ((decide (e_8=0)) && (!((decide (c_1.Kind=c_1.Kind)) && ((decide (c_1.File.Path=o1_1_9)) && ((decide (c_1.File.Data=o1_2_10)) && ((decide (c_1.File.Runs=o1_3_11)) && ((decide (c_1.Setting.Key=o1_4_12)) && ((decide (c_1.Setting.Value=o1_5_13)) && ((decide (c_1.Service.Name=o1_6_14)) && ((decide (c_1.Service.Path=o1_7_15)) && ((decide (c_1.Service.Auto=o1_8_16)) && (decide (c_1.Service.On=o1_9_17))))))))))))) then
    some 2
   else
   some e_8) fun k_18 =>
 bif decide (c_1.Kind=1) then
  call (disk_fileFault c_1.File) fun r_19 =>
  k_18 (r_19,c_1.File.Path,c_1.File.Data,c_1.File.Runs,[],[],[],[],false,false)
 else
 bif decide (c_1.Kind=2) then
  call (disk_fileFault (api_File.mk c_1.File.Path [] false)) fun r_20 =>
  k_18 (r_20,c_1.File.Path,[],false,[],[],[],[],false,false)
 else
 bif decide (c_1.Kind=3) then
  call (disk_settingFault_i2 c_1.Setting) fun r_21 =>
  k_18 (r_21,[],[],false,c_1.Setting.Key,c_1.Setting.Value,[],[],false,false)
 else
 bif decide (c_1.Kind=4) then
  call (disk_settingFault_i2 (api_Setting.mk c_1.Setting.Key [])) fun r_22 =>
  k_18 (r_22,[],[],false,c_1.Setting.Key,[],[],[],false,false)
 else
 bif decide (c_1.Kind=5) then
  call (disk_serviceFault c_1.Service) fun r_23 =>
  k_18 (r_23,[],[],false,[],[],c_1.Service.Name,c_1.Service.Path,c_1.Service.Auto,c_1.Service.On)
 else
 bif decide (c_1.Kind=6) then
  call (ver_IsName c_1.Service.Name) fun r_24 =>
  bif !r_24 then
   k_18 (5,[],[],false,[],[],c_1.Service.Name,[],false,false)
  else
  k_18 (0,[],[],false,[],[],c_1.Service.Name,[],false,false)
 else
 some 1
noncomputable def disk_bench_conflict_1_i1 (dir_1:Str) (o1_0_2:List api_Setting) (m2_3:List (Str × api_File)) (m3_4:List (Str × Int)) (m4_5:List (Str × api_Setting)) (m5_6:List (Str × api_Service)):Option Bool :=
 letv (alook m2_3 dir_1) fun q_9 =>
 some (!q_9.isSome)
noncomputable def disk_above_i3 (path_1:Str) (o1_0_2:List api_Setting) (m2_3:List (Str × api_File)) (m3_4:List (Str × Int)) (m4_5:List (Str × api_Setting)) (m5_6:List (Str × api_Service)):Option Bool :=
 jp (S:=Unit) (fun _ =>
  some true) fun k_41 =>
 forL path_1 0 (fun i_48 c_50 s nx_47 k_46 =>
  chk ((decide ((c_50.toNat:Int)=47))=true→(0≤(i_48:Int)∧(i_48:Int)≤(path_1.length:Int))) <|
  callG (decide ((c_50.toNat:Int)=47)) (disk_bench_conflict_1_i1 (List.take i_48 path_1) o1_0_2 m2_3 m3_4 m4_5 m5_6) false fun r_52 =>
  bif ((decide ((c_50.toNat:Int)=47)) && (!r_52)) then
   some false
  else
  nx_47 ()) () (fun _ =>
  k_41 ())
noncomputable def disk_bench_conflict_i1 (path_1:Str) (o0_0_2:List api_Setting) (m1_3:List (Str × api_File)) (m2_4:List (Str × Int)) (m3_5:List (Str × api_Setting)) (m4_6:List (Str × api_Service)):Option Bool :=
 call (disk_above_i3 path_1 o0_0_2 m1_3 m2_4 m3_5 m4_6) fun r_10 =>
 letv (alook m2_4 path_1) fun q_11 =>
 some ((!r_10) || (decide (0 < (q_11.getD 0))))
noncomputable def disk_missing_api_File_i1 (key_1:Str) (m0_2:List (Str × api_File)):Option Bool :=
 letv (alook m0_2 key_1) fun q_5 =>
 some (!q_5.isSome)
noncomputable def disk_missing_api_Setting_i1 (key_1:Str) (m0_2:List (Str × api_Setting)):Option Bool :=
 letv (alook m0_2 key_1) fun q_5 =>
 some (!q_5.isSome)
noncomputable def disk_missing_api_Service_i1 (key_1:Str) (m0_2:List (Str × api_Service)):Option Bool :=
 letv (alook m0_2 key_1) fun q_5 =>
 some (!q_5.isSome)
noncomputable def disk_bench_fault_i1 (c_1:api_Change) (o0_0_2:List api_Setting) (m1_3:List (Str × api_File)) (m2_4:List (Str × Int)) (m3_5:List (Str × api_Setting)) (m4_6:List (Str × api_Service)):Option Int :=
 jp (S:=Bool × Int × Int) (fun s=>match s with
  | (gone_38,many_39,most_40) =>
   bif gone_38 then
    some 10
   else
   bif decide (most_40 < many_39) then
    some 4
   else
   some 0) fun k_41 =>
 bif decide (c_1.Kind=1) then
  call (disk_bench_conflict_i1 c_1.File.Path o0_0_2 m1_3 m2_4 m3_5 m4_6) fun r_42 =>
  bif r_42 then
   some 11
  else
  call (disk_missing_api_File_i1 c_1.File.Path m1_3) fun r_43 =>
  bif r_43 then
   k_41 (false,IntKind.i64.wrap ((m1_3.length:Int)+1),2000)
  else
  k_41 (false,0,1)
 else
 bif decide (c_1.Kind=2) then
  call (disk_missing_api_File_i1 c_1.File.Path m1_3) fun r_44 =>
  k_41 (r_44,0,1)
 else
 bif decide (c_1.Kind=3) then
  call (disk_missing_api_Setting_i1 c_1.Setting.Key m3_5) fun r_45 =>
  bif r_45 then
   k_41 (false,IntKind.i64.wrap ((m3_5.length:Int)+1),2000)
  else
  k_41 (false,0,1)
 else
 bif decide (c_1.Kind=4) then
  call (disk_missing_api_Setting_i1 c_1.Setting.Key m3_5) fun r_46 =>
  k_41 (r_46,0,1)
 else
 bif decide (c_1.Kind=5) then
  call (disk_missing_api_Service_i1 c_1.Service.Name m4_6) fun r_47 =>
  bif r_47 then
   k_41 (false,IntKind.i64.wrap ((m4_6.length:Int)+1),100)
  else
  k_41 (false,0,1)
 else
 bif decide (c_1.Kind=6) then
  call (disk_missing_api_Service_i1 c_1.Service.Name m4_6) fun r_48 =>
  k_41 (r_48,0,1)
 else
 k_41 (false,0,1)
noncomputable def disk_Disk_lose_i1 (c_1:api_Change) (o0_1_2:Bool) (o0_2_3:Bool) (o0_3_4:Int) (o0_4_5:Bool) (o0_5_6:Int) (o1_0_7:List api_Setting) (m2_8:List (Str × api_File)) (m3_9:List (Str × Int)) (m4_10:List (Str × api_Setting)) (m5_11:List (Str × api_Service)):Option (Int × Bool × Bool × Int × (List (Str × api_File)) × (List (Str × Int))) :=
 call (disk_CheckChange c_1) fun r_19 =>
 bif !decide (r_19=0) then
  some (r_19,o0_1_2,o0_2_3,o0_5_6,m2_8,m3_9)
 else
 call (disk_bench_fault_i1 c_1 o1_0_7 m2_8 m3_9 m4_10 m5_11) fun r_20 =>
 bif !decide (r_20=0) then
  some (r_20,o0_1_2,o0_2_3,o0_5_6,m2_8,m3_9)
 else
 bif (o0_4_5 && (decide (c_1.Kind=1))) then
  chk (¬ 2=0) <|
  chk (0≤IntKind.i64.wrap (Int.tdiv (c_1.File.Data.length:Int) 2)∧IntKind.i64.wrap (Int.tdiv (c_1.File.Data.length:Int) 2)≤(c_1.File.Data.length:Int)) <|
  call (disk_bench_put_i1 (api_File.mk c_1.File.Path (List.take ((IntKind.i64.wrap (Int.tdiv (c_1.File.Data.length:Int) 2)).toNat) c_1.File.Data) c_1.File.Runs) o1_0_7 m2_8 m3_9 m4_10 m5_11) fun r_23 =>
  some (18,true,false,IntKind.i64.wrap (o0_5_6+1),r_23.1,r_23.2)
 else
 some (18,true,false,o0_5_6,m2_8,m3_9)
noncomputable def disk_bench_remove_i1 (path_1:Str) (o0_0_2:List api_Setting) (m1_3:List (Str × api_File)) (m2_4:List (Str × Int)) (m3_5:List (Str × api_Setting)) (m4_6:List (Str × api_Service)):Option ((List (Str × api_File)) × (List (Str × Int))) :=
 call (disk_bench_count_i1 path_1 (-1) o0_0_2 (adel m1_3 path_1) m2_4 m3_5 m4_6) fun r_10 =>
 some (adel m1_3 path_1,r_10)
noncomputable def disk_bench_do_i1 (c_1:api_Change) (o0_0_2:List api_Setting) (m1_3:List (Str × api_File)) (m2_4:List (Str × Int)) (m3_5:List (Str × api_Setting)) (m4_6:List (Str × api_Service)):Option (Int × (List (Str × api_File)) × (List (Str × Int)) × (List (Str × api_Setting)) × (List (Str × api_Service))) :=
 call (disk_CheckChange c_1) fun r_17 =>
 bif !decide (r_17=0) then
  some (r_17,m1_3,m2_4,m3_5,m4_6)
 else
 call (disk_bench_fault_i1 c_1 o0_0_2 m1_3 m2_4 m3_5 m4_6) fun r_18 =>
 bif !decide (r_18=0) then
  some (r_18,m1_3,m2_4,m3_5,m4_6)
 else
 bif decide (c_1.Kind=1) then
  call (disk_bench_put_i1 c_1.File o0_0_2 m1_3 m2_4 m3_5 m4_6) fun r_19 =>
  some (0,r_19.1,r_19.2,m3_5,m4_6)
 else
 bif decide (c_1.Kind=2) then
  call (disk_bench_remove_i1 c_1.File.Path o0_0_2 m1_3 m2_4 m3_5 m4_6) fun r_20 =>
  some (0,r_20.1,r_20.2,m3_5,m4_6)
 else
 bif decide (c_1.Kind=3) then
  chk ((aset m3_5 c_1.Setting.Key c_1.Setting).length≤274877906944) <|
  some (0,m1_3,m2_4,aset m3_5 c_1.Setting.Key c_1.Setting,m4_6)
 else
 bif decide (c_1.Kind=4) then
  some (0,m1_3,m2_4,adel m3_5 c_1.Setting.Key,m4_6)
 else
 bif decide (c_1.Kind=5) then
  chk ((aset m4_6 c_1.Service.Name c_1.Service).length≤274877906944) <|
  some (0,m1_3,m2_4,m3_5,aset m4_6 c_1.Service.Name c_1.Service)
 else
 bif decide (c_1.Kind=6) then
  some (0,m1_3,m2_4,m3_5,adel m4_6 c_1.Service.Name)
 else
 some (0,m1_3,m2_4,m3_5,m4_6)
noncomputable def disk_Disk_Do_i1 (c_1:api_Change) (o0_1_2:Bool) (o0_2_3:Bool) (o0_3_4:Int) (o0_4_5:Bool) (o0_5_6:Int) (o1_0_7:List api_Setting) (m2_8:List (Str × api_File)) (m3_9:List (Str × Int)) (m4_10:List (Str × api_Setting)) (m5_11:List (Str × api_Service)):Option (Int × Bool × Bool × Int × Int × (List (Str × api_File)) × (List (Str × Int)) × (List (Str × api_Setting)) × (List (Str × api_Service))) :=
 bif o0_1_2 then
  some (12,o0_1_2,o0_2_3,o0_5_6,o0_3_4,m2_8,m3_9,m4_10,m5_11)
 else
 bif (o0_2_3 && (decide (o0_3_4=0))) then
  call (disk_Disk_lose_i1 c_1 o0_1_2 o0_2_3 o0_3_4 o0_4_5 o0_5_6 o1_0_7 m2_8 m3_9 m4_10 m5_11) fun r_15 =>
  some (r_15.1,r_15.2.1,r_15.2.2.1,r_15.2.2.2.1,o0_3_4,r_15.2.2.2.2.1,r_15.2.2.2.2.2,m4_10,m5_11)
 else
 call (disk_bench_do_i1 c_1 o1_0_7 m2_8 m3_9 m4_10 m5_11) fun r_16 =>
 bif !decide (r_16.1=0) then
  some (r_16.1,o0_1_2,o0_2_3,o0_5_6,o0_3_4,r_16.2.1,r_16.2.2.1,r_16.2.2.2.1,r_16.2.2.2.2)
 else
 bif o0_2_3 then
  some (0,o0_1_2,o0_2_3,IntKind.i64.wrap (o0_5_6+1),IntKind.i64.wrap (o0_3_4 - 1),r_16.2.1,r_16.2.2.1,r_16.2.2.2.1,r_16.2.2.2.2)
 else
 some (0,o0_1_2,o0_2_3,IntKind.i64.wrap (o0_5_6+1),o0_3_4,r_16.2.1,r_16.2.2.1,r_16.2.2.2.1,r_16.2.2.2.2)
noncomputable def R_Disk_Do_i1 (c_1:api_Change) (o0_1_2:Bool) (o0_2_3:Int) (o0_3_4:Bool) (o0_4_5:Bool) (o0_5_6:Int) (o1_0_7:List api_Setting) (m2_8:List (Str × api_File)) (m3_9:List (Str × Str)) (m4_10:List (Str × api_Service)):Option (Int × Bool × Bool × Int × Int × List api_Setting × (List (Str × api_File)) × (List (Str × Str)) × (List (Str × api_Service))) :=
 bif o0_1_2 then
  some (12,o0_1_2,o0_4_5,o0_5_6,o0_2_3,o1_0_7,m2_8,m3_9,m4_10)
 else
 call (R_world_machine_i1 o1_0_7 m2_8 m3_9 m4_10) fun r_19 =>
 call (R_world_do_i1 c_1 o1_0_7 m2_8 m3_9 m4_10) fun r_20 =>
 bif !decide (r_20.1=0) then
  some (r_20.1,o0_1_2,o0_4_5,o0_5_6,o0_2_3,o1_0_7,r_20.2.1,r_20.2.2.1,r_20.2.2.2)
 else
 bif (o0_4_5 && (decide (o0_2_3=0))) then
  call (R_worldOf r_19) fun r_21 =>
  bif (o0_3_4 && (decide (c_1.Kind=1))) then
   chk (¬ 2=0) <|
   chk (0≤IntKind.i64.wrap (Int.tdiv (c_1.File.Data.length:Int) 2)∧IntKind.i64.wrap (Int.tdiv (c_1.File.Data.length:Int) 2)≤(c_1.File.Data.length:Int)) <|
   chk ((aset r_21.1 c_1.File.Path (api_File.mk c_1.File.Path (List.take ((IntKind.i64.wrap (Int.tdiv (c_1.File.Data.length:Int) 2)).toNat) c_1.File.Data) c_1.File.Runs)).length≤274877906944) <|
   some (18,true,false,IntKind.i64.wrap (o0_5_6+1),o0_2_3,r_21.2.2.2,aset r_21.1 c_1.File.Path (api_File.mk c_1.File.Path (List.take ((IntKind.i64.wrap (Int.tdiv (c_1.File.Data.length:Int) 2)).toNat) c_1.File.Data) c_1.File.Runs),r_21.2.1,r_21.2.2.1)
  else
  some (18,true,false,o0_5_6,o0_2_3,r_21.2.2.2,r_21.1,r_21.2.1,r_21.2.2.1)
 else
 some (0,o0_1_2,o0_4_5,IntKind.i64.wrap (o0_5_6+1),IntKind.i64.wrap (o0_2_3 - 1),o1_0_7,r_20.2.1,r_20.2.2.1,r_20.2.2.2)
noncomputable def disk_Disk_Cut_i1 (after_1:Int) (torn_2:Bool) (o0_1_3:Bool) (o0_2_4:Bool) (o0_3_5:Int) (o0_4_6:Bool) (o0_5_7:Int) (o1_0_8:List api_Setting) (m2_9:List (Str × api_File)) (m3_10:List (Str × Int)) (m4_11:List (Str × api_Setting)) (m5_12:List (Str × api_Service)):Option (Int × Bool × Int × Bool) :=
 bif ((decide (after_1 < 0)) || (decide (1000000 < after_1))) then
  some (3,o0_2_4,o0_3_5,o0_4_6)
 else
 bif o0_1_3 then
  some (12,o0_2_4,o0_3_5,o0_4_6)
 else
 some (0,true,after_1,torn_2)
noncomputable def R_Disk_Cut_i1 (after_1:Int) (torn_2:Bool) (o0_1_3:Bool) (o0_2_4:Int) (o0_3_5:Bool) (o0_4_6:Bool) (o0_5_7:Int) (o1_0_8:List api_Setting) (m2_9:List (Str × api_File)) (m3_10:List (Str × Str)) (m4_11:List (Str × api_Service)):Option (Int × Int × Bool × Bool) :=
 bif ((decide (after_1 < 0)) || (decide (1000000 < after_1))) then
  some (3,o0_2_4,o0_3_5,o0_4_6)
 else
 bif o0_1_3 then
  some (12,o0_2_4,o0_3_5,o0_4_6)
 else
 some (0,after_1,torn_2,true)
noncomputable def maps_Keys_map_string_api_File_string_api_File_i1 (m0_1:List (Str × api_File)):Option Unit :=
 some ()
noncomputable def slices_Sorted_keys_255 (m1:List (Str × api_File)):Option (List Str):=some (sortS (m1.map (·.1)))
noncomputable def disk_inOrder_api_File_i1 (m0_1:List (Str × api_File)):Option (List api_File) :=
 jp (S:=List api_File) (fun o2_67 =>
  some o2_67) fun k_68 =>
 call (maps_Keys_map_string_api_File_string_api_File_i1 m0_1) fun r_69 =>
 call (slices_Sorted_keys_255 m0_1) fun r_70 =>
 forL r_70 0 (fun i_84 s_86 o2_77 nx_83 k_82 =>
  letv (alook m0_1 s_86) fun q_87 =>
  chk ((o2_77++[(q_87.getD (api_File.mk [] [] false))]).length≤274877906944) <|
  nx_83 (o2_77++[(q_87.getD (api_File.mk [] [] false))])) [] (fun o2_77 =>
  k_68 o2_77)
noncomputable def maps_Keys_map_string_api_Setting_string_api_Setting_i1 (m0_1:List (Str × api_Setting)):Option Unit :=
 some ()
noncomputable def slices_Sorted_keys_256 (m1:List (Str × api_Setting)):Option (List Str):=some (sortS (m1.map (·.1)))
noncomputable def disk_inOrder_api_Setting_i1 (m0_1:List (Str × api_Setting)):Option (List api_Setting) :=
 jp (S:=List api_Setting) (fun o2_67 =>
  some o2_67) fun k_68 =>
 call (maps_Keys_map_string_api_Setting_string_api_Setting_i1 m0_1) fun r_69 =>
 call (slices_Sorted_keys_256 m0_1) fun r_70 =>
 forL r_70 0 (fun i_84 s_86 o2_77 nx_83 k_82 =>
  letv (alook m0_1 s_86) fun q_87 =>
  chk ((o2_77++[(q_87.getD (api_Setting.mk [] []))]).length≤274877906944) <|
  nx_83 (o2_77++[(q_87.getD (api_Setting.mk [] []))])) [] (fun o2_77 =>
  k_68 o2_77)
noncomputable def maps_Keys_map_string_api_Service_string_api_Service_i1 (m0_1:List (Str × api_Service)):Option Unit :=
 some ()
noncomputable def slices_Sorted_keys_257 (m1:List (Str × api_Service)):Option (List Str):=some (sortS (m1.map (·.1)))
noncomputable def disk_inOrder_api_Service_i1 (m0_1:List (Str × api_Service)):Option (List api_Service) :=
 jp (S:=List api_Service) (fun o2_67 =>
  some o2_67) fun k_68 =>
 call (maps_Keys_map_string_api_Service_string_api_Service_i1 m0_1) fun r_69 =>
 call (slices_Sorted_keys_257 m0_1) fun r_70 =>
 forL r_70 0 (fun i_84 s_86 o2_77 nx_83 k_82 =>
  letv (alook m0_1 s_86) fun q_87 =>
  chk ((o2_77++[(q_87.getD (api_Service.mk [] [] false false))]).length≤274877906944) <|
  nx_83 (o2_77++[(q_87.getD (api_Service.mk [] [] false false))])) [] (fun o2_77 =>
  k_68 o2_77)
noncomputable def disk_bench_machine_i1 (o0_0_1:List api_Setting) (m1_2:List (Str × api_File)) (m2_3:List (Str × Int)) (m3_4:List (Str × api_Setting)) (m4_5:List (Str × api_Service)):Option api_Machine :=
 call (slices_Clone_api_Setting_api_Setting o0_0_1) fun r_20 =>
 call (disk_inOrder_api_File_i1 m1_2) fun r_21 =>
 call (disk_inOrder_api_Setting_i1 m3_4) fun r_22 =>
 call (disk_inOrder_api_Service_i1 m4_5) fun r_23 =>
 some (api_Machine.mk r_20 r_21 r_22 r_23)
noncomputable def slices_Clone_api_Setting_api_Setting_new_i2 (s_1:List api_Setting):Option (List api_Setting) :=
 anyOf (fun b_5:Bool=>b_5=true→s_1=[]) fun b_5 =>
 bif b_5 then
  some []
 else
 chk (([]++s_1).length≤274877906944) <|
 some ([]++s_1)
noncomputable def slices_Clone_api_File_api_File_new (s_1:List api_File):Option (List api_File) :=
 anyOf (fun b_5:Bool=>b_5=true→s_1=[]) fun b_5 =>
 bif b_5 then
  some []
 else
 chk (([]++s_1).length≤274877906944) <|
 some ([]++s_1)
noncomputable def slices_Clone_api_Service_api_Service_new (s_1:List api_Service):Option (List api_Service) :=
 anyOf (fun b_5:Bool=>b_5=true→s_1=[]) fun b_5 =>
 bif b_5 then
  some []
 else
 chk (([]++s_1).length≤274877906944) <|
 some ([]++s_1)
noncomputable def disk_Clone_new (m_1:api_Machine):Option (List api_Setting × List api_File × List api_Setting × List api_Service × List api_Setting × List api_File × List api_Setting × List api_Service) :=
 call (slices_Clone_api_Setting_api_Setting_new_i2 m_1.Facts) fun r_16 =>
 call (slices_Clone_api_File_api_File_new m_1.Files) fun r_17 =>
 call (slices_Clone_api_Setting_api_Setting_new_i2 m_1.Settings) fun r_18 =>
 call (slices_Clone_api_Service_api_Service_new m_1.Services) fun r_19 =>
 some (m_1.Facts,m_1.Files,m_1.Settings,m_1.Services,r_16,r_17,r_18,r_19)
noncomputable def disk_boot (m_1:api_Machine):Option api_Machine :=
 call (disk_Clone_new m_1) fun r_2 =>
 jp (S:=List api_Service) (fun o7_17 =>
  some (api_Machine.mk r_2.2.2.2.2.1 r_2.2.2.2.2.2.1 r_2.2.2.2.2.2.2.1 o7_17)) fun k_18 =>
 loopN Fuel (fun s nx_29 k_28 =>
  match s with
  | (t9_23,o7_24) =>
   bif decide (t9_23 < (r_2.2.2.2.2.2.2.2.length:Int)) then
    chk (0≤t9_23∧t9_23 < (o7_24.length:Int)) <|
    chk (0≤t9_23∧t9_23 < (o7_24.length:Int)) <|
    nx_29 (IntKind.i64.wrap (t9_23+1),List.set o7_24 t9_23.toNat (api_Service.mk ((o7_24.getD t9_23.toNat (api_Service.mk [] [] false false)).Name) ((o7_24.getD t9_23.toNat (api_Service.mk [] [] false false)).Path) ((o7_24.getD t9_23.toNat (api_Service.mk [] [] false false)).Auto) ((o7_24.getD t9_23.toNat (api_Service.mk [] [] false false)).Auto)))
   else
   k_28 (t9_23,o7_24)) (0,r_2.2.2.2.2.2.2.2) (fun s=>match s with
  | (t9_23,o7_24) =>
   k_18 o7_24)
noncomputable def disk_Disk_On_i1 (o0_1_1:Bool) (o0_2_2:Bool) (o0_3_3:Int) (o0_4_4:Bool) (o0_5_5:Int) (o1_0_6:List api_Setting) (m2_7:List (Str × api_File)) (m3_8:List (Str × Int)) (m4_9:List (Str × api_Setting)) (m5_10:List (Str × api_Service)):Option (Int × Bool × Bool × List api_Setting × (List (Str × api_File)) × (List (Str × Int)) × (List (Str × api_Setting)) × (List (Str × api_Service))) :=
 bif !o0_1_1 then
  some (12,o0_1_1,o0_2_2,o1_0_6,m2_7,m3_8,m4_9,m5_10)
 else
 call (disk_bench_machine_i1 o1_0_6 m2_7 m3_8 m4_9 m5_10) fun r_14 =>
 call (disk_boot r_14) fun r_15 =>
 call (disk_benchOf r_15) fun r_16 =>
 some (0,false,false,r_16.2.2.2.2,r_16.1,r_16.2.1,r_16.2.2.1,r_16.2.2.2.1)
noncomputable def R_Boot (m_1:api_Machine):Option api_Machine :=
 call (slices_Clone_api_Service_api_Service_new m_1.Services) fun r_2 =>
 jp (S:=List api_Service) (fun o2_17 =>
  some (api_Machine.mk m_1.Facts m_1.Files m_1.Settings o2_17)) fun k_18 =>
 loopN Fuel (fun s nx_29 k_28 =>
  match s with
  | (t11_23,o2_24) =>
   bif decide (t11_23 < (r_2.length:Int)) then
    chk (0≤t11_23∧t11_23 < (o2_24.length:Int)) <|
    chk (0≤t11_23∧t11_23 < (o2_24.length:Int)) <|
    nx_29 (IntKind.i64.wrap (t11_23+1),List.set o2_24 t11_23.toNat (api_Service.mk ((o2_24.getD t11_23.toNat (api_Service.mk [] [] false false)).Name) ((o2_24.getD t11_23.toNat (api_Service.mk [] [] false false)).Path) ((o2_24.getD t11_23.toNat (api_Service.mk [] [] false false)).Auto) ((o2_24.getD t11_23.toNat (api_Service.mk [] [] false false)).Auto)))
   else
   k_28 (t11_23,o2_24)) (0,r_2) (fun s=>match s with
  | (t11_23,o2_24) =>
   k_18 o2_24)
noncomputable def R_Disk_On_i1 (o0_1_1:Bool) (o0_2_2:Int) (o0_3_3:Bool) (o0_4_4:Bool) (o0_5_5:Int) (o1_0_6:List api_Setting) (m2_7:List (Str × api_File)) (m3_8:List (Str × Str)) (m4_9:List (Str × api_Service)):Option (Int × Bool × List api_Setting × (List (Str × api_File)) × (List (Str × Str)) × (List (Str × api_Service))) :=
 bif !o0_1_1 then
  some (12,o0_1_1,o1_0_6,m2_7,m3_8,m4_9)
 else
 call (R_world_machine_i1 o1_0_6 m2_7 m3_8 m4_9) fun r_13 =>
 call (R_Boot r_13) fun r_14 =>
 call (R_worldOf r_14) fun r_15 =>
 some (0,false,r_15.2.2.2,r_15.1,r_15.2.1,r_15.2.2.1)
noncomputable def disk_Disk_Machine_i1 (o0_1_1:Bool) (o0_2_2:Bool) (o0_3_3:Int) (o0_4_4:Bool) (o0_5_5:Int) (o1_0_6:List api_Setting) (m2_7:List (Str × api_File)) (m3_8:List (Str × Int)) (m4_9:List (Str × api_Setting)) (m5_10:List (Str × api_Service)):Option (api_Machine × Int) :=
 bif o0_1_1 then
  some ((api_Machine.mk [] [] [] []),12)
 else
 call (disk_bench_machine_i1 o1_0_6 m2_7 m3_8 m4_9 m5_10) fun r_12 =>
 some (r_12,0)
noncomputable def R_Disk_Machine_i1 (o0_1_1:Bool) (o0_2_2:Int) (o0_3_3:Bool) (o0_4_4:Bool) (o0_5_5:Int) (o1_0_6:List api_Setting) (m2_7:List (Str × api_File)) (m3_8:List (Str × Str)) (m4_9:List (Str × api_Service)):Option (api_Machine × Int) :=
 bif o0_1_1 then
  some ((api_Machine.mk [] [] [] []),12)
 else
 call (R_world_machine_i1 o1_0_6 m2_7 m3_8 m4_9) fun r_11 =>
 some (r_11,0)
noncomputable def slices_Equal_api_Setting_api_Setting (s1_1:List api_Setting) (s2_2:List api_Setting):Option Bool :=
 bif !decide ((s1_1.length:Int)=(s2_2.length:Int)) then
  some false
 else
 jp (S:=Unit) (fun _ =>
  some true) fun k_12 =>
 forL s1_1 0 (fun i_18 s_20 s nx_17 k_16 =>
  idx s2_2 (i_18:Int) fun s_21 =>
  bif !((decide (s_20.Key=s_21.Key)) && (decide (s_20.Value=s_21.Value))) then
   some false
  else
  nx_17 ()) () (fun _ =>
  k_12 ())
noncomputable def slices_Equal_api_File_api_File (s1_1:List api_File) (s2_2:List api_File):Option Bool :=
 bif !decide ((s1_1.length:Int)=(s2_2.length:Int)) then
  some false
 else
 jp (S:=Unit) (fun _ =>
  some true) fun k_12 =>
 forL s1_1 0 (fun i_18 f_20 s nx_17 k_16 =>
  idx s2_2 (i_18:Int) fun f_21 =>
  bif !((decide (f_20.Path=f_21.Path)) && ((decide (f_20.Data=f_21.Data)) && (decide (f_20.Runs=f_21.Runs)))) then
   some false
  else
  nx_17 ()) () (fun _ =>
  k_12 ())
noncomputable def slices_Equal_api_Service_api_Service (s1_1:List api_Service) (s2_2:List api_Service):Option Bool :=
 bif !decide ((s1_1.length:Int)=(s2_2.length:Int)) then
  some false
 else
 jp (S:=Unit) (fun _ =>
  some true) fun k_12 =>
 forL s1_1 0 (fun i_18 s_20 s nx_17 k_16 =>
  idx s2_2 (i_18:Int) fun s_21 =>
  bif !((decide (s_20.Name=s_21.Name)) && ((decide (s_20.Path=s_21.Path)) && ((decide (s_20.Auto=s_21.Auto)) && (decide (s_20.On=s_21.On))))) then
   some false
  else
  nx_17 ()) () (fun _ =>
  k_12 ())
noncomputable def R_Same (a_1:api_Machine) (b_2:api_Machine):Option Bool :=
 call (slices_Equal_api_Setting_api_Setting a_1.Facts b_2.Facts) fun r_3 =>
 callG r_3 (slices_Equal_api_File_api_File a_1.Files b_2.Files) false fun r_4 =>
 callG (r_3 && r_4) (slices_Equal_api_Setting_api_Setting a_1.Settings b_2.Settings) false fun r_5 =>
 callG ((r_3 && r_4) && r_5) (slices_Equal_api_Service_api_Service a_1.Services b_2.Services) false fun r_6 =>
 some (((r_3 && r_4) && r_5) && r_6)
noncomputable def disk_Disk_Peek_i1 (o0_1_1:Bool) (o0_2_2:Bool) (o0_3_3:Int) (o0_4_4:Bool) (o0_5_5:Int) (o1_0_6:List api_Setting) (m2_7:List (Str × api_File)) (m3_8:List (Str × Int)) (m4_9:List (Str × api_Setting)) (m5_10:List (Str × api_Service)):Option api_Machine :=
 call (disk_bench_machine_i1 o1_0_6 m2_7 m3_8 m4_9 m5_10) fun r_12 =>
 some r_12
noncomputable def R_Disk_Peek_i1 (o0_1_1:Bool) (o0_2_2:Int) (o0_3_3:Bool) (o0_4_4:Bool) (o0_5_5:Int) (o1_0_6:List api_Setting) (m2_7:List (Str × api_File)) (m3_8:List (Str × Str)) (m4_9:List (Str × api_Service)):Option api_Machine :=
 call (R_world_machine_i1 o1_0_6 m2_7 m3_8 m4_9) fun r_11 =>
 some r_11
noncomputable def disk_Disk_Writes_i1 (o0_1_1:Bool) (o0_2_2:Bool) (o0_3_3:Int) (o0_4_4:Bool) (o0_5_5:Int) (o1_0_6:List api_Setting) (m2_7:List (Str × api_File)) (m3_8:List (Str × Int)) (m4_9:List (Str × api_Setting)) (m5_10:List (Str × api_Service)):Option Int :=
 some o0_5_5
noncomputable def R_Disk_Writes_i1 (o0_1_1:Bool) (o0_2_2:Int) (o0_3_3:Bool) (o0_4_4:Bool) (o0_5_5:Int) (o1_0_6:List api_Setting) (m2_7:List (Str × api_File)) (m3_8:List (Str × Str)) (m4_9:List (Str × api_Service)):Option Int :=
 some o0_5_5
noncomputable def Law_DisksMatch (m_1:api_Machine) (l_2:List outlaw1_Act):Option Bool :=
 call (Law_landed) fun r_3 =>
 bif !r_3 then
  some false
 else
 jp (S:=Unit) (fun _ =>
  call (Law_fit m_1) fun r_7 =>
  call (disk_NewDisk_i2 r_7) fun r_8 =>
  bif !decide (r_8.1=0) then
   some false
  else
  call (R_NewDisk r_7) fun r_9 =>
  jp (S:=Unit) (fun _ =>
   some true) fun k_714 =>
  chk (0≤min (l_2.length:Int) 30∧min (l_2.length:Int) 30≤(l_2.length:Int)) <|
  forL (List.take ((min (l_2.length:Int) 30).toNat) l_2) 0 (fun i_1367 a_1369 s nx_1366 k_1365 =>
   match s with
   | (m3_1302,m4_1303,m5_1304,m6_1305,o7_0_1306,o8_1_1307,o8_2_1308,o8_3_1309,o8_4_1310,o8_5_1311,m11_1312,m12_1313,m13_1314,o14_0_1315,o15_1_1316,o15_2_1317,o15_3_1318,o15_4_1319,o15_5_1320) =>
    jp (S:=Bool × (List (Str × api_File)) × (List (Str × Int)) × (List (Str × api_Setting)) × (List (Str × api_Service)) × List api_Setting × Bool × Bool × Int × Bool × Int × (List (Str × api_File)) × (List (Str × Str)) × (List (Str × api_Service)) × List api_Setting × Bool × Int × Bool × Bool × Int) (fun s=>match s with
     | (ok_1376,m3_1377,m4_1378,m5_1379,m6_1380,o7_0_1381,o8_1_1382,o8_2_1383,o8_3_1384,o8_4_1385,o8_5_1386,m11_1387,m12_1388,m13_1389,o14_0_1390,o15_1_1391,o15_2_1392,o15_3_1393,o15_4_1394,o15_5_1395) =>
      call (disk_Disk_Machine_i1 o8_1_1382 o8_2_1383 o8_3_1384 o8_4_1385 o8_5_1386 o7_0_1381 m3_1377 m4_1378 m5_1379 m6_1380) fun r_1397 =>
      call (R_Disk_Machine_i1 o15_1_1391 o15_2_1392 o15_3_1393 o15_4_1394 o15_5_1395 o14_0_1390 m11_1387 m12_1388 m13_1389) fun r_1398 =>
      callG (!((!ok_1376) || (!decide (r_1397.2=r_1398.2)))) (R_Same r_1397.1 r_1398.1) false fun r_1399 =>
      callG (!(((!ok_1376) || (!decide (r_1397.2=r_1398.2))) || (!r_1399))) (disk_Disk_Peek_i1 o8_1_1382 o8_2_1383 o8_3_1384 o8_4_1385 o8_5_1386 o7_0_1381 m3_1377 m4_1378 m5_1379 m6_1380) (api_Machine.mk [] [] [] []) fun r_1400 =>
      callG (!(((!ok_1376) || (!decide (r_1397.2=r_1398.2))) || (!r_1399))) (R_Disk_Peek_i1 o15_1_1391 o15_2_1392 o15_3_1393 o15_4_1394 o15_5_1395 o14_0_1390 m11_1387 m12_1388 m13_1389) (api_Machine.mk [] [] [] []) fun r_1401 =>
      callG (!(((!ok_1376) || (!decide (r_1397.2=r_1398.2))) || (!r_1399))) (R_Same r_1400 r_1401) false fun r_1402 =>
      callG (!((((!ok_1376) || (!decide (r_1397.2=r_1398.2))) || (!r_1399)) || (!r_1402))) (disk_Disk_Writes_i1 o8_1_1382 o8_2_1383 o8_3_1384 o8_4_1385 o8_5_1386 o7_0_1381 m3_1377 m4_1378 m5_1379 m6_1380) 0 fun r_1403 =>
      callG (!((((!ok_1376) || (!decide (r_1397.2=r_1398.2))) || (!r_1399)) || (!r_1402))) (R_Disk_Writes_i1 o15_1_1391 o15_2_1392 o15_3_1393 o15_4_1394 o15_5_1395 o14_0_1390 m11_1387 m12_1388 m13_1389) 0 fun r_1404 =>
      letv ((((((!ok_1376) || (!decide (r_1397.2=r_1398.2))) || (!r_1399)) || (!r_1402)) || (!decide (r_1403=r_1404)))) fun v_1405 =>
      bif v_1405 then
       some false
      else
      nx_1366 (m3_1377,m4_1378,m5_1379,m6_1380,o7_0_1381,o8_1_1382,o8_2_1383,o8_3_1384,o8_4_1385,o8_5_1386,m11_1387,m12_1388,m13_1389,o14_0_1390,o15_1_1391,o15_2_1392,o15_3_1393,o15_4_1394,o15_5_1395)) fun k_1396 =>
    bif decide (a_1369.Kind=0) then
     call (disk_Disk_Do_i1 a_1369.Change o8_1_1307 o8_2_1308 o8_3_1309 o8_4_1310 o8_5_1311 o7_0_1306 m3_1302 m4_1303 m5_1304 m6_1305) fun r_1407 =>
     call (R_Disk_Do_i1 a_1369.Change o15_1_1316 o15_2_1317 o15_3_1318 o15_4_1319 o15_5_1320 o14_0_1315 m11_1312 m12_1313 m13_1314) fun r_1408 =>
     k_1396 (decide (r_1407.1=r_1408.1),r_1407.2.2.2.2.2.1,r_1407.2.2.2.2.2.2.1,r_1407.2.2.2.2.2.2.2.1,r_1407.2.2.2.2.2.2.2.2,o7_0_1306,r_1407.2.1,r_1407.2.2.1,r_1407.2.2.2.2.1,o8_4_1310,r_1407.2.2.2.1,r_1408.2.2.2.2.2.2.1,r_1408.2.2.2.2.2.2.2.1,r_1408.2.2.2.2.2.2.2.2,r_1408.2.2.2.2.2.1,r_1408.2.1,r_1408.2.2.2.2.1,o15_3_1318,r_1408.2.2.1,r_1408.2.2.2.1)
    else
    bif decide (a_1369.Kind=1) then
     call (disk_Disk_Cut_i1 a_1369.After a_1369.Torn o8_1_1307 o8_2_1308 o8_3_1309 o8_4_1310 o8_5_1311 o7_0_1306 m3_1302 m4_1303 m5_1304 m6_1305) fun r_1409 =>
     call (R_Disk_Cut_i1 a_1369.After a_1369.Torn o15_1_1316 o15_2_1317 o15_3_1318 o15_4_1319 o15_5_1320 o14_0_1315 m11_1312 m12_1313 m13_1314) fun r_1410 =>
     k_1396 (decide (r_1409.1=r_1410.1),m3_1302,m4_1303,m5_1304,m6_1305,o7_0_1306,o8_1_1307,r_1409.2.1,r_1409.2.2.1,r_1409.2.2.2,o8_5_1311,m11_1312,m12_1313,m13_1314,o14_0_1315,o15_1_1316,r_1410.2.1,r_1410.2.2.1,r_1410.2.2.2,o15_5_1320)
    else
    bif decide (a_1369.Kind=2) then
     call (disk_Disk_On_i1 o8_1_1307 o8_2_1308 o8_3_1309 o8_4_1310 o8_5_1311 o7_0_1306 m3_1302 m4_1303 m5_1304 m6_1305) fun r_1411 =>
     call (R_Disk_On_i1 o15_1_1316 o15_2_1317 o15_3_1318 o15_4_1319 o15_5_1320 o14_0_1315 m11_1312 m12_1313 m13_1314) fun r_1412 =>
     k_1396 (decide (r_1411.1=r_1412.1),r_1411.2.2.2.2.1,r_1411.2.2.2.2.2.1,r_1411.2.2.2.2.2.2.1,r_1411.2.2.2.2.2.2.2,r_1411.2.2.2.1,r_1411.2.1,r_1411.2.2.1,o8_3_1309,o8_4_1310,o8_5_1311,r_1412.2.2.2.1,r_1412.2.2.2.2.1,r_1412.2.2.2.2.2,r_1412.2.2.1,r_1412.2.1,o15_2_1317,o15_3_1318,o15_4_1319,o15_5_1320)
    else
    k_1396 (true,m3_1302,m4_1303,m5_1304,m6_1305,o7_0_1306,o8_1_1307,o8_2_1308,o8_3_1309,o8_4_1310,o8_5_1311,m11_1312,m12_1313,m13_1314,o14_0_1315,o15_1_1316,o15_2_1317,o15_3_1318,o15_4_1319,o15_5_1320)) (r_8.2.2.2.2.2.1,r_8.2.2.2.2.2.2.1,r_8.2.2.2.2.2.2.2.1,r_8.2.2.2.2.2.2.2.2.1,r_8.2.2.2.2.2.2.2.2.2.1,r_8.2.2.2.2.2.2.2.2.2.2.1,r_8.2.2.2.2.2.2.2.2.2.2.2.1,r_8.2.2.2.2.2.2.2.2.2.2.2.2.1,r_8.2.2.2.2.2.2.2.2.2.2.2.2.2.1,r_8.2.2.2.2.2.2.2.2.2.2.2.2.2.2,r_9.2.2.2.2.1,r_9.2.2.2.2.2.1,r_9.2.2.2.2.2.2.1,r_9.2.2.2.2.2.2.2.1,r_9.2.2.2.2.2.2.2.2.1,r_9.2.2.2.2.2.2.2.2.2.1,r_9.2.2.2.2.2.2.2.2.2.2.1,r_9.2.2.2.2.2.2.2.2.2.2.2.1,r_9.2.2.2.2.2.2.2.2.2.2.2.2) (fun s=>match s with
   | (m3_1302,m4_1303,m5_1304,m6_1305,o7_0_1306,o8_1_1307,o8_2_1308,o8_3_1309,o8_4_1310,o8_5_1311,m11_1312,m12_1313,m13_1314,o14_0_1315,o15_1_1316,o15_2_1317,o15_3_1318,o15_4_1319,o15_5_1320) =>
    k_714 ())) fun k_6 =>
 call (R_Check m_1) fun r_1413 =>
 bif !decide (r_1413=0) then
  call (disk_NewDisk_nil m_1) fun r_1414 =>
  bif ((!decide (r_1414=r_1413)) || false) then
   some false
  else
  k_6 ()
 else
 k_6 ()
end Go.Md
