/- Models of the functions that the statement reaches: what each computes, in plain words. -/
import Derived.Test.YtbofknpajcdnmaaGreatDoorVc3
set_option linter.unusedVariables false
namespace Go.Md
open Go.Vc
def tabL_3:List Int:=[1,10,100,1000,10000,100000,1000000,10000000,100000000,1000000000,10000000000,100000000000,1000000000000,10000000000000,100000000000000,1000000000000000,10000000000000000,100000000000000000,1000000000000000000,10000000000000000000]
theorem tabL_3_len:tabL_3.length=20:=rfl
def tabL_7:List Int:=[0,1,56,2,57,49,28,3,61,58,42,50,38,29,17,4,62,47,59,36,45,43,51,22,53,39,33,30,24,18,12,5,63,55,48,27,60,41,37,16,46,35,44,21,52,32,23,11,54,26,40,15,34,20,31,10,25,14,19,9,13,8,7,6]
theorem tabL_7_len:tabL_7.length=64:=rfl
instance theTabs:Tabs:=⟨fun b=>bif Nat.beq b 3 then some (.u64,tabL_3)else bif Nat.beq b 7 then some (.u8,tabL_7)else none,fun b=>bif Nat.beq b 1 then true else bif Nat.beq b 2 then true else false⟩
theorem ifc_1:Tabs.ifc 1=true:=rfl
theorem ifc_2:Tabs.ifc 2=true:=rfl
theorem tab_3:Tabs.tab 3=some (.u64,tabL_3):=rfl
attribute [go_sem] tab_3 tabL_3_len
theorem tab_7:Tabs.tab 7=some (.u8,tabL_7):=rfl
attribute [go_sem] tab_7 tabL_7_len
def ecB(b:Bool):List Dt:=[.b b]
def ecS(x:Str):List Dt:=[.s x]
def ecI_i8(n:Int):List Dt:=[.i .i8 n]
def ecI_i16(n:Int):List Dt:=[.i .i16 n]
def ecI_i32(n:Int):List Dt:=[.i .i32 n]
def zcg(n:Int):List Dt:=[.i .i64 n]
def zar(n:Int):List Dt:=[.i .u8 n]
def ecI_u16(n:Int):List Dt:=[.i .u16 n]
def ecI_u32(n:Int):List Dt:=[.i .u32 n]
def ecI_u64(n:Int):List Dt:=[.i .u64 n]
theorem dec1_s:∀r,zdY r [.s]→∃x,r=ecS x:=by
 intro r h
 rcases r with _|⟨d,_|_⟩ <;> simp only[zdY,and_false,and_true]at h
 cases d <;> simp only[zcl]at h
 exact⟨_,rfl⟩
theorem dec1_i64:∀r,zdY r [.i .i64]→∃x,r=zcg x:=by
 intro r h
 rcases r with _|⟨d,_|_⟩ <;> simp only[zdY,and_false,and_true]at h
 cases d <;> simp only[zcl]at h
 subst h;exact⟨_,rfl⟩
theorem dec1_u8:∀r,zdY r [.i .u8]→∃x,r=zar x:=by
 intro r h
 rcases r with _|⟨d,_|_⟩ <;> simp only[zdY,and_false,and_true]at h
 cases d <;> simp only[zcl]at h
 subst h;exact⟨_,rfl⟩
structure api_Setting where
 Key:Str
 Value:Str
def za(x:api_Setting):List Dt:=[.s x.Key,.s x.Value]
def zen:List Sh:=[.s,.s]
theorem zhi:∀r,zdY r zen→∃x:api_Setting,r=za x:=by
 intro r h;unfold zen at h
 rcases r with _|⟨d0,_|⟨d1,_|_⟩⟩ <;> simp only[zdY,and_false,and_true]at h
 obtain⟨h0,h1⟩:=h
 cases d0 <;> simp only[zcl]at h0
 cases d1 <;> simp only[zcl]at h1
 exact⟨⟨_,_⟩,rfl⟩
structure api_File where
 Path:Str
 Data:Str
 Runs:Bool
def zc(x:api_File):List Dt:=[.s x.Path,.s x.Data,.b x.Runs]
def zik:List Sh:=[.s,.s,.b]
theorem dec_api_File:∀r,zdY r zik→∃x:api_File,r=zc x:=by
 intro r h;unfold zik at h
 rcases r with _|⟨d0,_|⟨d1,_|⟨d2,_|_⟩⟩⟩ <;> simp only[zdY,and_false,and_true]at h
 obtain⟨h0,h1,h2⟩:=h
 cases d0 <;> simp only[zcl]at h0
 cases d1 <;> simp only[zcl]at h1
 cases d2 <;> simp only[zcl]at h2
 exact⟨⟨_,_,_⟩,rfl⟩
structure api_Service where
 Name:Str
 Path:Str
 Auto:Bool
 On:Bool
def zb(x:api_Service):List Dt:=[.s x.Name,.s x.Path,.b x.Auto,.b x.On]
def zfC:List Sh:=[.s,.s,.b,.b]
theorem zmf:∀r,zdY r zfC→∃x:api_Service,r=zb x:=by
 intro r h;unfold zfC at h
 rcases r with _|⟨d0,_|⟨d1,_|⟨d2,_|⟨d3,_|_⟩⟩⟩⟩ <;> simp only[zdY,and_false,and_true]at h
 obtain⟨h0,h1,h2,h3⟩:=h
 cases d0 <;> simp only[zcl]at h0
 cases d1 <;> simp only[zcl]at h1
 cases d2 <;> simp only[zcl]at h2
 cases d3 <;> simp only[zcl]at h3
 exact⟨⟨_,_,_,_⟩,rfl⟩
structure api_Machine where
 Facts:List api_Setting
 Files:List api_File
 Settings:List api_Setting
 Services:List api_Service
def zH(x:api_Machine):List Dt:=[.l (List.map za x.Facts),.l (List.map zc x.Files),.l (List.map za x.Settings),.l (List.map zb x.Services)]
def zeo:List Sh:=[.l zen,.l zik,.l zen,.l zfC]
theorem zmg:∀r,zdY r zeo→∃x:api_Machine,r=zH x:=by
 intro r h;unfold zeo at h
 rcases r with _|⟨d0,_|⟨d1,_|⟨d2,_|⟨d3,_|_⟩⟩⟩⟩ <;> simp only[zdY,and_false,and_true]at h
 obtain⟨h0,h1,h2,h3⟩:=h
 cases d0 <;> simp only[zcl]at h0
 obtain⟨l0,rfl⟩:=zcX zhi h0
 cases d1 <;> simp only[zcl]at h1
 obtain⟨l1,rfl⟩:=zcX dec_api_File h1
 cases d2 <;> simp only[zcl]at h2
 obtain⟨l2,rfl⟩:=zcX zhi h2
 cases d3 <;> simp only[zcl]at h3
 obtain⟨l3,rfl⟩:=zcX zmf h3;exact⟨⟨_,_,_,_⟩,rfl⟩
structure api_Change where
 Kind:Int
 File:api_File
 Setting:api_Setting
 Service:api_Service
def ze(x:api_Change):List Dt:=[.i .i64 x.Kind,.s x.File.Path,.s x.File.Data,.b x.File.Runs,.s x.Setting.Key,.s x.Setting.Value,.s x.Service.Name,.s x.Service.Path,.b x.Service.Auto,.b x.Service.On]
def zbm:List Sh:=[.i .i64,.s,.s,.b,.s,.s,.s,.s,.b,.b]
set_option maxRecDepth 100000 in
theorem zcZ:∀r,zdY r zbm→∃x:api_Change,r=ze x:=by
 intro r h;unfold zbm at h
 rcases r with _|⟨d0,_|⟨d1,_|⟨d2,_|⟨d3,_|⟨d4,_|⟨d5,_|⟨d6,_|⟨d7,_|⟨d8,_|⟨d9,_|_⟩⟩⟩⟩⟩⟩⟩⟩⟩⟩ <;> simp only[zdY,and_false,and_true]at h
 obtain⟨h0,h1,h2,h3,h4,h5,h6,h7,h8,h9⟩:=h
 cases d0 <;> simp only[zcl]at h0
 subst h0
 cases d1 <;> simp only[zcl]at h1
 cases d2 <;> simp only[zcl]at h2
 cases d3 <;> simp only[zcl]at h3
 cases d4 <;> simp only[zcl]at h4
 cases d5 <;> simp only[zcl]at h5
 cases d6 <;> simp only[zcl]at h6
 cases d7 <;> simp only[zcl]at h7
 cases d8 <;> simp only[zcl]at h8
 cases d9 <;> simp only[zcl]at h9
 exact⟨⟨_,⟨_,_,_⟩,⟨_,_⟩,⟨_,_,_,_⟩⟩,rfl⟩
structure zlG where
 Kind:Int
 Change:api_Change
 After:Int
 Torn:Bool
def zQ(x:zlG):List Dt:=[.i .i64 x.Kind,.i .i64 x.Change.Kind,.s x.Change.File.Path,.s x.Change.File.Data,.b x.Change.File.Runs,.s x.Change.Setting.Key,.s x.Change.Setting.Value,.s x.Change.Service.Name,.s x.Change.Service.Path,.b x.Change.Service.Auto,.b x.Change.Service.On,.i .i64 x.After,.b x.Torn]
def zhY:List Sh:=[.i .i64,.i .i64,.s,.s,.b,.s,.s,.s,.s,.b,.b,.i .i64,.b]
set_option maxRecDepth 100000 in
theorem dec_outlaw1_Act:∀r,zdY r zhY→∃x:zlG,r=zQ x:=by
 intro r h;unfold zhY at h
 rcases r with _|⟨d0,_|⟨d1,_|⟨d2,_|⟨d3,_|⟨d4,_|⟨d5,_|⟨d6,_|⟨d7,_|⟨d8,_|⟨d9,_|⟨d10,_|⟨d11,_|⟨d12,_|_⟩⟩⟩⟩⟩⟩⟩⟩⟩⟩⟩⟩⟩ <;> simp only[zdY,and_false,and_true]at h
 obtain⟨h0,h1,h2,h3,h4,h5,h6,h7,h8,h9,h10,h11,h12⟩:=h
 cases d0 <;> simp only[zcl]at h0
 subst h0
 cases d1 <;> simp only[zcl]at h1
 subst h1
 cases d2 <;> simp only[zcl]at h2
 cases d3 <;> simp only[zcl]at h3
 cases d4 <;> simp only[zcl]at h4
 cases d5 <;> simp only[zcl]at h5
 cases d6 <;> simp only[zcl]at h6
 cases d7 <;> simp only[zcl]at h7
 cases d8 <;> simp only[zcl]at h8
 cases d9 <;> simp only[zcl]at h9
 cases d10 <;> simp only[zcl]at h10
 cases d11 <;> simp only[zcl]at h11
 subst h11
 cases d12 <;> simp only[zcl]at h12
 exact⟨⟨_,⟨_,⟨_,_,_⟩,⟨_,_⟩,⟨_,_,_,_⟩⟩,_,_⟩,rfl⟩
structure stage_place where
 kind:Int
 name:Str
def z8(x:stage_place):List Dt:=[.i .i64 x.kind,.s x.name]
def zhX:List Sh:=[.i .i64,.s]
theorem dec_stage_place:∀r,zdY r zhX→∃x:stage_place,r=z8 x:=by
 intro r h;unfold zhX at h
 rcases r with _|⟨d0,_|⟨d1,_|_⟩⟩ <;> simp only[zdY,and_false,and_true]at h
 obtain⟨h0,h1⟩:=h
 cases d0 <;> simp only[zcl]at h0
 subst h0
 cases d1 <;> simp only[zcl]at h1
 exact⟨⟨_,_⟩,rfl⟩
structure api_Journal where
 Id:Str
 Changes:List api_Change
 Old:List api_Change
def zaI(x:api_Journal):List Dt:=[.s x.Id,.l (List.map ze x.Changes),.l (List.map ze x.Old)]
def zhZ:List Sh:=[.s,.l zbm,.l zbm]
theorem dec_api_Journal:∀r,zdY r zhZ→∃x:api_Journal,r=zaI x:=by
 intro r h;unfold zhZ at h
 rcases r with _|⟨d0,_|⟨d1,_|⟨d2,_|_⟩⟩⟩ <;> simp only[zdY,and_false,and_true]at h
 obtain⟨h0,h1,h2⟩:=h
 cases d0 <;> simp only[zcl]at h0
 cases d1 <;> simp only[zcl]at h1
 obtain⟨l1,rfl⟩:=zcX zcZ h1
 cases d2 <;> simp only[zcl]at h2
 obtain⟨l2,rfl⟩:=zcX zcZ h2;exact⟨⟨_,_,_⟩,rfl⟩
structure disk_line where
 word:Str
 file:api_File
 setting:api_Setting
 service:api_Service
def zbW(x:disk_line):List Dt:=[.s x.word,.s x.file.Path,.s x.file.Data,.b x.file.Runs,.s x.setting.Key,.s x.setting.Value,.s x.service.Name,.s x.service.Path,.b x.service.Auto,.b x.service.On]
def zkj:List Sh:=[.s,.s,.s,.b,.s,.s,.s,.s,.b,.b]
set_option maxRecDepth 100000 in
theorem dec_disk_line:∀r,zdY r zkj→∃x:disk_line,r=zbW x:=by
 intro r h;unfold zkj at h
 rcases r with _|⟨d0,_|⟨d1,_|⟨d2,_|⟨d3,_|⟨d4,_|⟨d5,_|⟨d6,_|⟨d7,_|⟨d8,_|⟨d9,_|_⟩⟩⟩⟩⟩⟩⟩⟩⟩⟩ <;> simp only[zdY,and_false,and_true]at h
 obtain⟨h0,h1,h2,h3,h4,h5,h6,h7,h8,h9⟩:=h
 cases d0 <;> simp only[zcl]at h0
 cases d1 <;> simp only[zcl]at h1
 cases d2 <;> simp only[zcl]at h2
 cases d3 <;> simp only[zcl]at h3
 cases d4 <;> simp only[zcl]at h4
 cases d5 <;> simp only[zcl]at h5
 cases d6 <;> simp only[zcl]at h6
 cases d7 <;> simp only[zcl]at h7
 cases d8 <;> simp only[zcl]at h8
 cases d9 <;> simp only[zcl]at h9
 exact⟨⟨_,⟨_,_,_⟩,⟨_,_⟩,⟨_,_,_,_⟩⟩,rfl⟩
structure S_word_l where
 word:Str
 l:List api_Change
def zeC(x:S_word_l):List Dt:=[.s x.word,.l (List.map ze x.l)]
def zlu:List Sh:=[.s,.l zbm]
theorem dec_S_word_l:∀r,zdY r zlu→∃x:S_word_l,r=zeC x:=by
 intro r h;unfold zlu at h
 rcases r with _|⟨d0,_|⟨d1,_|_⟩⟩ <;> simp only[zdY,and_false,and_true]at h
 obtain⟨h0,h1⟩:=h
 cases d0 <;> simp only[zcl]at h0
 cases d1 <;> simp only[zcl]at h1
 obtain⟨l1,rfl⟩:=zcX zcZ h1;exact⟨⟨_,_⟩,rfl⟩
structure api_Cut where
 After:Int
 Torn:Bool
def zix(x:api_Cut):List Dt:=[.i .i64 x.After,.b x.Torn]
def zmY:List Sh:=[.i .i64,.b]
theorem dec_api_Cut:∀r,zdY r zmY→∃x:api_Cut,r=zix x:=by
 intro r h;unfold zmY at h
 rcases r with _|⟨d0,_|⟨d1,_|_⟩⟩ <;> simp only[zdY,and_false,and_true]at h
 obtain⟨h0,h1⟩:=h
 cases d0 <;> simp only[zcl]at h0
 subst h0
 cases d1 <;> simp only[zcl]at h1
 exact⟨⟨_,_⟩,rfl⟩
structure zkn where
 Kind:Int
 Id:Str
 Changes:List api_Change
 Cut:api_Cut
def zeJ(x:zkn):List Dt:=[.i .i64 x.Kind,.s x.Id,.l (List.map ze x.Changes),.i .i64 x.Cut.After,.b x.Cut.Torn]
def zgX:List Sh:=[.i .i64,.s,.l zbm,.i .i64,.b]
theorem dec_outlaw1_Step:∀r,zdY r zgX→∃x:zkn,r=zeJ x:=by
 intro r h;unfold zgX at h
 rcases r with _|⟨d0,_|⟨d1,_|⟨d2,_|⟨d3,_|⟨d4,_|_⟩⟩⟩⟩⟩ <;> simp only[zdY,and_false,and_true]at h
 obtain⟨h0,h1,h2,h3,h4⟩:=h
 cases d0 <;> simp only[zcl]at h0
 subst h0
 cases d1 <;> simp only[zcl]at h1
 cases d2 <;> simp only[zcl]at h2
 obtain⟨l2,rfl⟩:=zcX zcZ h2
 cases d3 <;> simp only[zcl]at h3
 subst h3
 cases d4 <;> simp only[zcl]at h4
 exact⟨⟨_,_,_,⟨_,_⟩⟩,rfl⟩
instance instDec_stage_place:DecidableEq stage_place:=fun a b=>decidable_of_iff (a.kind=b.kind∧a.name=b.name) (by cases a;cases b;simp)
def zdL(x:stage_place):Dt:=.a (z8 x)
theorem keq_stage_place(a b:stage_place):keq (zdL a) (zdL b)=decide (a=b):=by
 rw[Bool.eq_iff_iff];obtain⟨a0,a1⟩:=a;obtain⟨b0,b1⟩:=b;simp only[keq,zdL,z8,zcG,Bool.and_true,Bool.and_eq_true,decide_eq_true_eq,stage_place.mk.injEq];exact⟨fun h=>by simp only[h,and_self],fun h=>by simp only[h,and_self]⟩
theorem zj1{V:Type}(e:V→List Dt)(l:List (stage_place×V)):zfF (.ks [.i .i64,.s]) (zx zdL e l)=True:=mkeys_a (kd:=z8) (fun x=>by simp[zA,z8]) e l
attribute [go_sem] zj1
theorem sz_ecB:∀l,zfp (1) (List.map ecB l)=True:=fun l=>eq_true (by intro r hr;obtain⟨x,_,rfl⟩:=List.mem_map.1 hr;rfl)
theorem sz_ecS:∀l,zfp (1) (List.map ecS l)=True:=fun l=>eq_true (by intro r hr;obtain⟨x,_,rfl⟩:=List.mem_map.1 hr;rfl)
theorem sz_ecI_i64:∀l,zfp (1) (List.map zcg l)=True:=fun l=>eq_true (by intro r hr;obtain⟨x,_,rfl⟩:=List.mem_map.1 hr;rfl)
theorem sz_ecI_u8:∀l,zfp (1) (List.map zar l)=True:=fun l=>eq_true (by intro r hr;obtain⟨x,_,rfl⟩:=List.mem_map.1 hr;rfl)
theorem sz_ecI_u64:∀l,zfp (1) (List.map ecI_u64 l)=True:=fun l=>eq_true (by intro r hr;obtain⟨x,_,rfl⟩:=List.mem_map.1 hr;rfl)
theorem sz_ecI_i32:∀l,zfp (1) (List.map ecI_i32 l)=True:=fun l=>eq_true (by intro r hr;obtain⟨x,_,rfl⟩:=List.mem_map.1 hr;rfl)
theorem sz_ecI_u32:∀l,zfp (1) (List.map ecI_u32 l)=True:=fun l=>eq_true (by intro r hr;obtain⟨x,_,rfl⟩:=List.mem_map.1 hr;rfl)
theorem ziO:∀l,zfp (2) (List.map za l)=True:=fun l=>eq_true (by intro r hr;obtain⟨x,_,rfl⟩:=List.mem_map.1 hr;rfl)
theorem zli:∀l,zfp (3) (List.map zc l)=True:=fun l=>eq_true (by intro r hr;obtain⟨x,_,rfl⟩:=List.mem_map.1 hr;rfl)
theorem ziP:∀l,zfp (4) (List.map zb l)=True:=fun l=>eq_true (by intro r hr;obtain⟨x,_,rfl⟩:=List.mem_map.1 hr;rfl)
theorem ziQ:∀l,zfp (4) (List.map zH l)=True:=fun l=>eq_true (by intro r hr;obtain⟨x,_,rfl⟩:=List.mem_map.1 hr;rfl)
theorem zjI:∀l,zfp (10) (List.map ze l)=True:=fun l=>eq_true (by intro r hr;obtain⟨x,_,rfl⟩:=List.mem_map.1 hr;rfl)
theorem ziN:∀l,zfp (13) (List.map zQ l)=True:=fun l=>eq_true (by intro r hr;obtain⟨x,_,rfl⟩:=List.mem_map.1 hr;rfl)
theorem ziM:∀l,zfp (2) (List.map z8 l)=True:=fun l=>eq_true (by intro r hr;obtain⟨x,_,rfl⟩:=List.mem_map.1 hr;rfl)
theorem ziR:∀l,zfp (3) (List.map zaI l)=True:=fun l=>eq_true (by intro r hr;obtain⟨x,_,rfl⟩:=List.mem_map.1 hr;rfl)
theorem zkB:∀l,zfp (10) (List.map zbW l)=True:=fun l=>eq_true (by intro r hr;obtain⟨x,_,rfl⟩:=List.mem_map.1 hr;rfl)
theorem zlj:∀l,zfp (2) (List.map zeC l)=True:=fun l=>eq_true (by intro r hr;obtain⟨x,_,rfl⟩:=List.mem_map.1 hr;rfl)
theorem zmA:∀l,zfp (2) (List.map zix l)=True:=fun l=>eq_true (by intro r hr;obtain⟨x,_,rfl⟩:=List.mem_map.1 hr;rfl)
theorem zig:∀l,zfp (5) (List.map zeJ l)=True:=fun l=>eq_true (by intro r hr;obtain⟨x,_,rfl⟩:=List.mem_map.1 hr;rfl)
theorem allB_enc:∀l:List Int,zgU (List.map zar l)=True
 |[]=>by simp only[List.map_nil,zgU]
 |_::l=>by simp only[List.map_cons,zar,zgU,allB_enc l,and_self]
theorem unB_enc:∀l:List Int,unB (List.map zar l)=Go.Vc.strOf l
 |[]=>by simp only[List.map_nil,unB,Go.Vc.strOf]
 |_::l=>by simp only[List.map_cons,zar,unB,unB_enc l,Go.Vc.strOf]
theorem bR_enc(l:Str):bR l=List.map zar (zfH l):=by simp[bR,zfH,zar]
attribute [go_sem] allB_enc unB_enc bR_enc
attribute [go_sem] ecB ecS zcg zar ecI_u64 ecI_i32 ecI_u32 za zc zb zH ze zQ z8 zaI zbW zeC zix zeJ sz_ecB sz_ecS sz_ecI_i64 sz_ecI_u8 sz_ecI_u64 sz_ecI_i32 sz_ecI_u32 ziO zli ziP ziQ zjI ziN ziM ziR zkB zlj zmA zig
noncomputable def zcm(c_1:Int):Option Bool :=
 some ((decide (97≤c_1))&&(decide (c_1≤122)))
noncomputable def zd3(c_1:Int):Option Bool :=
 some ((decide (48≤c_1))&&(decide (c_1≤57)))
noncomputable def zeu(c_1:Int):Option Bool :=
 call (zcm c_1) fun r_2 =>
 callG (!r_2) (zd3 c_1) false fun r_3 =>
 some (((r_2||r_3)||(decide (c_1=45)))||(decide (c_1=46)))
noncomputable def zgp(s_1:Str)(most_2:Int):Option Bool :=
 jp (S:=Unit) (fun _ =>
  some ((!decide (s_1=[]))&&(decide ((s_1.length:Int)≤most_2)))) fun k_3 =>
 forL s_1 0 (fun i_7 c_4 s nx_5 k_8 =>
  call (zeu (c_4.toNat:Int)) fun r_6 =>
  bif !r_6 then
   some false
  else
  nx_5 ()) () (fun _ =>
  k_3 ())
noncomputable def zbG(s_1:Str):Option Bool :=
 call (zgp s_1 40) fun r_2 =>
 chk (r_2=true→(0≤0∧0<(s_1.length:Int))) <|
 callG r_2 (zcm ((s_1.getD 0 0).toNat:Int)) false fun r_3 =>
 some (r_2&&r_3)
noncomputable def zgj :Option Bool :=
 call (zbG ([97]:Str)) fun r_1 =>
 some r_1
noncomputable def zes(s_2:Str):Option Bool :=
 jp (S:=Unit) (fun _ =>
  some ((!decide (s_2=[]))&&(decide ((s_2.length:Int)≤40)))) fun k_3 =>
 forL s_2 0 (fun i_4 c_1 s nx_5 k_6 =>
  bif (((decide ((i_4:Int)=0))&&(!((decide (97≤(c_1.toNat:Int)))&&(decide ((c_1.toNat:Int)≤122)))))||((((!((decide (97≤(c_1.toNat:Int)))&&(decide ((c_1.toNat:Int)≤122))))&&((decide ((c_1.toNat:Int)<48))||(decide (57<(c_1.toNat:Int)))))&&(!decide ((c_1.toNat:Int)=45)))&&(!decide ((c_1.toNat:Int)=46))))then
   some false
  else
  nx_5 ()) () (fun _ =>
  k_3 ())
noncomputable def zfj(bad_1:Bool)(e_2:Int):Option Int :=
 bif bad_1 then
  some e_2
 else
 some 0
noncomputable def zfl(s_1:Str):Option Bool :=
 jp (S:=Unit) (fun _ =>
  some (decide ((s_1.length:Int)≤1000))) fun k_3 =>
 forL s_1 0 (fun i_5 c_2 s nx_4 k_6 =>
  bif ((decide ((c_2.toNat:Int)<32))||(decide (126<(c_2.toNat:Int))))then
   some false
  else
  nx_4 ()) () (fun _ =>
  k_3 ())
noncomputable def zbR(i_3:Int)(s_1:Str)(o0_0_2:Str):Option (Int×Str) :=
 call (zfj ((decide (0<i_3))&&(zgr s_1 o0_0_2||decide (s_1=o0_0_2))) 7) fun r_4 =>
 some (r_4,s_1)
noncomputable def zbY(l_2:List Int):Option Int :=
 jp (S:=Unit) (fun _ =>
  some 0) fun k_3 =>
 forL l_2 0 (fun i_5 e_1 s nx_4 k_6 =>
  bif !decide (e_1=0)then
   some e_1
  else
  nx_4 ()) () (fun _ =>
  k_3 ())
noncomputable def zR(s_1:Str)(c_2:Int):Option Int :=
 some (zh5 s_1 c_2)
noncomputable def zac(s_2:Str)(substr_1:Str):Option Int :=
 bif ((decide ((substr_1.length:Int)=0))||(decide (substr_1=s_2)))then
  some 0
 else
 bif decide ((substr_1.length:Int)=1)then
  zgR substr_1 0 fun c_3 =>
  call (zR s_2 c_3) fun r_4 =>
  some r_4
 else
 bif decide ((s_2.length:Int)≤(substr_1.length:Int))then
  some (-1)
 else
 none
noncomputable def za1(s_1:Str)(substr_2:Str):Option Int :=
 call (zac s_1 substr_2) fun r_3 =>
 some r_3
noncomputable def zdv(s_5:Str)(substr_1:Str):Option Int :=
 bif decide ((substr_1.length:Int)=0)then
  none
 else
 bif decide ((substr_1.length:Int)=1)then
  zgR substr_1 0 fun c_6 =>
  some (zgH s_5 c_6)
 else
 loopN zib (fun s nx_7 k_8 =>
  match s with
  |(s_2,n_4) =>
   call (za1 s_2 substr_1) fun r_3 =>
   bif decide (r_3=(-1))then
    some n_4
   else
   chk (0≤IntKind.i64.wrap (r_3+(substr_1.length:Int))∧IntKind.i64.wrap (r_3+(substr_1.length:Int))≤(s_2.length:Int)) <|
   nx_7 (List.drop ((IntKind.i64.wrap (r_3+(substr_1.length:Int))).toNat) s_2,IntKind.i64.wrap (n_4+1))) (s_5,0) (fun s=>match s with
  |(s_2,n_4) =>
   none)
noncomputable def zaK(s_3:Str)(sep_6:Str)(sepSave_9:Int)(n_10:Int):Option (List Str) :=
 bif decide (n_10=0)then
  some []
 else
 bif decide (sep_6=[])then
  none
 else
 jp (S:=Int) (fun n_7 =>
  chk (0≤min n_7 (IntKind.i64.wrap ((s_3.length:Int)+1))∧min n_7 (IntKind.i64.wrap ((s_3.length:Int)+1))≤min n_7 (IntKind.i64.wrap ((s_3.length:Int)+1))∧min n_7 (IntKind.i64.wrap ((s_3.length:Int)+1))≤274877906944) <|
  jp (S:=Str×Int×List Str) (fun s=>match s with
   |(s_12,i_4,o0_11) =>
    chk (0≤i_4∧i_4<(o0_11.length:Int)) <|
    chk (0≤IntKind.i64.wrap (i_4+1)∧IntKind.i64.wrap (i_4+1)≤((List.set o0_11 i_4.toNat s_12).length:Int)) <|
    some (List.take ((IntKind.i64.wrap (i_4+1)).toNat) (List.set o0_11 i_4.toNat s_12))) fun k_15 =>
  loopN zib (fun s nx_16 k_13 =>
   match s with
   |(s_1,i_2,o0_8) =>
    bif decide (i_2<(IntKind.i64.wrap ((min n_7 (IntKind.i64.wrap ((s_3.length:Int)+1)))-1)))then
     call (za1 s_1 sep_6) fun r_5 =>
     bif decide (r_5<0)then
      k_13 (s_1,i_2,o0_8)
     else
     chk (0≤IntKind.i64.wrap (r_5+sepSave_9)∧IntKind.i64.wrap (r_5+sepSave_9)≤(s_1.length:Int)) <|
     chk (0≤i_2∧i_2<(o0_8.length:Int)) <|
     chk (0≤IntKind.i64.wrap (r_5+(sep_6.length:Int))∧IntKind.i64.wrap (r_5+(sep_6.length:Int))≤(s_1.length:Int)) <|
     nx_16 (List.drop ((IntKind.i64.wrap (r_5+(sep_6.length:Int))).toNat) s_1,IntKind.i64.wrap (i_2+1),List.set o0_8 i_2.toNat (List.take ((IntKind.i64.wrap (r_5+sepSave_9)).toNat) s_1))
    else
    k_13 (s_1,i_2,o0_8)) (s_3,0,List.replicate ((min n_7 (IntKind.i64.wrap ((s_3.length:Int)+1))).toNat) []) (fun s=>match s with
   |(s_1,i_2,o0_8) =>
    k_15 (s_1,i_2,o0_8))) fun k_14 =>
 bif decide (n_10<0)then
  call (zdv s_3 sep_6) fun r_17 =>
  k_14 (IntKind.i64.wrap (r_17+1))
 else
 k_14 n_10
noncomputable def za0(s_1:Str)(sep_2:Str):Option (List Str) :=
 call (zaK s_1 sep_2 0 (-1)) fun r_3 =>
 some r_3
noncomputable def zjy(s_2:Str):Option Bool :=
 jp (S:=Unit) (fun _ =>
  some ((((!decide (s_2=[]))&&(decide ((s_2.length:Int)≤40)))&&(!decide (s_2=([46]:Str))))&&(!decide (s_2=([46,46]:Str))))) fun k_3 =>
 forL s_2 0 (fun i_5 c_1 s nx_4 k_6 =>
  bif (((((((decide ((c_1.toNat:Int)<97))||(decide (122<(c_1.toNat:Int))))&&((decide ((c_1.toNat:Int)<65))||(decide (90<(c_1.toNat:Int)))))&&((decide ((c_1.toNat:Int)<48))||(decide (57<(c_1.toNat:Int)))))&&(!decide ((c_1.toNat:Int)=45)))&&(!decide ((c_1.toNat:Int)=46)))&&(!decide ((c_1.toNat:Int)=95)))then
   some false
  else
  nx_4 ()) () (fun _ =>
  k_3 ())
noncomputable def zeY(s_1:Str):Option Bool :=
 jp (S:=Unit) (fun _ =>
  some (decide ((s_1.length:Int)≤200))) fun k_2 =>
 call (za0 s_1 ([47]:Str)) fun r_3 =>
 forL r_3 0 (fun i_7 s_4 s nx_5 k_8 =>
  call (zjy s_4) fun r_6 =>
  bif !r_6 then
   some false
  else
  nx_5 ()) () (fun _ =>
  k_2 ())
noncomputable def zel(f_1:api_File):Option Int :=
 call (zeY f_1.Path) fun r_2 =>
 call (zfj (!r_2) 5) fun r_3 =>
 call (zfj (decide (65536<(f_1.Data.length:Int))) 4) fun r_4 =>
 call (zbY [r_3,r_4]) fun r_5 =>
 some r_5
noncomputable def zca(s_1:api_Setting):Option Int :=
 call (zeY s_1.Key) fun r_2 =>
 call (zfj (!r_2) 5) fun r_3 =>
 call (zfl s_1.Value) fun r_4 =>
 call (zfj (!r_4) 2) fun r_5 =>
 call (zbY [r_3,r_5]) fun r_6 =>
 some r_6
noncomputable def zcb(s_1:api_Service):Option Int :=
 call (zes s_1.Name) fun r_2 =>
 callG (!(!r_2)) (zeY s_1.Path) false fun r_3 =>
 call (zfj ((!r_2)||(!r_3)) 5) fun r_4 =>
 some r_4
noncomputable def zkd(m_2:api_Machine):Option Int :=
 bif ((((decide (100<(m_2.Facts.length:Int)))||(decide (2000<(m_2.Files.length:Int))))||(decide (2000<(m_2.Settings.length:Int))))||(decide (100<(m_2.Services.length:Int))))then
  some 4
 else
 jp (S:=Str) (fun o1_0_25 =>
  jp (S:=Str) (fun o1_0_26 =>
   jp (S:=Str) (fun o1_0_27 =>
    jp (S:=Unit) (fun _ =>
     some 0) fun k_28 =>
    forL m_2.Services 0 (fun i_29 s_11 o1_0_12 nx_30 k_51 =>
     call (zcb s_11) fun r_31 =>
     call (zbR (i_29:Int) s_11.Name o1_0_12) fun r_13 =>
     call (zbY [r_31,r_13.1]) fun r_14 =>
     bif !decide (r_14=0)then
      some r_14
     else
     nx_30 r_13.2) o1_0_27 (fun o1_0_12 =>
     k_28 ())) fun k_32 =>
   forL m_2.Settings 0 (fun i_33 s_15 o1_0_6 nx_34 k_52 =>
    call (zca s_15) fun r_35 =>
    call (zbR (i_33:Int) s_15.Key o1_0_6) fun r_16 =>
    call (zbY [r_35,r_16.1]) fun r_17 =>
    bif !decide (r_17=0)then
     some r_17
    else
    nx_34 r_16.2) o1_0_26 (fun o1_0_6 =>
    k_32 o1_0_6)) fun k_36 =>
  forL m_2.Files 0 (fun i_37 f_3 s nx_38 k_53 =>
   match s with
   |(o1_0_7,m2_4) =>
    jp (S:=Str) (fun o1_0_39 =>
     nx_38 (o1_0_39,zcy m2_4 f_3.Path true)) fun k_40 =>
    call (zel f_3) fun r_41 =>
    call (zbR (i_37:Int) f_3.Path o1_0_7) fun r_18 =>
    call (zbY [r_41,r_18.1]) fun r_8 =>
    jp (S:=Int) (fun e_19 =>
     bif !decide (e_19=0)then
      some e_19
     else
     chk ((zcy m2_4 f_3.Path true).length≤274877906944) <|
     k_40 r_18.2) fun k_20 =>
    bif decide (r_8=0)then
     loopN zib (fun s nx_21 k_42 =>
      match s with
      |(e_5,t94_1) =>
       bif decide (t94_1<(f_3.Path.length:Int))then
        zgR f_3.Path t94_1 fun c_22 =>
        chk ((decide (c_22=47))=true→(0≤t94_1∧t94_1≤(f_3.Path.length:Int))) <|
        zhb (zu m2_4 (List.take t94_1.toNat f_3.Path)) fun q_43 =>
        bif ((decide (c_22=47))&&(q_43.getD false))then
         nx_21 (11,IntKind.i64.wrap (t94_1+1))
        else
        nx_21 (e_5,IntKind.i64.wrap (t94_1+1))
       else
       k_42 (e_5,t94_1)) (r_8,0) (fun s=>match s with
      |(e_5,t94_1) =>
       k_20 e_5)
    else
    k_20 r_8) (o1_0_25,[]) (fun s=>match s with
   |(o1_0_7,m2_4) =>
    k_36 o1_0_7)) fun k_44 =>
 forL m_2.Facts 0 (fun i_45 s_9 o1_0_10 nx_46 k_54 =>
  call (zes s_9.Key) fun r_47 =>
  call (zfj (!r_47) 5) fun r_48 =>
  call (zfl s_9.Value) fun r_49 =>
  call (zfj (!r_49) 2) fun r_50 =>
  call (zbR (i_45:Int) s_9.Key o1_0_10) fun r_23 =>
  call (zbY [r_48,r_50,r_23.1]) fun r_24 =>
  bif !decide (r_24=0)then
   some r_24
  else
  nx_46 r_23.2) [] (fun o1_0_10 =>
  k_44 o1_0_10)
noncomputable def zeN(c_1:Int):Option Bool :=
 some ((decide (32≤c_1))&&(decide (c_1≤126)))
noncomputable def zgo(s_1:Str)(most_2:Int):Option Bool :=
 jp (S:=Unit) (fun _ =>
  some ((!decide (s_1=[]))&&(decide ((s_1.length:Int)≤most_2)))) fun k_3 =>
 forL s_1 0 (fun i_7 c_4 s nx_5 k_8 =>
  call (zeN (c_4.toNat:Int)) fun r_6 =>
  bif !r_6 then
   some false
  else
  nx_5 ()) () (fun _ =>
  k_3 ())
noncomputable def zd4(s_1:Str):Option Bool :=
 callG (!(decide (s_1=[]))) (zgo s_1 1000) false fun r_2 =>
 some ((decide (s_1=[]))||r_2)
noncomputable def zbE(s_1:api_Setting):Option Int :=
 call (zbG s_1.Key) fun r_2 =>
 bif !r_2 then
  some 5
 else
 call (zd4 s_1.Value) fun r_3 =>
 bif !r_3 then
  some 2
 else
 some 0
noncomputable def zeF(s_1:api_Setting):Option Int :=
 call (zbE s_1) fun r_2 =>
 some r_2
noncomputable def zdl(s_1:api_Setting):Option Str :=
 some s_1.Key
noncomputable def zaf(l_2:List api_Setting):Option Int :=
 jp (S:=Unit) (fun _ =>
  some 0) fun k_7 =>
 forL l_2 0 (fun i_1 s_3 s nx_8 k_9 =>
  call (zeF s_3) fun r_4 =>
  bif !decide (r_4=0)then
   some r_4
  else
  callG (decide (0<(i_1:Int))) (zdl s_3) [] fun r_5 =>
  chk ((decide (0<(i_1:Int)))=true→(0≤IntKind.i64.wrap ((i_1:Int)-1)∧IntKind.i64.wrap ((i_1:Int)-1)<(l_2.length:Int))) <|
  callG (decide (0<(i_1:Int))) (zdl (api_Setting.mk ((l_2.getD ((IntKind.i64.wrap ((i_1:Int)-1)).toNat) (api_Setting.mk [] [])).Key) ((l_2.getD ((IntKind.i64.wrap ((i_1:Int)-1)).toNat) (api_Setting.mk [] [])).Value))) [] fun r_6 =>
  bif ((decide (0<(i_1:Int)))&&(zgr r_5 r_6||decide (r_5=r_6)))then
   some 7
  else
  nx_8 ()) () (fun _ =>
  k_7 ())
noncomputable def zfs(c_1:Int):Option Bool :=
 call (zcm c_1) fun r_2 =>
 callG (!(r_2||((decide (65≤c_1))&&(decide (c_1≤90))))) (zd3 c_1) false fun r_3 =>
 some (((((r_2||((decide (65≤c_1))&&(decide (c_1≤90))))||r_3)||(decide (c_1=45)))||(decide (c_1=46)))||(decide (c_1=95)))
noncomputable def zgn(s_1:Str)(most_2:Int):Option Bool :=
 jp (S:=Unit) (fun _ =>
  some ((!decide (s_1=[]))&&(decide ((s_1.length:Int)≤most_2)))) fun k_3 =>
 forL s_1 0 (fun i_7 c_4 s nx_5 k_8 =>
  call (zfs (c_4.toNat:Int)) fun r_6 =>
  bif !r_6 then
   some false
  else
  nx_5 ()) () (fun _ =>
  k_3 ())
noncomputable def zfL(s_1:Str):Option Bool :=
 call (zgn s_1 40) fun r_2 =>
 some ((r_2&&(!decide (s_1=([46]:Str))))&&(!decide (s_1=([46,46]:Str))))
noncomputable def zd5(s_1:Str):Option Bool :=
 jp (S:=Unit) (fun _ =>
  some (decide ((s_1.length:Int)≤200))) fun k_2 =>
 call (za0 s_1 ([47]:Str)) fun r_3 =>
 forL r_3 0 (fun i_7 s_4 s nx_5 k_8 =>
  call (zfL s_4) fun r_6 =>
  bif !r_6 then
   some false
  else
  nx_5 ()) () (fun _ =>
  k_2 ())
noncomputable def za5(f_1:api_File):Option Int :=
 call (zd5 f_1.Path) fun r_2 =>
 bif !r_2 then
  some 5
 else
 bif decide (65536<(f_1.Data.length:Int))then
  some 4
 else
 some 0
noncomputable def zcw(dir_1:Str)(m1_2:List (Str×Bool)):Option Bool :=
 zhb (zu m1_2 dir_1) fun q_3 =>
 some (!(q_3.getD false))
noncomputable def zcJ(path_1:Str)(m1_4:List (Str×Bool)):Option Bool :=
 jp (S:=Unit) (fun _ =>
  some true) fun k_5 =>
 forL path_1 0 (fun i_2 c_3 s nx_6 k_8 =>
  chk ((decide ((c_3.toNat:Int)=47))=true→(0≤(i_2:Int)∧(i_2:Int)≤(path_1.length:Int))) <|
  callG (decide ((c_3.toNat:Int)=47)) (zcw (List.take i_2 path_1) m1_4) false fun r_7 =>
  bif ((decide ((c_3.toNat:Int)=47))&&(!r_7))then
   some false
  else
  nx_6 ()) () (fun _ =>
  k_5 ())
noncomputable def zah(s_1:api_Setting):Option Int :=
 call (zd5 s_1.Key) fun r_2 =>
 bif !r_2 then
  some 5
 else
 call (zd4 s_1.Value) fun r_3 =>
 bif !r_3 then
  some 2
 else
 some 0
noncomputable def zeE(s_1:api_Setting):Option Int :=
 call (zah s_1) fun r_2 =>
 some r_2
noncomputable def zU(l_2:List api_Setting):Option Int :=
 jp (S:=Unit) (fun _ =>
  some 0) fun k_7 =>
 forL l_2 0 (fun i_1 s_3 s nx_8 k_9 =>
  call (zeE s_3) fun r_4 =>
  bif !decide (r_4=0)then
   some r_4
  else
  callG (decide (0<(i_1:Int))) (zdl s_3) [] fun r_5 =>
  chk ((decide (0<(i_1:Int)))=true→(0≤IntKind.i64.wrap ((i_1:Int)-1)∧IntKind.i64.wrap ((i_1:Int)-1)<(l_2.length:Int))) <|
  callG (decide (0<(i_1:Int))) (zdl (api_Setting.mk ((l_2.getD ((IntKind.i64.wrap ((i_1:Int)-1)).toNat) (api_Setting.mk [] [])).Key) ((l_2.getD ((IntKind.i64.wrap ((i_1:Int)-1)).toNat) (api_Setting.mk [] [])).Value))) [] fun r_6 =>
  bif ((decide (0<(i_1:Int)))&&(zgr r_5 r_6||decide (r_5=r_6)))then
   some 7
  else
  nx_8 ()) () (fun _ =>
  k_7 ())
noncomputable def zbb(s_1:api_Service):Option Int :=
 call (zbG s_1.Name) fun r_2 =>
 callG (!(!r_2)) (zd5 s_1.Path) false fun r_3 =>
 bif ((!r_2)||(!r_3))then
  some 5
 else
 some 0
noncomputable def zfe(s_1:api_Service):Option Str :=
 some s_1.Name
noncomputable def zV(l_2:List api_Service):Option Int :=
 jp (S:=Unit) (fun _ =>
  some 0) fun k_7 =>
 forL l_2 0 (fun i_1 s_3 s nx_8 k_9 =>
  call (zbb s_3) fun r_4 =>
  bif !decide (r_4=0)then
   some r_4
  else
  callG (decide (0<(i_1:Int))) (zfe s_3) [] fun r_5 =>
  chk ((decide (0<(i_1:Int)))=true→(0≤IntKind.i64.wrap ((i_1:Int)-1)∧IntKind.i64.wrap ((i_1:Int)-1)<(l_2.length:Int))) <|
  callG (decide (0<(i_1:Int))) (zfe (api_Service.mk ((l_2.getD ((IntKind.i64.wrap ((i_1:Int)-1)).toNat) (api_Service.mk [] [] false false)).Name) ((l_2.getD ((IntKind.i64.wrap ((i_1:Int)-1)).toNat) (api_Service.mk [] [] false false)).Path) ((l_2.getD ((IntKind.i64.wrap ((i_1:Int)-1)).toNat) (api_Service.mk [] [] false false)).Auto) ((l_2.getD ((IntKind.i64.wrap ((i_1:Int)-1)).toNat) (api_Service.mk [] [] false false)).On))) [] fun r_6 =>
  bif ((decide (0<(i_1:Int)))&&(zgr r_5 r_6||decide (r_5=r_6)))then
   some 7
  else
  nx_8 ()) () (fun _ =>
  k_7 ())
noncomputable def zf9(m_1:api_Machine):Option Int :=
 bif ((((decide (100<(m_1.Facts.length:Int)))||(decide (2000<(m_1.Files.length:Int))))||(decide (2000<(m_1.Settings.length:Int))))||(decide (100<(m_1.Services.length:Int))))then
  some 4
 else
 call (zaf m_1.Facts) fun r_5 =>
 bif !decide (r_5=0)then
  some r_5
 else
 jp (S:=Unit) (fun _ =>
  call (zU m_1.Settings) fun r_6 =>
  bif !decide (r_6=0)then
   some r_6
  else
  call (zV m_1.Services) fun r_8 =>
  some r_8) fun k_9 =>
 forL m_1.Files 0 (fun i_10 f_2 s nx_11 k_13 =>
  match s with
  |(before_4,m1_3) =>
   call (za5 f_2) fun r_7 =>
   bif !decide (r_7=0)then
    some r_7
   else
   bif ((decide (0<(i_10:Int)))&&(zgr f_2.Path before_4||decide (f_2.Path=before_4)))then
    some 7
   else
   call (zcJ f_2.Path m1_3) fun r_12 =>
   bif !r_12 then
    some 11
   else
   chk ((zcy m1_3 f_2.Path true).length≤274877906944) <|
   nx_11 (f_2.Path,zcy m1_3 f_2.Path true)) ([],[]) (fun s=>match s with
  |(before_4,m1_3) =>
   k_9 ())
noncomputable def zN(s_1:List api_Setting):Option (List api_Setting) :=
 anyOf (fun b_2:Bool=>b_2=true→s_1=[]) fun b_2 =>
 bif b_2 then
  some []
 else
 chk (([]++s_1).length≤274877906944) <|
 some ([]++s_1)
noncomputable def zaS(a_1:Str)(b_2:Str):Option Int :=
 some (cmpB a_1 b_2)
noncomputable def ze3(a_1:Str)(b_2:Str):Option Int :=
 call (zaS a_1 b_2) fun r_3 =>
 some r_3
noncomputable def zjB(a_1:api_Setting)(b_2:api_Setting):Option Int :=
 call (ze3 a_1.Key b_2.Key) fun r_3 =>
 some r_3
noncomputable def zk(a_3:Int)(b_6:Int)(o0_7:List api_Setting):Option (List api_Setting) :=
 loopN zib (fun s nx_8 k_9 =>
  match s with
  |(i_4,o0_5) =>
   bif decide (i_4<b_6)then
    jp (S:=List api_Setting) (fun o0_10 =>
     nx_8 (IntKind.i64.wrap (i_4+1),o0_10)) fun k_11 =>
    loopN zib (fun s nx_12 k_13 =>
     match s with
     |(j_1,o0_2) =>
      chk ((decide (a_3<j_1))=true→(0≤j_1∧j_1<(o0_2.length:Int))) <|
      chk ((decide (a_3<j_1))=true→(0≤IntKind.i64.wrap (j_1-1)∧IntKind.i64.wrap (j_1-1)<(o0_2.length:Int))) <|
      callG (decide (a_3<j_1)) (zjB (api_Setting.mk ((o0_2.getD j_1.toNat (api_Setting.mk [] [])).Key) ((o0_2.getD j_1.toNat (api_Setting.mk [] [])).Value)) (api_Setting.mk ((o0_2.getD ((IntKind.i64.wrap (j_1-1)).toNat) (api_Setting.mk [] [])).Key) ((o0_2.getD ((IntKind.i64.wrap (j_1-1)).toNat) (api_Setting.mk [] [])).Value))) 0 fun r_14 =>
      bif ((decide (a_3<j_1))&&(decide (r_14<0)))then
       chk (0≤IntKind.i64.wrap (j_1-1)∧IntKind.i64.wrap (j_1-1)<(o0_2.length:Int)) <|
       chk (0≤j_1∧j_1<(o0_2.length:Int)) <|
       chk (0≤j_1∧j_1<(o0_2.length:Int)) <|
       chk (0≤IntKind.i64.wrap (j_1-1)∧IntKind.i64.wrap (j_1-1)<((List.set o0_2 j_1.toNat (api_Setting.mk ((o0_2.getD ((IntKind.i64.wrap (j_1-1)).toNat) (api_Setting.mk [] [])).Key) ((o0_2.getD ((IntKind.i64.wrap (j_1-1)).toNat) (api_Setting.mk [] [])).Value))).length:Int)) <|
       nx_12 (IntKind.i64.wrap (j_1-1),List.set (List.set o0_2 j_1.toNat (api_Setting.mk ((o0_2.getD ((IntKind.i64.wrap (j_1-1)).toNat) (api_Setting.mk [] [])).Key) ((o0_2.getD ((IntKind.i64.wrap (j_1-1)).toNat) (api_Setting.mk [] [])).Value))) ((IntKind.i64.wrap (j_1-1)).toNat) (api_Setting.mk ((o0_2.getD j_1.toNat (api_Setting.mk [] [])).Key) ((o0_2.getD j_1.toNat (api_Setting.mk [] [])).Value)))
      else
      k_13 (j_1,o0_2)) (i_4,o0_5) (fun s=>match s with
     |(j_1,o0_2) =>
      k_11 o0_2)
   else
   k_9 (i_4,o0_5)) (IntKind.i64.wrap (a_3+1),o0_7) (fun s=>match s with
  |(i_4,o0_5) =>
   some o0_5)
noncomputable def zae(n_3:Int)(o0_6:List api_Setting):Option (List api_Setting) :=
 jp (S:=Int×List api_Setting) (fun s=>match s with
  |(a_7,o0_8) =>
   call (zk a_7 n_3 o0_8) fun r_9 =>
   loopN zib (fun blockSize_1 nx_10 k_11 =>
    bif decide (blockSize_1<n_3)then
     jp (S:=Unit) (fun _ =>
      bif decide ((IntKind.i64.wrap (0+blockSize_1))<n_3)then
       none
      else
      nx_10 (IntKind.i64.wrap (blockSize_1*2))) fun k_12 =>
     loopN zib (fun s nx_18 k_13 =>
      bif decide ((IntKind.i64.wrap (2*blockSize_1))≤n_3)then
       none
      else
      k_13 ()) () (fun _ =>
      k_12 ())
    else
    k_11 blockSize_1) 20 (fun blockSize_1 =>
    some r_9)) fun k_14 =>
 loopN zib (fun s nx_15 k_16 =>
  match s with
  |(a_4,b_2,o0_5) =>
   bif decide (b_2≤n_3)then
    call (zk a_4 b_2 o0_5) fun r_17 =>
    nx_15 (b_2,IntKind.i64.wrap (b_2+20),r_17)
   else
   k_16 (a_4,b_2,o0_5)) (0,20,o0_6) (fun s=>match s with
  |(a_4,b_2,o0_5) =>
   k_14 (a_4,o0_5))
noncomputable def zw(o0_1:List api_Setting):Option (List api_Setting) :=
 call (zae (o0_1.length:Int) o0_1) fun r_2 =>
 some r_2
noncomputable def zht(a_1:api_Setting)(b_2:api_Setting):Option Bool :=
 some (decide (a_1.Key=b_2.Key))
noncomputable def zz(o0_2:List api_Setting):Option (Nat×Nat×List api_Setting) :=
 bif decide (((List.take o0_2.length o0_2).length:Int)<2)then
  some (0,o0_2.length,o0_2)
 else
 jp (S:=Unit) (fun _ =>
  some (0,o0_2.length,o0_2)) fun k_9 =>
 loopN zib (fun k_1 nx_10 k_11 =>
  bif decide (k_1<((List.take o0_2.length o0_2).length:Int))then
   jp (S:=Unit) (fun _ =>
    nx_10 (IntKind.i64.wrap (k_1+1))) fun k_12 =>
   chk (0≤k_1∧k_1<(o0_2.length:Int)) <|
   chk (0≤IntKind.i64.wrap (k_1-1)∧IntKind.i64.wrap (k_1-1)<(o0_2.length:Int)) <|
   call (zht (api_Setting.mk ((o0_2.getD (k_1.toNat:Nat) (api_Setting.mk [] [])).Key) ((o0_2.getD (k_1.toNat:Nat) (api_Setting.mk [] [])).Value)) (api_Setting.mk ((o0_2.getD ((IntKind.i64.wrap (k_1-1)).toNat:Nat) (api_Setting.mk [] [])).Key) ((o0_2.getD ((IntKind.i64.wrap (k_1-1)).toNat:Nat) (api_Setting.mk [] [])).Value))) fun r_13 =>
   bif r_13 then
    chk (0≤k_1∧k_1≤(o0_2.length:Int)) <|
    jp (S:=Int×List api_Setting) (fun s=>match s with
     |(k_5,o0_7) =>
      chk (0≤k_5∧k_5≤(o0_2.length:Int)) <|
      chk (0≤k_5∧k_5≤(o0_2.length:Int)) <|
      some (0,k_5.toNat,List.take k_5.toNat o0_7++List.replicate (o0_2.length-k_5.toNat) (api_Setting.mk [] [])++List.drop (k_5.toNat+(o0_2.length-k_5.toNat)) o0_7)) fun k_14 =>
    loopN zib (fun s nx_8 k_15 =>
     match s with
     |(k_6,k2_3,o0_4) =>
      bif decide (k2_3<((List.take (o0_2.length-k_1.toNat) (List.drop k_1.toNat o0_4)).length:Int))then
       chk (0≤k2_3∧k2_3<(o0_2.length-k_1.toNat:Int)) <|
       chk (k_1.toNat+k2_3.toNat<o0_4.length) <|
       chk (0≤IntKind.i64.wrap (k2_3-1)∧IntKind.i64.wrap (k2_3-1)<(o0_2.length-k_1.toNat:Int)) <|
       chk (k_1.toNat+((IntKind.i64.wrap (k2_3-1)).toNat)<o0_4.length) <|
       call (zht (api_Setting.mk ((o0_4.getD (k_1.toNat+k2_3.toNat:Nat) (api_Setting.mk [] [])).Key) ((o0_4.getD (k_1.toNat+k2_3.toNat:Nat) (api_Setting.mk [] [])).Value)) (api_Setting.mk ((o0_4.getD (k_1.toNat+((IntKind.i64.wrap (k2_3-1)).toNat):Nat) (api_Setting.mk [] [])).Key) ((o0_4.getD (k_1.toNat+((IntKind.i64.wrap (k2_3-1)).toNat):Nat) (api_Setting.mk [] [])).Value))) fun r_16 =>
       bif !r_16 then
        chk (0≤k2_3∧k2_3<(o0_2.length-k_1.toNat:Int)) <|
        chk (k_1.toNat+k2_3.toNat<o0_4.length) <|
        chk (0≤k_6∧k_6<(o0_2.length:Int)) <|
        chk (k_6.toNat<o0_4.length) <|
        nx_8 (IntKind.i64.wrap (k_6+1),IntKind.i64.wrap (k2_3+1),List.set o0_4 (k_6.toNat:Nat) (api_Setting.mk ((o0_4.getD (k_1.toNat+k2_3.toNat:Nat) (api_Setting.mk [] [])).Key) ((o0_4.getD (k_1.toNat+k2_3.toNat:Nat) (api_Setting.mk [] [])).Value)))
       else
       nx_8 (k_6,IntKind.i64.wrap (k2_3+1),o0_4)
      else
      k_15 (k_6,k2_3,o0_4)) (k_1,1,o0_2) (fun s=>match s with
     |(k_6,k2_3,o0_4) =>
      k_14 (k_6,o0_4))
   else
   k_12 ()
  else
  k_11 k_1) 1 (fun k_1 =>
  k_9 ())
noncomputable def zbP(m_1:api_Machine):Option ((List (Str×api_File))×(List (Str×Str))×(List (Str×api_Service))×List api_Setting) :=
 jp (S:=(List (Str×api_File))) (fun m1_8 =>
  jp (S:=(List (Str×Str))) (fun m2_9 =>
   jp (S:=(List (Str×api_Service))) (fun m3_10 =>
    some (m1_8,m2_9,m3_10,m_1.Facts)) fun k_11 =>
   forL m_1.Services 0 (fun i_17 s_2 m3_3 nx_12 k_18 =>
    chk ((zcy m3_3 s_2.Name s_2).length≤274877906944) <|
    nx_12 (zcy m3_3 s_2.Name s_2)) [] (fun m3_3 =>
    k_11 m3_3)) fun k_13 =>
  forL m_1.Settings 0 (fun i_19 s_4 m2_5 nx_14 k_20 =>
   chk ((zcy m2_5 s_4.Key s_4.Value).length≤274877906944) <|
   nx_14 (zcy m2_5 s_4.Key s_4.Value)) [] (fun m2_5 =>
   k_13 m2_5)) fun k_15 =>
 forL m_1.Files 0 (fun i_21 f_6 m1_7 nx_16 k_22 =>
  chk ((zcy m1_7 f_6.Path f_6).length≤274877906944) <|
  nx_16 (zcy m1_7 f_6.Path f_6)) [] (fun m1_7 =>
  k_15 m1_7)
noncomputable def zcL(c_1:api_Change):Option Int :=
 jp (S:=Int×Str×Str×Bool×Str×Str×Str×Str×Bool×Bool) (fun s=>match s with
  |(e_3,o1_1_4,o1_2_5,o1_3_6,o1_4_7,o1_5_8,o1_6_9,o1_7_10,o1_8_11,o1_9_12) =>
   call (zfj (!(true&&((decide (o1_1_4=[]))&&((decide (o1_2_5=[]))&&((decide (o1_3_6=false))&&((decide (o1_4_7=[]))&&((decide (o1_5_8=[]))&&((decide (o1_6_9=[]))&&((decide (o1_7_10=[]))&&((decide (o1_8_11=false))&&(decide (o1_9_12=false)))))))))))) 2) fun r_13 =>
   call (zbY [e_3,r_13]) fun r_14 =>
   some r_14) fun k_2 =>
 bif decide (c_1.Kind=1)then
  call (zel c_1.File) fun r_15 =>
  k_2 (r_15,[],[],false,c_1.Setting.Key,c_1.Setting.Value,c_1.Service.Name,c_1.Service.Path,c_1.Service.Auto,c_1.Service.On)
 else
 bif decide (c_1.Kind=2)then
  call (zeY c_1.File.Path) fun r_16 =>
  call (zfj (!r_16) 5) fun r_17 =>
  k_2 (r_17,[],c_1.File.Data,c_1.File.Runs,c_1.Setting.Key,c_1.Setting.Value,c_1.Service.Name,c_1.Service.Path,c_1.Service.Auto,c_1.Service.On)
 else
 bif decide (c_1.Kind=3)then
  call (zca c_1.Setting) fun r_18 =>
  k_2 (r_18,c_1.File.Path,c_1.File.Data,c_1.File.Runs,[],[],c_1.Service.Name,c_1.Service.Path,c_1.Service.Auto,c_1.Service.On)
 else
 bif decide (c_1.Kind=4)then
  call (zeY c_1.Setting.Key) fun r_19 =>
  call (zfj (!r_19) 5) fun r_20 =>
  k_2 (r_20,c_1.File.Path,c_1.File.Data,c_1.File.Runs,[],c_1.Setting.Value,c_1.Service.Name,c_1.Service.Path,c_1.Service.Auto,c_1.Service.On)
 else
 bif decide (c_1.Kind=5)then
  call (zcb c_1.Service) fun r_21 =>
  k_2 (r_21,c_1.File.Path,c_1.File.Data,c_1.File.Runs,c_1.Setting.Key,c_1.Setting.Value,[],[],false,false)
 else
 bif decide (c_1.Kind=6)then
  call (zes c_1.Service.Name) fun r_22 =>
  call (zfj (!r_22) 5) fun r_23 =>
  k_2 (r_23,c_1.File.Path,c_1.File.Data,c_1.File.Runs,c_1.Setting.Key,c_1.Setting.Value,[],c_1.Service.Path,c_1.Service.Auto,c_1.Service.On)
 else
 some 1
noncomputable def zS(s_2:Str)(prefix_1:Str):Option Bool :=
 chk ((decide ((prefix_1.length:Int)≤(s_2.length:Int)))=true→(0≤(prefix_1.length:Int)∧(prefix_1.length:Int)≤(s_2.length:Int))) <|
 some ((decide ((prefix_1.length:Int)≤(s_2.length:Int)))&&(decide ((List.take prefix_1.length s_2)=prefix_1)))
noncomputable def zT(s_1:Str)(prefix_2:Str):Option Bool :=
 call (zS s_1 prefix_2) fun r_3 =>
 some r_3
noncomputable def zgM(path_2:Str)(dir_1:Str):Option Bool :=
 chk ((dir_1++([47]:Str)).length≤274877906944) <|
 call (zT path_2 (dir_1++([47]:Str))) fun r_3 =>
 some r_3
noncomputable def zbX(c_1:api_Change)(o0_0_21:List api_Setting)(m1_2:List (Str×api_File))(m2_3:List (Str×Str))(m3_4:List (Str×api_Service)):Option (Int×(List (Str×api_File))×(List (Str×Str))×(List (Str×api_Service))) :=
 call (zcL c_1) fun r_6 =>
 bif !decide (r_6=0)then
  some (r_6,m1_2,m2_3,m3_4)
 else
 jp (S:=(List (Str×api_File))×(List (Str×Str))×(List (Str×api_Service))) (fun s=>match s with
  |(m1_9,m2_10,m3_11) =>
   some (0,m1_9,m2_10,m3_11)) fun k_5 =>
 bif decide (c_1.Kind=2)then
  zhb (zu m1_2 c_1.File.Path) fun q_12 =>
  bif !q_12.isSome then
   some (10,m1_2,m2_3,m3_4)
  else
  k_5 (zka m1_2 c_1.File.Path,m2_3,m3_4)
 else
 bif decide (c_1.Kind=4)then
  zhb (zu m2_3 c_1.Setting.Key) fun q_13 =>
  bif !q_13.isSome then
   some (10,m1_2,m2_3,m3_4)
  else
  k_5 (m1_2,zka m2_3 c_1.Setting.Key,m3_4)
 else
 bif decide (c_1.Kind=6)then
  zhb (zu m3_4 c_1.Service.Name) fun q_14 =>
  bif !q_14.isSome then
   some (10,m1_2,m2_3,m3_4)
  else
  k_5 (m1_2,m2_3,zka m3_4 c_1.Service.Name)
 else
 bif decide (c_1.Kind=1)then
  jp (S:=Unit) (fun _ =>
   zhb (zu m1_2 c_1.File.Path) fun q_15 =>
   bif ((!q_15.isSome)&&(decide (2000≤(m1_2.length:Int))))then
    some (4,m1_2,m2_3,m3_4)
   else
   chk ((zcy m1_2 c_1.File.Path c_1.File).length≤274877906944) <|
   k_5 (zcy m1_2 c_1.File.Path c_1.File,m2_3,m3_4)) fun k_16 =>
  forM (fun e_7 s nx_17 k_22 =>
   call (zgM e_7.1 c_1.File.Path) fun r_8 =>
   callG (!r_8) (zgM c_1.File.Path e_7.1) false fun r_18 =>
   bif (r_8||r_18)then
    some (11,m1_2,m2_3,m3_4)
   else
   nx_17 ()) m1_2.length m1_2 () (fun _ =>
   k_16 ())
 else
 bif decide (c_1.Kind=3)then
  zhb (zu m2_3 c_1.Setting.Key) fun q_19 =>
  bif ((!q_19.isSome)&&(decide (2000≤(m2_3.length:Int))))then
   some (4,m1_2,m2_3,m3_4)
  else
  chk ((zcy m2_3 c_1.Setting.Key c_1.Setting.Value).length≤274877906944) <|
  k_5 (m1_2,zcy m2_3 c_1.Setting.Key c_1.Setting.Value,m3_4)
 else
 zhb (zu m3_4 c_1.Service.Name) fun q_20 =>
 bif ((!q_20.isSome)&&(decide (100≤(m3_4.length:Int))))then
  some (4,m1_2,m2_3,m3_4)
 else
 chk ((zcy m3_4 c_1.Service.Name c_1.Service).length≤274877906944) <|
 k_5 (m1_2,m2_3,zcy m3_4 c_1.Service.Name c_1.Service)
noncomputable def zdx(o0:List Str):Option (List Str):=some (sortS o0)
noncomputable def zaa(m0_2:List (Str×api_File)):Option (List Str) :=
 jp (S:=List Str) (fun o2_4 =>
  call (zdx o2_4) fun r_5 =>
  some r_5) fun k_6 =>
 forM (fun e_3 o2_1 nx_7 k_8 =>
  chk ((o2_1++[e_3.1]).length≤274877906944) <|
  nx_7 (o2_1++[e_3.1])) m0_2.length m0_2 [] (fun o2_1 =>
  k_6 o2_1)
noncomputable def zaM(m0_2:List (Str×Str)):Option (List Str) :=
 jp (S:=List Str) (fun o2_4 =>
  call (zdx o2_4) fun r_5 =>
  some r_5) fun k_6 =>
 forM (fun e_3 o2_1 nx_7 k_8 =>
  chk ((o2_1++[e_3.1]).length≤274877906944) <|
  nx_7 (o2_1++[e_3.1])) m0_2.length m0_2 [] (fun o2_1 =>
  k_6 o2_1)
noncomputable def zab(m0_2:List (Str×api_Service)):Option (List Str) :=
 jp (S:=List Str) (fun o2_4 =>
  call (zdx o2_4) fun r_5 =>
  some r_5) fun k_6 =>
 forM (fun e_3 o2_1 nx_7 k_8 =>
  chk ((o2_1++[e_3.1]).length≤274877906944) <|
  nx_7 (o2_1++[e_3.1])) m0_2.length m0_2 [] (fun o2_1 =>
  k_6 o2_1)
noncomputable def zW(o0_0_11:List api_Setting)(m1_5:List (Str×api_File))(m2_6:List (Str×Str))(m3_7:List (Str×api_Service)):Option api_Machine :=
 call (zN o0_0_11) fun r_12 =>
 jp (S:=List api_File) (fun o6_13 =>
  jp (S:=List api_Setting) (fun o7_14 =>
   jp (S:=List api_Service) (fun o8_15 =>
    some (api_Machine.mk r_12 o6_13 o7_14 o8_15)) fun k_16 =>
   call (zab m3_7) fun r_17 =>
   forL r_17 0 (fun i_27 s_18 o8_1 nx_19 k_28 =>
    zhb (zu m3_7 s_18) fun q_8 =>
    chk ((o8_1++[(q_8.getD (api_Service.mk [] [] false false))]).length≤274877906944) <|
    nx_19 (o8_1++[(q_8.getD (api_Service.mk [] [] false false))])) [] (fun o8_1 =>
    k_16 o8_1)) fun k_20 =>
  call (zaM m2_6) fun r_21 =>
  forL r_21 0 (fun i_29 s_4 o7_2 nx_22 k_30 =>
   zhb (zu m2_6 s_4) fun q_9 =>
   chk ((o7_2++[(api_Setting.mk s_4 (q_9.getD []))]).length≤274877906944) <|
   nx_22 (o7_2++[(api_Setting.mk s_4 (q_9.getD []))])) [] (fun o7_2 =>
   k_20 o7_2)) fun k_23 =>
 call (zaa m1_5) fun r_24 =>
 forL r_24 0 (fun i_31 s_25 o6_3 nx_26 k_32 =>
  zhb (zu m1_5 s_25) fun q_10 =>
  chk ((o6_3++[(q_10.getD (api_File.mk [] [] false))]).length≤274877906944) <|
  nx_26 (o6_3++[(q_10.getD (api_File.mk [] [] false))])) [] (fun o6_3 =>
  k_23 o6_3)
noncomputable def zfI(m_6:api_Machine)(l_8:List api_Change):Option (api_Machine×Int) :=
 call (zkd m_6) fun r_7 =>
 bif !decide (r_7=0)then
  some ((api_Machine.mk [] [] [] []),r_7)
 else
 call (zbP m_6) fun r_1 =>
 jp (S:=(List (Str×api_File))×(List (Str×Str))×(List (Str×api_Service))) (fun s=>match s with
  |(m3_9,m4_10,m5_11) =>
   call (zW r_1.2.2.2 m3_9 m4_10 m5_11) fun r_12 =>
   some (r_12,0)) fun k_13 =>
 forL l_8 0 (fun i_16 c_14 s nx_15 k_17 =>
  match s with
  |(m3_3,m4_4,m5_5) =>
   call (zbX c_14 r_1.2.2.2 m3_3 m4_4 m5_5) fun r_2 =>
   bif !decide (r_2.1=0)then
    some ((api_Machine.mk [] [] [] []),r_2.1)
   else
   nx_15 (r_2.2.1,r_2.2.2.1,r_2.2.2.2)) (r_1.1,r_1.2.1,r_1.2.2.1) (fun s=>match s with
  |(m3_3,m4_4,m5_5) =>
   k_13 (m3_3,m4_4,m5_5))
noncomputable def zkz(c_3:api_Change)(o0_0_2:List api_Setting):Option (List api_Setting×List api_File×List api_Setting×List api_Service) :=
 call (zfI (api_Machine.mk o0_0_2 [] [] []) [c_3]) fun r_1 =>
 bif decide (r_1.2=0)then
  some (r_1.1.Facts,r_1.1.Files,r_1.1.Settings,r_1.1.Services)
 else
 some (o0_0_2,[],[],[])
noncomputable def zbS(c_6:api_Change)(o0_0_2:List api_Setting)(o0_1_3:List api_File)(o0_2_4:List api_Setting)(o0_3_5:List api_Service):Option (List api_Setting×List api_File×List api_Setting×List api_Service) :=
 call (zfI (api_Machine.mk o0_0_2 o0_1_3 o0_2_4 o0_3_5) [c_6]) fun r_1 =>
 bif decide (r_1.2=0)then
  some (r_1.1.Facts,r_1.1.Files,r_1.1.Settings,r_1.1.Services)
 else
 some (o0_0_2,o0_1_3,o0_2_4,o0_3_5)
noncomputable def zmx(m_1:api_Machine):Option api_Machine :=
 jp (S:=List api_Setting) (fun o3_23 =>
  call (zw o3_23) fun r_24 =>
  call (zz r_24) fun r_8 =>
  jp (S:=List api_Setting×List api_File×List api_Setting×List api_Service) (fun s=>match s with
   |(o2_0_25,o2_1_26,o2_2_27,o2_3_28) =>
    jp (S:=List api_Setting×List api_File×List api_Setting×List api_Service) (fun s=>match s with
     |(o2_0_29,o2_1_30,o2_2_31,o2_3_32) =>
      jp (S:=List api_Setting×List api_File×List api_Setting×List api_Service) (fun s=>match s with
       |(o2_0_33,o2_1_34,o2_2_35,o2_3_36) =>
        some (api_Machine.mk o2_0_33 o2_1_34 o2_2_35 o2_3_36)) fun k_37 =>
      chk (0≤min (m_1.Services.length:Int) 40∧min (m_1.Services.length:Int) 40≤(m_1.Services.length:Int)) <|
      forL (List.take ((min (m_1.Services.length:Int) 40).toNat) m_1.Services) 0 (fun i_47 s_38 s nx_39 k_48 =>
       match s with
       |(o2_0_9,o2_1_10,o2_2_11,o2_3_12) =>
        call (zbS (api_Change.mk 5 (api_File.mk [] [] false) (api_Setting.mk [] []) s_38) o2_0_9 o2_1_10 o2_2_11 o2_3_12) fun r_4 =>
        nx_39 (r_4.1,r_4.2.1,r_4.2.2.1,r_4.2.2.2)) (o2_0_29,o2_1_30,o2_2_31,o2_3_32) (fun s=>match s with
       |(o2_0_9,o2_1_10,o2_2_11,o2_3_12) =>
        k_37 (o2_0_9,o2_1_10,o2_2_11,o2_3_12))) fun k_40 =>
    chk (0≤min (m_1.Settings.length:Int) 40∧min (m_1.Settings.length:Int) 40≤(m_1.Settings.length:Int)) <|
    forL (List.take ((min (m_1.Settings.length:Int) 40).toNat) m_1.Settings) 0 (fun i_49 s_41 s nx_42 k_50 =>
     match s with
     |(o2_0_13,o2_1_14,o2_2_15,o2_3_16) =>
      call (zbS (api_Change.mk 3 (api_File.mk [] [] false) s_41 (api_Service.mk [] [] false false)) o2_0_13 o2_1_14 o2_2_15 o2_3_16) fun r_5 =>
      nx_42 (r_5.1,r_5.2.1,r_5.2.2.1,r_5.2.2.2)) (o2_0_25,o2_1_26,o2_2_27,o2_3_28) (fun s=>match s with
     |(o2_0_13,o2_1_14,o2_2_15,o2_3_16) =>
      k_40 (o2_0_13,o2_1_14,o2_2_15,o2_3_16))) fun k_43 =>
  chk (0≤min (m_1.Files.length:Int) 40∧min (m_1.Files.length:Int) 40≤(m_1.Files.length:Int)) <|
  forL (List.take ((min (m_1.Files.length:Int) 40).toNat) m_1.Files) 0 (fun i_51 f_2 s nx_44 k_52 =>
   match s with
   |(o2_0_17,o2_1_18,o2_2_19,o2_3_20) =>
    chk (0≤min (f_2.Data.length:Int) 3000∧min (f_2.Data.length:Int) 3000≤(f_2.Data.length:Int)) <|
    call (zbS (api_Change.mk 1 (api_File.mk f_2.Path (List.take ((min (f_2.Data.length:Int) 3000).toNat) f_2.Data) f_2.Runs) (api_Setting.mk [] []) (api_Service.mk [] [] false false)) o2_0_17 o2_1_18 o2_2_19 o2_3_20) fun r_6 =>
    nx_44 (r_6.1,r_6.2.1,r_6.2.2.1,r_6.2.2.2)) (List.take r_8.2.1 (List.drop r_8.1 r_8.2.2),[],[],[]) (fun s=>match s with
   |(o2_0_17,o2_1_18,o2_2_19,o2_3_20) =>
    k_43 (o2_0_17,o2_1_18,o2_2_19,o2_3_20))) fun k_45 =>
 forL m_1.Facts 0 (fun i_53 s_7 o3_3 nx_21 k_54 =>
  call (zes s_7.Key) fun r_22 =>
  callG r_22 (zfl s_7.Value) false fun r_46 =>
  bif ((r_22&&r_46)&&(decide ((o3_3.length:Int)<20)))then
   chk ((o3_3++[s_7]).length≤274877906944) <|
   nx_21 (o3_3++[s_7])
  else
  nx_21 o3_3) [] (fun o3_3 =>
  k_45 o3_3)
noncomputable def zhq(m_1:api_Machine):Option (List api_Setting×List api_File×List api_Setting×List api_Service×(List (Str×api_File))×(List (Str×Str))×(List (Str×api_Service))×List api_Setting×Bool×Int×Bool×Bool×Int) :=
 call (zbP m_1) fun r_2 =>
 some (m_1.Facts,m_1.Files,m_1.Settings,m_1.Services,r_2.1,r_2.2.1,r_2.2.2.1,r_2.2.2.2,false,0,false,false,0)
noncomputable def zb9(c_1:api_Change):Option Int :=
 jp (S:=Int×Str×Str×Bool×Str×Str×Str×Str×Bool×Bool) (fun s=>match s with
  |(e_3,o1_1_4,o1_2_5,o1_3_6,o1_4_7,o1_5_8,o1_6_9,o1_7_10,o1_8_11,o1_9_12) =>
   bif ((decide (e_3=0))&&(!((decide (c_1.Kind=c_1.Kind))&&((decide (c_1.File.Path=o1_1_4))&&((decide (c_1.File.Data=o1_2_5))&&((decide (c_1.File.Runs=o1_3_6))&&((decide (c_1.Setting.Key=o1_4_7))&&((decide (c_1.Setting.Value=o1_5_8))&&((decide (c_1.Service.Name=o1_6_9))&&((decide (c_1.Service.Path=o1_7_10))&&((decide (c_1.Service.Auto=o1_8_11))&&(decide (c_1.Service.On=o1_9_12)))))))))))))then
    some 2
   else
   some e_3) fun k_2 =>
 bif decide (c_1.Kind=1)then
  call (za5 c_1.File) fun r_13 =>
  k_2 (r_13,c_1.File.Path,c_1.File.Data,c_1.File.Runs,[],[],[],[],false,false)
 else
 bif decide (c_1.Kind=2)then
  call (za5 (api_File.mk c_1.File.Path [] false)) fun r_14 =>
  k_2 (r_14,c_1.File.Path,[],false,[],[],[],[],false,false)
 else
 bif decide (c_1.Kind=3)then
  call (zah c_1.Setting) fun r_15 =>
  k_2 (r_15,[],[],false,c_1.Setting.Key,c_1.Setting.Value,[],[],false,false)
 else
 bif decide (c_1.Kind=4)then
  call (zah (api_Setting.mk c_1.Setting.Key [])) fun r_16 =>
  k_2 (r_16,[],[],false,c_1.Setting.Key,[],[],[],false,false)
 else
 bif decide (c_1.Kind=5)then
  call (zbb c_1.Service) fun r_17 =>
  k_2 (r_17,[],[],false,[],[],c_1.Service.Name,c_1.Service.Path,c_1.Service.Auto,c_1.Service.On)
 else
 bif decide (c_1.Kind=6)then
  call (zbG c_1.Service.Name) fun r_18 =>
  bif !r_18 then
   k_2 (5,[],[],false,[],[],c_1.Service.Name,[],false,false)
  else
  k_2 (0,[],[],false,[],[],c_1.Service.Name,[],false,false)
 else
 some 1
noncomputable def zdp(c_1:api_Change)(o0_1_7:Bool)(o0_2_4:Int)(o0_3_12:Bool)(o0_4_8:Bool)(o0_5_5:Int)(o1_0_6:List api_Setting)(m2_9:List (Str×api_File))(m3_10:List (Str×Str))(m4_11:List (Str×api_Service)):Option (Int×Bool×Bool×Int×Int×List api_Setting×(List (Str×api_File))×(List (Str×Str))×(List (Str×api_Service))) :=
 bif o0_1_7 then
  some (12,o0_1_7,o0_4_8,o0_5_5,o0_2_4,o1_0_6,m2_9,m3_10,m4_11)
 else
 call (zW o1_0_6 m2_9 m3_10 m4_11) fun r_13 =>
 call (zbX c_1 o1_0_6 m2_9 m3_10 m4_11) fun r_3 =>
 bif !decide (r_3.1=0)then
  some (r_3.1,o0_1_7,o0_4_8,o0_5_5,o0_2_4,o1_0_6,r_3.2.1,r_3.2.2.1,r_3.2.2.2)
 else
 bif (o0_4_8&&(decide (o0_2_4=0)))then
  call (zbP r_13) fun r_2 =>
  bif (o0_3_12&&(decide (c_1.Kind=1)))then
   chk (¬ 2=0) <|
   chk (0≤IntKind.i64.wrap (Int.tdiv (c_1.File.Data.length:Int) 2)∧IntKind.i64.wrap (Int.tdiv (c_1.File.Data.length:Int) 2)≤(c_1.File.Data.length:Int)) <|
   chk ((zcy r_2.1 c_1.File.Path (api_File.mk c_1.File.Path (List.take ((IntKind.i64.wrap (Int.tdiv (c_1.File.Data.length:Int) 2)).toNat) c_1.File.Data) c_1.File.Runs)).length≤274877906944) <|
   some (18,true,false,IntKind.i64.wrap (o0_5_5+1),o0_2_4,r_2.2.2.2,zcy r_2.1 c_1.File.Path (api_File.mk c_1.File.Path (List.take ((IntKind.i64.wrap (Int.tdiv (c_1.File.Data.length:Int) 2)).toNat) c_1.File.Data) c_1.File.Runs),r_2.2.1,r_2.2.2.1)
  else
  some (18,true,false,o0_5_5,o0_2_4,r_2.2.2.2,r_2.1,r_2.2.1,r_2.2.2.1)
 else
 some (0,o0_1_7,o0_4_8,IntKind.i64.wrap (o0_5_5+1),IntKind.i64.wrap (o0_2_4-1),o1_0_6,r_3.2.1,r_3.2.2.1,r_3.2.2.2)
noncomputable def zdT(after_1:Int)(torn_5:Bool)(o0_1_6:Bool)(o0_2_2:Int)(o0_3_3:Bool)(o0_4_4:Bool)(o0_5_7:Int)(o1_0_8:List api_Setting)(m2_9:List (Str×api_File))(m3_10:List (Str×Str))(m4_11:List (Str×api_Service)):Option (Int×Int×Bool×Bool) :=
 bif ((decide (after_1<0))||(decide (1000000<after_1)))then
  some (3,o0_2_2,o0_3_3,o0_4_4)
 else
 bif o0_1_6 then
  some (12,o0_2_2,o0_3_3,o0_4_4)
 else
 some (0,after_1,torn_5,true)
noncomputable def zbQ(o0_1_1:Bool)(o0_2_7:Int)(o0_3_8:Bool)(o0_4_9:Bool)(o0_5_10:Int)(o1_0_2:List api_Setting)(m2_3:List (Str×api_File))(m3_4:List (Str×Str))(m4_5:List (Str×api_Service)):Option (api_Machine×Int) :=
 bif o0_1_1 then
  some ((api_Machine.mk [] [] [] []),12)
 else
 call (zW o1_0_2 m2_3 m3_4 m4_5) fun r_6 =>
 some (r_6,0)
noncomputable def zc2(o0_1_6:Bool)(o0_2_7:Int)(o0_3_8:Bool)(o0_4_9:Bool)(o0_5_10:Int)(o1_0_1:List api_Setting)(m2_2:List (Str×api_File))(m3_3:List (Str×Str))(m4_4:List (Str×api_Service)):Option api_Machine :=
 call (zW o1_0_1 m2_2 m3_3 m4_4) fun r_5 =>
 some r_5
noncomputable def zK(s_1:List api_Change):Option (List api_Change) :=
 anyOf (fun b_2:Bool=>b_2=true→s_1=[]) fun b_2 =>
 bif b_2 then
  some []
 else
 chk (([]++s_1).length≤274877906944) <|
 some ([]++s_1)
noncomputable def zeG(p_1:Str):Option Bool :=
 call (zgM p_1 ([115,116,97,103,101]:Str)) fun r_2 =>
 some r_2
noncomputable def zkc(m_5:api_Machine):Option api_Machine :=
 call (zbP m_5) fun r_1 =>
 jp (S:=(List (Str×api_File))) (fun m3_6 =>
  call (zW r_1.2.2.2 m3_6 r_1.2.1 r_1.2.2.1) fun r_7 =>
  some r_7) fun k_8 =>
 chk ((List.map (fun p=>p.1) r_1.1).Nodup) <|
 forM (fun e_3 m3_2 nx_4 k_10 =>
  call (zeG e_3.1) fun r_9 =>
  bif r_9 then
   nx_4 (zka m3_2 e_3.1)
  else
  nx_4 m3_2) r_1.1.length r_1.1 r_1.1 (fun m3_2 =>
  k_8 m3_2)
noncomputable def zhp(c_1:api_Change):Option Str :=
 jp (S:=Bool) (fun t5_4 =>
  bif t5_4 then
   chk ((([102,105,108,101,32]:Str)++c_1.File.Path).length≤274877906944) <|
   some (([102,105,108,101,32]:Str)++c_1.File.Path)
  else
  jp (S:=Bool) (fun t12_5 =>
   bif t12_5 then
    chk ((([115,101,116,116,105,110,103,32]:Str)++c_1.Setting.Key).length≤274877906944) <|
    some (([115,101,116,116,105,110,103,32]:Str)++c_1.Setting.Key)
   else
   chk ((([115,101,114,118,105,99,101,32]:Str)++c_1.Service.Name).length≤274877906944) <|
   some (([115,101,114,118,105,99,101,32]:Str)++c_1.Service.Name)) fun k_2 =>
  bif decide (c_1.Kind=3)then
   k_2 (decide (c_1.Kind=3))
  else
  k_2 (decide (c_1.Kind=4))) fun k_3 =>
 bif decide (c_1.Kind=1)then
  k_3 (decide (c_1.Kind=1))
 else
 k_3 (decide (c_1.Kind=2))
noncomputable def zbg(m_4:api_Machine)(l_2:List api_Change):Option Int :=
 call (zkd m_4) fun r_5 =>
 bif !decide (r_5=0)then
  some r_5
 else
 call (zbP m_4) fun r_9 =>
 zhb (zu r_9.1 ([115,116,97,103,101]:Str)) fun q_10 =>
 bif q_10.isSome then
  some 11
 else
 jp (S:=Unit) (fun _ =>
  call (zkc m_4) fun r_11 =>
  call (zfI r_11 l_2) fun r_6 =>
  bif !decide (r_6.2=0)then
   some r_6.2
  else
  bif decide ((l_2.length:Int)=0)then
   some 9
  else
  jp (S:=Unit) (fun _ =>
   some 0) fun k_12 =>
  forL l_2 0 (fun i_19 c_7 m2_3 nx_13 k_20 =>
   call (zhp c_7) fun r_14 =>
   zhb (zu m2_3 r_14) fun q_15 =>
   bif (q_15.getD false)then
    some 6
   else
   call (zhp c_7) fun r_8 =>
   chk ((zcy m2_3 r_8 true).length≤274877906944) <|
   nx_13 (zcy m2_3 r_8 true)) [] (fun m2_3 =>
   k_12 ())) fun k_16 =>
 forL l_2 0 (fun i_21 c_1 s nx_17 k_22 =>
  callG (((decide (c_1.Kind=1))||(decide (c_1.Kind=2)))&&(!(decide (c_1.File.Path=([115,116,97,103,101]:Str))))) (zeG c_1.File.Path) false fun r_18 =>
  bif (((decide (c_1.Kind=1))||(decide (c_1.Kind=2)))&&((decide (c_1.File.Path=([115,116,97,103,101]:Str)))||r_18))then
   some 17
  else
  nx_17 ()) () (fun _ =>
  k_16 ())
noncomputable def zgi(m_6:api_Machine)(l_1:List api_Change)(all_7:Bool):Option (List api_Change) :=
 bif all_7 then
  some l_1
 else
 jp (S:=List api_Change) (fun o1_8 =>
  some o1_8) fun k_9 =>
 chk (0≤min (l_1.length:Int) 12∧min (l_1.length:Int) 12≤(l_1.length:Int)) <|
 forL (List.take ((min (l_1.length:Int) 12).toNat) l_1) 0 (fun i_11 c_3 o1_2 nx_4 k_12 =>
  call (zK o1_2) fun r_5 =>
  chk ((r_5++[c_3]).length≤274877906944) <|
  call (zbg m_6 (r_5++[c_3])) fun r_10 =>
  bif decide (r_10=0)then
   chk ((o1_2++[c_3]).length≤274877906944) <|
   nx_4 (o1_2++[c_3])
  else
  nx_4 o1_2) [] (fun o1_2 =>
  k_9 o1_2)
noncomputable def zba(f_1:api_File)(o0_0_2:Str):Option Bool :=
 some (decide (f_1.Path=o0_0_2))
noncomputable def z7(s_1:List api_File)(o0_0_2:Str):Option Int :=
 jp (S:=Unit) (fun _ =>
  some (-1)) fun k_3 =>
 forL s_1 0 (fun i_4 f_5 s nx_6 k_8 =>
  call (zba f_5 o0_0_2) fun r_7 =>
  bif r_7 then
   some (i_4:Int)
  else
  nx_6 ()) () (fun _ =>
  k_3 ())
noncomputable def zde(m_1:api_Machine)(path_3:Str):Option (api_File×Bool) :=
 call (z7 m_1.Files path_3) fun r_2 =>
 bif decide (r_2<0)then
  some ((api_File.mk [] [] false),false)
 else
 idx m_1.Files r_2 fun f_4 =>
 some (f_4,true)
noncomputable def zaT(s_2:Str)(sep_1:Str):Option (List Str) :=
 call (zaK s_2 sep_1 (sep_1.length:Int) (-1)) fun r_3 =>
 some r_3
noncomputable def zaq(s_1:Str)(prefix_2:Str):Option (Str×Bool) :=
 call (zS s_1 prefix_2) fun r_3 =>
 bif !r_3 then
  some (s_1,false)
 else
 chk (0≤(prefix_2.length:Int)∧(prefix_2.length:Int)≤(s_1.length:Int)) <|
 some (List.drop prefix_2.length s_1,true)
noncomputable def zay(s_2:Str)(prefix_3:Str):Option (Str×Bool) :=
 call (zaq s_2 prefix_3) fun r_1 =>
 some (r_1.1,r_1.2)
noncomputable def zao(s_1:Str)(suffix_2:Str):Option Bool :=
 chk ((decide ((suffix_2.length:Int)≤(s_1.length:Int)))=true→(0≤IntKind.i64.wrap ((s_1.length:Int)-(suffix_2.length:Int))∧IntKind.i64.wrap ((s_1.length:Int)-(suffix_2.length:Int))≤(s_1.length:Int))) <|
 some ((decide ((suffix_2.length:Int)≤(s_1.length:Int)))&&(decide ((List.drop ((IntKind.i64.wrap ((s_1.length:Int)-(suffix_2.length:Int))).toNat) s_1)=suffix_2)))
noncomputable def zap(s_1:Str)(suffix_2:Str):Option (Str×Bool) :=
 call (zao s_1 suffix_2) fun r_3 =>
 bif !r_3 then
  some (s_1,false)
 else
 chk (0≤IntKind.i64.wrap ((s_1.length:Int)-(suffix_2.length:Int))∧IntKind.i64.wrap ((s_1.length:Int)-(suffix_2.length:Int))≤(s_1.length:Int)) <|
 some (List.take ((IntKind.i64.wrap ((s_1.length:Int)-(suffix_2.length:Int))).toNat) s_1,true)
noncomputable def zbH(s_2:Str)(suffix_3:Str):Option (Str×Bool) :=
 call (zap s_2 suffix_3) fun r_1 =>
 some (r_1.1,r_1.2)
noncomputable def zE(word_2:Str)(o0_0_1:List Str)(o0_1_5:Bool):Option (Str×Bool×List Str) :=
 bif (o0_1_5||(decide ((o0_0_1.length:Int)=0)))then
  some ([],true,o0_0_1)
 else
 idx o0_0_1 0 fun s_6 =>
 chk ((word_2++([32]:Str)).length≤274877906944) <|
 call (zay s_6 (word_2++([32]:Str))) fun r_3 =>
 call (zbH r_3.1 ([10]:Str)) fun r_4 =>
 chk (0≤1∧1≤(o0_0_1.length:Int)) <|
 some (r_4.1,((!r_3.2)||(!r_4.2)),List.drop 1 o0_0_1)
noncomputable def zev(s:Str):Option (Int×Bool):=some (zek s,atoiE s)
noncomputable def zew(s_1:Str):Option (Int×Bool) :=
 chk ((!((decide (s_1=[]))||(decide (9<(s_1.length:Int)))))=true→(0≤0∧0<(s_1.length:Int))) <|
 bif (((decide (s_1=[]))||(decide (9<(s_1.length:Int))))||((decide (((s_1.getD 0 0).toNat:Int)=48))&&(!decide (s_1=([48]:Str)))))then
  some (0,false)
 else
 jp (S:=Unit) (fun _ =>
  call (zev s_1) fun r_2 =>
  some (r_2.1,r_2.2)) fun k_4 =>
 forL s_1 0 (fun i_6 c_3 s nx_5 k_7 =>
  bif ((decide ((c_3.toNat:Int)<48))||(decide (57<(c_3.toNat:Int))))then
   some (0,false)
  else
  nx_5 ()) () (fun _ =>
  k_4 ())
noncomputable def zaW(n:Int)(o0:Str):Option Unit:=chk (0≤n∧n≤274877906944) <| some ()
noncomputable def zci(o1_1:Str):Option Unit :=
 some ()
noncomputable def zch(o1_1:Str):Option Unit :=
 some ()
noncomputable def zaC(o0:Str):Option Unit:=some ()
noncomputable def zi(s_1:Str)(o1_2:Str):Option (Int×Str) :=
 call (zaC o1_2) fun r_3 =>
 chk ((o1_2++s_1).length≤274877906944) <|
 some ((s_1.length:Int),o1_2++s_1)
noncomputable def zC(o1_1:Str):Option Str :=
 some o1_1
noncomputable def zbk(elems_1:List Str)(sep_2:Str):Option Str :=
 bif decide ((elems_1.length:Int)=0)then
  some []
 else
 bif decide ((elems_1.length:Int)=1)then
  idx elems_1 0 fun s_7 =>
  some s_7
 else
 jp (S:=Int) (fun n_8 =>
  jp (S:=Int) (fun n_9 =>
   call (zaW n_9 []) fun r_21 =>
   idx elems_1 0 fun s_10 =>
   call (zi s_10 []) fun r_11 =>
   jp (S:=Str) (fun o1_12 =>
    call (zC o1_12) fun r_13 =>
    some r_13) fun k_14 =>
   chk (0≤1∧1≤(elems_1.length:Int)) <|
   forL (List.drop 1 elems_1) 0 (fun i_22 s_15 o1_4 nx_16 k_23 =>
    call (zi sep_2 o1_4) fun r_17 =>
    call (zi s_15 r_17.2) fun r_18 =>
    nx_16 r_18.2) r_11.2 (fun o1_4 =>
    k_14 o1_4)) fun k_19 =>
  forL elems_1 0 (fun i_24 s_5 n_3 nx_20 k_25 =>
   bif decide ((IntKind.i64.wrap (9223372036854775807-n_3))<(s_5.length:Int))then
    none
   else
   nx_20 (IntKind.i64.wrap (n_3+(s_5.length:Int)))) n_8 (fun n_3 =>
   k_19 n_3)) fun k_6 =>
 bif decide (0<(sep_2.length:Int))then
  chk (¬ (IntKind.i64.wrap ((elems_1.length:Int)-1))=0) <|
  bif decide ((IntKind.i64.wrap (Int.tdiv 9223372036854775807 (IntKind.i64.wrap ((elems_1.length:Int)-1))))≤(sep_2.length:Int))then
   none
  else
  k_6 (IntKind.i64.wrap (0+(IntKind.i64.wrap ((sep_2.length:Int)*(IntKind.i64.wrap ((elems_1.length:Int)-1))))))
 else
 k_6 0
noncomputable def zaU(s_2:Str)(sep_3:Str):Option (Str×Str×Bool) :=
 call (zac s_2 sep_3) fun r_1 =>
 bif decide (0≤r_1)then
  chk (0≤r_1∧r_1≤(s_2.length:Int)) <|
  chk (0≤IntKind.i64.wrap (r_1+(sep_3.length:Int))∧IntKind.i64.wrap (r_1+(sep_3.length:Int))≤(s_2.length:Int)) <|
  some (List.take r_1.toNat s_2,List.drop ((IntKind.i64.wrap (r_1+(sep_3.length:Int))).toNat) s_2,true)
 else
 some (s_2,[],false)
noncomputable def zbw(s_2:Str)(sep_3:Str):Option (Str×Str×Bool) :=
 call (zaU s_2 sep_3) fun r_1 =>
 some (r_1.1,r_1.2.1,r_1.2.2)
noncomputable def za9(s_1:Str)(c_2:Int):Option Int :=
 call (zR s_1 c_2) fun r_3 =>
 some r_3
noncomputable def zff(s_1:Str):Option (Int×Int) :=
 bif decide (s_1=[])then
  some (0,0)
 else
 zgR s_1 0 fun c_2 =>
 bif ((decide (c_2=92))||(decide (c_2=34)))then
  some (c_2,1)
 else
 bif decide (c_2=110)then
  some (10,1)
 else
 bif ((!decide (c_2=120))||(decide ((s_1.length:Int)<3)))then
  some (0,0)
 else
 zgR s_1 1 fun c_5 =>
 call (za9 ([48,49,50,51,52,53,54,55,56,57,97,98,99,100,101,102]:Str) c_5) fun r_3 =>
 zgR s_1 2 fun c_6 =>
 call (za9 ([48,49,50,51,52,53,54,55,56,57,97,98,99,100,101,102]:Str) c_6) fun r_4 =>
 bif ((decide (r_3<0))||(decide (r_4<0)))then
  some (0,0)
 else
 bif (((decide (32≤(IntKind.u8.wrap (IntKind.i64.wrap ((IntKind.i64.wrap (16*r_3))+r_4)))))&&(decide ((IntKind.u8.wrap (IntKind.i64.wrap ((IntKind.i64.wrap (16*r_3))+r_4)))≤126)))||(decide ((IntKind.u8.wrap (IntKind.i64.wrap ((IntKind.i64.wrap (16*r_3))+r_4)))=10)))then
  some (0,0)
 else
 some (IntKind.u8.wrap (IntKind.i64.wrap ((IntKind.i64.wrap (16*r_3))+r_4)),3)
noncomputable def zdm(s_1:Str):Option (Str×Int) :=
 chk ((!(decide ((s_1.length:Int)<2)))=true→(0≤0∧0<(s_1.length:Int))) <|
 chk ((!((decide ((s_1.length:Int)<2))||(!decide (((s_1.getD 0 0).toNat:Int)=34))))=true→(0≤IntKind.i64.wrap ((s_1.length:Int)-1)∧IntKind.i64.wrap ((s_1.length:Int)-1)<(s_1.length:Int))) <|
 bif (((decide ((s_1.length:Int)<2))||(!decide (((s_1.getD 0 0).toNat:Int)=34)))||(!decide (((s_1.getD ((IntKind.i64.wrap ((s_1.length:Int)-1)).toNat) 0).toNat:Int)=34)))then
  some ([],8)
 else
 chk (0≤1∧1≤(s_1.length:Int)∧0≤IntKind.i64.wrap ((s_1.length:Int)-1)∧IntKind.i64.wrap ((s_1.length:Int)-1)≤(s_1.length:Int)∧1≤IntKind.i64.wrap ((s_1.length:Int)-1)) <|
 chk (0≤0∧0≤((List.take ((IntKind.i64.wrap ((s_1.length:Int)-1)).toNat-1) (List.drop 1 s_1)).length:Int)∧((List.take ((IntKind.i64.wrap ((s_1.length:Int)-1)).toNat-1) (List.drop 1 s_1)).length:Int)≤274877906944) <|
 jp (S:=List Int) (fun o0_7 =>
  some (Go.Vc.strOf o0_7,0)) fun k_8 =>
 loopN zib (fun s nx_6 k_9 =>
  match s with
  |(i_2,o0_3) =>
   bif decide (i_2<((List.take ((IntKind.i64.wrap ((s_1.length:Int)-1)).toNat-1) (List.drop 1 s_1)).length:Int))then
    zgR (List.take ((IntKind.i64.wrap ((s_1.length:Int)-1)).toNat-1) (List.drop 1 s_1)) i_2 fun c_4 =>
    bif (((decide (c_4<32))||(decide (126<c_4)))||(decide (c_4=34)))then
     some ([],8)
    else
    bif decide (c_4=92)then
     chk (0≤IntKind.i64.wrap (i_2+1)∧IntKind.i64.wrap (i_2+1)≤((List.take ((IntKind.i64.wrap ((s_1.length:Int)-1)).toNat-1) (List.drop 1 s_1)).length:Int)) <|
     call (zff (List.drop ((IntKind.i64.wrap (i_2+1)).toNat) (List.take ((IntKind.i64.wrap ((s_1.length:Int)-1)).toNat-1) (List.drop 1 s_1)))) fun r_5 =>
     bif decide (r_5.2=0)then
      some ([],8)
     else
     chk ((o0_3++[r_5.1]).length≤274877906944) <|
     nx_6 (IntKind.i64.wrap ((IntKind.i64.wrap (i_2+r_5.2))+1),o0_3++[r_5.1])
    else
    chk ((o0_3++[c_4]).length≤274877906944) <|
    nx_6 (IntKind.i64.wrap (i_2+1),o0_3++[c_4])
   else
   k_9 (i_2,o0_3)) (0,List.replicate 0 0) (fun s=>match s with
  |(i_2,o0_3) =>
   k_8 o0_3)
noncomputable def zf8(s_1:Str):Option Bool :=
 some ((decide (s_1=([48]:Str)))||(decide (s_1=([49]:Str))))
noncomputable def zcI(s_9:Str):Option (disk_line×Bool) :=
 call (zbw s_9 ([32]:Str)) fun r_1 =>
 call (zbw r_1.2.1 ([32]:Str)) fun r_2 =>
 bif ((!r_1.2.2)||(decide (r_2.1=[])))then
  some ((disk_line.mk [] (api_File.mk [] [] false) (api_Setting.mk [] []) (api_Service.mk [] [] false false)),false)
 else
 jp (S:=Bool) (fun t38_10 =>
  bif t38_10 then
   call (zdm r_2.2.1) fun r_6 =>
   some ((disk_line.mk r_1.1 (api_File.mk [] [] false) (api_Setting.mk r_2.1 r_6.1) (api_Service.mk [] [] false false)),(r_2.2.2&&(decide (r_6.2=0))))
  else
  jp (S:=Bool) (fun t56_11 =>
   bif t56_11 then
    call (zdm r_2.2.1) fun r_7 =>
    some ((disk_line.mk r_1.1 (api_File.mk r_2.1 r_7.1 ((decide (r_1.1=([114,117,110]:Str)))||(decide (r_1.1=([112,117,116,114,117,110]:Str))))) (api_Setting.mk [] []) (api_Service.mk [] [] false false)),(r_2.2.2&&(decide (r_7.2=0))))
   else
   bif decide (r_1.1=([115,101,114,118,105,99,101]:Str))then
    call (za0 r_2.2.1 ([32]:Str)) fun r_3 =>
    chk ((!((!r_2.2.2)||(!decide ((r_3.length:Int)=3))))=true→(0≤0∧0<(r_3.length:Int))) <|
    chk ((!(((!r_2.2.2)||(!decide ((r_3.length:Int)=3)))||(decide ((r_3.getD 0 [])=[]))))=true→(0≤1∧1<(r_3.length:Int))) <|
    callG (!(((!r_2.2.2)||(!decide ((r_3.length:Int)=3)))||(decide ((r_3.getD 0 [])=[])))) (zf8 (r_3.getD 1 [])) false fun r_5 =>
    chk ((!((((!r_2.2.2)||(!decide ((r_3.length:Int)=3)))||(decide ((r_3.getD 0 [])=[])))||(!r_5)))=true→(0≤2∧2<(r_3.length:Int))) <|
    callG (!((((!r_2.2.2)||(!decide ((r_3.length:Int)=3)))||(decide ((r_3.getD 0 [])=[])))||(!r_5))) (zf8 (r_3.getD 2 [])) false fun r_12 =>
    bif (((((!r_2.2.2)||(!decide ((r_3.length:Int)=3)))||(decide ((r_3.getD 0 [])=[])))||(!r_5))||(!r_12))then
     some ((disk_line.mk [] (api_File.mk [] [] false) (api_Setting.mk [] []) (api_Service.mk [] [] false false)),false)
    else
    idx r_3 0 fun s_13 =>
    idx r_3 1 fun s_14 =>
    idx r_3 2 fun s_15 =>
    some ((disk_line.mk r_1.1 (api_File.mk [] [] false) (api_Setting.mk [] []) (api_Service.mk r_2.1 s_13 (decide (s_14=([49]:Str))) (decide (s_15=([49]:Str))))),true)
   else
   bif decide (r_1.1=([114,101,109,111,118,101]:Str))then
    some ((disk_line.mk r_1.1 (api_File.mk r_2.1 [] false) (api_Setting.mk [] []) (api_Service.mk [] [] false false)),!r_2.2.2)
   else
   bif decide (r_1.1=([117,110,115,101,116]:Str))then
    some ((disk_line.mk r_1.1 (api_File.mk [] [] false) (api_Setting.mk r_2.1 []) (api_Service.mk [] [] false false)),!r_2.2.2)
   else
   bif decide (r_1.1=([100,114,111,112]:Str))then
    some ((disk_line.mk r_1.1 (api_File.mk [] [] false) (api_Setting.mk [] []) (api_Service.mk r_2.1 [] false false)),!r_2.2.2)
   else
   some ((disk_line.mk r_1.1 (api_File.mk [] [] false) (api_Setting.mk [] []) (api_Service.mk [] [] false false)),!r_2.2.2)) fun k_4 =>
  bif decide (r_1.1=([102,105,108,101]:Str))then
   k_4 (decide (r_1.1=([102,105,108,101]:Str)))
  else
  bif decide (r_1.1=([114,117,110]:Str))then
   k_4 (decide (r_1.1=([114,117,110]:Str)))
  else
  bif decide (r_1.1=([112,117,116]:Str))then
   k_4 (decide (r_1.1=([112,117,116]:Str)))
  else
  k_4 (decide (r_1.1=([112,117,116,114,117,110]:Str)))) fun k_8 =>
 bif decide (r_1.1=([102,97,99,116]:Str))then
  k_8 (decide (r_1.1=([102,97,99,116]:Str)))
 else
 k_8 (decide (r_1.1=([115,101,116]:Str)))
noncomputable def zcv(word_1:Str):Option Int :=
 jp (S:=Bool) (fun t4_3 =>
  bif t4_3 then
   some 1
  else
  bif decide (word_1=([114,101,109,111,118,101]:Str))then
   some 2
  else
  bif decide (word_1=([115,101,116]:Str))then
   some 3
  else
  bif decide (word_1=([117,110,115,101,116]:Str))then
   some 4
  else
  bif decide (word_1=([115,101,114,118,105,99,101]:Str))then
   some 5
  else
  bif decide (word_1=([100,114,111,112]:Str))then
   some 6
  else
  some 0) fun k_2 =>
 bif decide (word_1=([112,117,116]:Str))then
  k_2 (decide (word_1=([112,117,116]:Str)))
 else
 k_2 (decide (word_1=([112,117,116,114,117,110]:Str)))
noncomputable def zas(x_1:disk_line)(o1_3:List api_Change):Option (Bool×List api_Change) :=
 call (zcv x_1.word) fun r_2 =>
 chk ((o1_3++[(api_Change.mk r_2 x_1.file x_1.setting x_1.service)]).length≤274877906944) <|
 some (!decide (r_2=0),o1_3++[(api_Change.mk r_2 x_1.file x_1.setting x_1.service)])
noncomputable def zbi(text_7:Str)(o1_8:List api_Change):Option (Int×List api_Change) :=
 jp (S:=List api_Change) (fun o1_9 =>
  some ((-1),o1_9)) fun k_10 =>
 loopN zib (fun s nx_11 k_12 =>
  match s with
  |(text_2,n_3,o1_1) =>
   bif !decide (text_2=[])then
    call (zbw text_2 ([10]:Str)) fun r_4 =>
    call (zcI r_4.1) fun r_5 =>
    callG (!((!r_4.2.2)||(!r_5.2))) (zas r_5.1 o1_1) (false,o1_1) fun r_6 =>
    bif (((!r_4.2.2)||(!r_5.2))||(!r_6.1))then
     some (n_3,r_6.2)
    else
    nx_11 (r_4.2.1,IntKind.i64.wrap (n_3+1),r_6.2)
   else
   k_12 (text_2,n_3,o1_1)) (text_7,0,o1_8) (fun s=>match s with
  |(text_2,n_3,o1_1) =>
   k_10 o1_1)
noncomputable def zbN(l_2:List api_Change):Option Int :=
 jp (S:=Unit) (fun _ =>
  some 0) fun k_3 =>
 forL l_2 0 (fun i_6 c_4 s nx_5 k_7 =>
  call (zb9 c_4) fun r_1 =>
  bif !decide (r_1=0)then
   some r_1
  else
  nx_5 ()) () (fun _ =>
  k_3 ())
noncomputable def zbO(text_2:Str):Option (List api_Change×Int×Int) :=
 bif decide (4194304<(text_2.length:Int))then
  some ([],0,4)
 else
 call (zbi text_2 []) fun r_1 =>
 bif decide (0≤r_1.1)then
  some ([],r_1.1,8)
 else
 call (zbN r_1.2) fun r_3 =>
 bif !decide (r_3=0)then
  some ([],0,r_3)
 else
 some (r_1.2,0,0)
noncomputable def zl(word_4:Str)(o0_0_5:List Str)(o0_1_6:Bool):Option (List api_Change×Int×List Str×Bool) :=
 call (zE word_4 o0_0_5 o0_1_6) fun r_1 =>
 call (zew r_1.1) fun r_2 =>
 bif ((r_1.2.1||(!r_2.2))||(decide ((r_1.2.2.length:Int)<r_2.1)))then
  some ([],0,r_1.2.2,true)
 else
 chk (0≤r_2.1∧r_2.1≤(r_1.2.2.length:Int)) <|
 call (zbk (List.take r_2.1.toNat r_1.2.2) []) fun r_7 =>
 call (zbO r_7) fun r_3 =>
 chk (0≤r_2.1∧r_2.1≤(r_1.2.2.length:Int)) <|
 some (r_3.1,r_3.2.2,List.drop r_2.1.toNat r_1.2.2,decide (r_3.2.2=8))
noncomputable def zd6(s_2:Str):Option Bool :=
 jp (S:=Unit) (fun _ =>
  some (decide ((s_2.length:Int)=16))) fun k_3 =>
 forL s_2 0 (fun i_5 c_1 s nx_4 k_6 =>
  bif !(((decide (48≤(c_1.toNat:Int)))&&(decide ((c_1.toNat:Int)≤57)))||((decide (97≤(c_1.toNat:Int)))&&(decide ((c_1.toNat:Int)≤102))))then
   some false
  else
  nx_4 ()) () (fun _ =>
  k_3 ())
noncomputable def zei(text_4:Str):Option Str :=
 jp (S:=Int) (fun n_5 =>
  jp (S:=List Int) (fun o0_6 =>
   some (Go.Vc.strOf o0_6)) fun k_7 =>
  loopN zib (fun s nx_8 k_9 =>
   match s with
   |(t23_1,o0_2) =>
    bif decide (t23_1<((List.replicate 16 0).length:Int))then
     chk (0≤(IntKind.i64.wrap (60-(IntKind.i64.wrap (4*t23_1))))) <|
     zgR ([48,49,50,51,52,53,54,55,56,57,97,98,99,100,101,102]:Str) (zbc .and .u64 (Int.fdiv n_5 (2^(shI .u64 (IntKind.i64.wrap (60-(IntKind.i64.wrap (4*t23_1))))))) 15) fun c_10 =>
     chk (0≤t23_1∧t23_1<(o0_2.length:Int)) <|
     nx_8 (IntKind.i64.wrap (t23_1+1),List.set o0_2 t23_1.toNat c_10)
    else
    k_9 (t23_1,o0_2)) (0,List.replicate 16 0) (fun s=>match s with
   |(t23_1,o0_2) =>
    k_7 o0_2)) fun k_11 =>
 forL text_4 0 (fun i_14 c_12 n_3 nx_13 k_15 =>
  nx_13 (IntKind.u64.wrap ((zbc .xor .u64 n_3 (IntKind.u64.wrap (c_12.toNat:Int)))*1099511628211))) 14695981039346656037 (fun n_3 =>
  k_11 n_3)
noncomputable def zaG(text_4:Str):Option (api_Journal×Int) :=
 call (zaT text_4 ([10]:Str)) fun r_1 =>
 chk (0≤IntKind.i64.wrap ((r_1.length:Int)-1)∧IntKind.i64.wrap ((r_1.length:Int)-1)≤(r_1.length:Int)) <|
 call (zE ([106,111,117,114,110,97,108]:Str) (List.take ((IntKind.i64.wrap ((r_1.length:Int)-1)).toNat) r_1) false) fun r_6 =>
 call (zl ([99,104,97,110,103,101,115]:Str) r_6.2.2 r_6.2.1) fun r_5 =>
 call (zl ([111,108,100]:Str) r_5.2.2.1 r_5.2.2.2) fun r_3 =>
 jp (S:=Int) (fun ahead_7 =>
  call (zE ([115,117,109]:Str) r_3.2.2.1 r_3.2.2.2) fun r_2 =>
  chk ((!(r_2.2.1||(decide (0<(r_2.2.2.length:Int)))))=true→(0≤IntKind.i64.wrap ((r_1.length:Int)-1)∧IntKind.i64.wrap ((r_1.length:Int)-1)<(r_1.length:Int))) <|
  callG (!((r_2.2.1||(decide (0<(r_2.2.2.length:Int))))||(!decide ((r_1.getD ((IntKind.i64.wrap ((r_1.length:Int)-1)).toNat) [])=[])))) (zd6 r_2.1) false fun r_9 =>
  bif (((r_2.2.1||(decide (0<(r_2.2.2.length:Int))))||(!decide ((r_1.getD ((IntKind.i64.wrap ((r_1.length:Int)-1)).toNat) [])=[])))||(!r_9))then
   some ((api_Journal.mk [] [] []),8)
  else
  chk (0≤ahead_7∧ahead_7≤(text_4.length:Int)) <|
  call (zei (List.take ahead_7.toNat text_4)) fun r_10 =>
  bif !decide (r_2.1=r_10)then
   some ((api_Journal.mk [] [] []),14)
  else
  call (zbG r_6.1) fun r_11 =>
  bif !r_11 then
   some ((api_Journal.mk [] [] []),5)
  else
  bif !decide (r_5.2.1=0)then
   some ((api_Journal.mk [] [] []),r_5.2.1)
  else
  bif !decide (r_3.2.1=0)then
   some ((api_Journal.mk [] [] []),r_3.2.1)
  else
  bif decide (65536<(text_4.length:Int))then
   some ((api_Journal.mk [] [] []),4)
  else
  some ((api_Journal.mk r_6.1 r_5.1 r_3.1),0)) fun k_8 =>
 bif decide (0<(r_3.2.2.1.length:Int))then
  idx r_3.2.2.1 0 fun s_12 =>
  k_8 (IntKind.i64.wrap ((text_4.length:Int)-(s_12.length:Int)))
 else
 k_8 (text_4.length:Int)
noncomputable def zfM(m_3:api_Machine):Option (api_Journal×Int) :=
 call (zde m_3 ([115,116,97,103,101,47,106,111,117,114,110,97,108]:Str)) fun r_1 =>
 bif !r_1.2 then
  some ((api_Journal.mk [] [] []),0)
 else
 call (zaG r_1.1.Data) fun r_2 =>
 bif !decide (r_2.2=0)then
  some ((api_Journal.mk [] [] []),1)
 else
 some (r_2.1,2)
noncomputable def strconv_Itoa(n:Int):Option Str:=chk (-9223372036854775808≤n∧n≤9223372036854775807) <| some (Go.Lib.itoa n)
noncomputable def zgg(text_2:Str):Option (List Str×Int) :=
 call (za0 text_2 ([10]:Str)) fun r_1 =>
 idx r_1 (IntKind.i64.wrap ((r_1.length:Int)-1)) fun s_3 =>
 bif decide (s_3=[])then
  chk (0≤IntKind.i64.wrap ((r_1.length:Int)-1)∧IntKind.i64.wrap ((r_1.length:Int)-1)≤(r_1.length:Int)) <|
  some (List.take ((IntKind.i64.wrap ((r_1.length:Int)-1)).toNat) r_1,(-1))
 else
 some (r_1,IntKind.i64.wrap ((r_1.length:Int)-1))
noncomputable def zau(e_1:Int):Option (api_Journal×Int) :=
 some ((api_Journal.mk [] [] []),e_1)
noncomputable def ziK(s_3:Str):Option Str :=
 jp (S:=Str) (fun out_6 =>
  chk ((out_6++([34]:Str)).length≤274877906944) <|
  some (out_6++([34]:Str))) fun k_7 =>
 forL s_3 0 (fun i_2 c_1 out_4 nx_5 k_8 =>
  bif ((decide ((c_1.toNat:Int)=34))||(decide ((c_1.toNat:Int)=92)))then
   chk (0≤(i_2:Int)∧(i_2:Int)≤(s_3.length:Int)∧0≤IntKind.i64.wrap ((i_2:Int)+1)∧IntKind.i64.wrap ((i_2:Int)+1)≤(s_3.length:Int)∧(i_2:Int)≤IntKind.i64.wrap ((i_2:Int)+1)) <|
   chk ((([92]:Str)++(List.take ((IntKind.i64.wrap ((i_2:Int)+1)).toNat-i_2) (List.drop i_2 s_3))).length≤274877906944) <|
   chk ((out_4++(([92]:Str)++(List.take ((IntKind.i64.wrap ((i_2:Int)+1)).toNat-i_2) (List.drop i_2 s_3)))).length≤274877906944) <|
   nx_5 (out_4++(([92]:Str)++(List.take ((IntKind.i64.wrap ((i_2:Int)+1)).toNat-i_2) (List.drop i_2 s_3))))
  else
  bif decide ((c_1.toNat:Int)=10)then
   chk ((out_4++([92,110]:Str)).length≤274877906944) <|
   nx_5 (out_4++([92,110]:Str))
  else
  bif ((decide ((c_1.toNat:Int)<32))||(decide (126<(c_1.toNat:Int))))then
   chk (0≤Int.fdiv (c_1.toNat:Int) (2^(shI .u8 4))∧Int.fdiv (c_1.toNat:Int) (2^(shI .u8 4))≤(([48,49,50,51,52,53,54,55,56,57,97,98,99,100,101,102]:Str).length:Int)∧0≤IntKind.u8.wrap ((Int.fdiv (c_1.toNat:Int) (2^(shI .u8 4)))+1)∧IntKind.u8.wrap ((Int.fdiv (c_1.toNat:Int) (2^(shI .u8 4)))+1)≤(([48,49,50,51,52,53,54,55,56,57,97,98,99,100,101,102]:Str).length:Int)∧Int.fdiv (c_1.toNat:Int) (2^(shI .u8 4))≤IntKind.u8.wrap ((Int.fdiv (c_1.toNat:Int) (2^(shI .u8 4)))+1)) <|
   chk ((([92,120]:Str)++(List.take ((IntKind.u8.wrap ((Int.fdiv (c_1.toNat:Int) (2^(shI .u8 4)))+1)).toNat-(Int.fdiv (c_1.toNat:Int) (2^(shI .u8 4))).toNat) (List.drop ((Int.fdiv (c_1.toNat:Int) (2^(shI .u8 4))).toNat) ([48,49,50,51,52,53,54,55,56,57,97,98,99,100,101,102]:Str)))).length≤274877906944) <|
   chk (0≤zbc .and .u8 (c_1.toNat:Int) 15∧zbc .and .u8 (c_1.toNat:Int) 15≤(([48,49,50,51,52,53,54,55,56,57,97,98,99,100,101,102]:Str).length:Int)∧0≤IntKind.u8.wrap ((zbc .and .u8 (c_1.toNat:Int) 15)+1)∧IntKind.u8.wrap ((zbc .and .u8 (c_1.toNat:Int) 15)+1)≤(([48,49,50,51,52,53,54,55,56,57,97,98,99,100,101,102]:Str).length:Int)∧zbc .and .u8 (c_1.toNat:Int) 15≤IntKind.u8.wrap ((zbc .and .u8 (c_1.toNat:Int) 15)+1)) <|
   chk (((([92,120]:Str)++(List.take ((IntKind.u8.wrap ((Int.fdiv (c_1.toNat:Int) (2^(shI .u8 4)))+1)).toNat-(Int.fdiv (c_1.toNat:Int) (2^(shI .u8 4))).toNat) (List.drop ((Int.fdiv (c_1.toNat:Int) (2^(shI .u8 4))).toNat) ([48,49,50,51,52,53,54,55,56,57,97,98,99,100,101,102]:Str))))++(List.take ((IntKind.u8.wrap ((zbc .and .u8 (c_1.toNat:Int) 15)+1)).toNat-(zbc .and .u8 (c_1.toNat:Int) 15).toNat) (List.drop ((zbc .and .u8 (c_1.toNat:Int) 15).toNat) ([48,49,50,51,52,53,54,55,56,57,97,98,99,100,101,102]:Str)))).length≤274877906944) <|
   chk ((out_4++((([92,120]:Str)++(List.take ((IntKind.u8.wrap ((Int.fdiv (c_1.toNat:Int) (2^(shI .u8 4)))+1)).toNat-(Int.fdiv (c_1.toNat:Int) (2^(shI .u8 4))).toNat) (List.drop ((Int.fdiv (c_1.toNat:Int) (2^(shI .u8 4))).toNat) ([48,49,50,51,52,53,54,55,56,57,97,98,99,100,101,102]:Str))))++(List.take ((IntKind.u8.wrap ((zbc .and .u8 (c_1.toNat:Int) 15)+1)).toNat-(zbc .and .u8 (c_1.toNat:Int) 15).toNat) (List.drop ((zbc .and .u8 (c_1.toNat:Int) 15).toNat) ([48,49,50,51,52,53,54,55,56,57,97,98,99,100,101,102]:Str))))).length≤274877906944) <|
   nx_5 (out_4++((([92,120]:Str)++(List.take ((IntKind.u8.wrap ((Int.fdiv (c_1.toNat:Int) (2^(shI .u8 4)))+1)).toNat-(Int.fdiv (c_1.toNat:Int) (2^(shI .u8 4))).toNat) (List.drop ((Int.fdiv (c_1.toNat:Int) (2^(shI .u8 4))).toNat) ([48,49,50,51,52,53,54,55,56,57,97,98,99,100,101,102]:Str))))++(List.take ((IntKind.u8.wrap ((zbc .and .u8 (c_1.toNat:Int) 15)+1)).toNat-(zbc .and .u8 (c_1.toNat:Int) 15).toNat) (List.drop ((zbc .and .u8 (c_1.toNat:Int) 15).toNat) ([48,49,50,51,52,53,54,55,56,57,97,98,99,100,101,102]:Str)))))
  else
  chk (0≤(i_2:Int)∧(i_2:Int)≤(s_3.length:Int)∧0≤IntKind.i64.wrap ((i_2:Int)+1)∧IntKind.i64.wrap ((i_2:Int)+1)≤(s_3.length:Int)∧(i_2:Int)≤IntKind.i64.wrap ((i_2:Int)+1)) <|
  chk ((out_4++(List.take ((IntKind.i64.wrap ((i_2:Int)+1)).toNat-i_2) (List.drop i_2 s_3))).length≤274877906944) <|
  nx_5 (out_4++(List.take ((IntKind.i64.wrap ((i_2:Int)+1)).toNat-i_2) (List.drop i_2 s_3)))) ([34]:Str) (fun out_4 =>
  k_7 out_4)
noncomputable def zho(s_2:Str):Option (Str×Int) :=
 chk ((!(decide ((s_2.length:Int)<2)))=true→(0≤0∧0<(s_2.length:Int))) <|
 chk ((!((decide ((s_2.length:Int)<2))||(!decide (((s_2.getD 0 0).toNat:Int)=34))))=true→(0≤IntKind.i64.wrap ((s_2.length:Int)-1)∧IntKind.i64.wrap ((s_2.length:Int)-1)<(s_2.length:Int))) <|
 bif (((decide ((s_2.length:Int)<2))||(!decide (((s_2.getD 0 0).toNat:Int)=34)))||(!decide (((s_2.getD ((IntKind.i64.wrap ((s_2.length:Int)-1)).toNat) 0).toNat:Int)=34)))then
  some ([],8)
 else
 jp (S:=List Int) (fun o0_6 =>
  call (ziK (Go.Vc.strOf o0_6)) fun r_10 =>
  bif !decide (r_10=s_2)then
   some ([],8)
  else
  some (Go.Vc.strOf o0_6,0)) fun k_11 =>
 chk (0≤1∧1≤(s_2.length:Int)∧0≤IntKind.i64.wrap ((s_2.length:Int)-1)∧IntKind.i64.wrap ((s_2.length:Int)-1)≤(s_2.length:Int)∧1≤IntKind.i64.wrap ((s_2.length:Int)-1)) <|
 loopN zib (fun s nx_4 k_12 =>
  match s with
  |(b_1,o0_3) =>
   bif !decide (b_1=[])then
    zgR b_1 0 fun c_5 =>
    bif !decide (c_5=92)then
     chk ((o0_3++[c_5]).length≤274877906944) <|
     chk (0≤1∧1≤(b_1.length:Int)) <|
     nx_4 (List.drop 1 b_1,o0_3++[c_5])
    else
    chk ((decide (2≤(b_1.length:Int)))=true→(0≤1∧1<(b_1.length:Int))) <|
    chk (((decide (2≤(b_1.length:Int)))&&(!(decide (((b_1.getD 1 0).toNat:Int)=34))))=true→(0≤1∧1<(b_1.length:Int))) <|
    bif ((decide (2≤(b_1.length:Int)))&&((decide (((b_1.getD 1 0).toNat:Int)=34))||(decide (((b_1.getD 1 0).toNat:Int)=92))))then
     zgR b_1 1 fun c_7 =>
     chk ((o0_3++[c_7]).length≤274877906944) <|
     chk (0≤2∧2≤(b_1.length:Int)) <|
     nx_4 (List.drop 2 b_1,o0_3++[c_7])
    else
    chk ((decide (2≤(b_1.length:Int)))=true→(0≤1∧1<(b_1.length:Int))) <|
    bif ((decide (2≤(b_1.length:Int)))&&(decide (((b_1.getD 1 0).toNat:Int)=110)))then
     chk ((o0_3++[10]).length≤274877906944) <|
     chk (0≤2∧2≤(b_1.length:Int)) <|
     nx_4 (List.drop 2 b_1,o0_3++[10])
    else
    chk ((decide (4≤(b_1.length:Int)))=true→(0≤1∧1<(b_1.length:Int))) <|
    bif ((decide (4≤(b_1.length:Int)))&&(decide (((b_1.getD 1 0).toNat:Int)=120)))then
     chk (0≤2∧2≤(b_1.length:Int)∧0≤3∧3≤(b_1.length:Int)∧2≤3) <|
     call (za1 ([48,49,50,51,52,53,54,55,56,57,97,98,99,100,101,102]:Str) (List.take (3-2) (List.drop 2 b_1))) fun r_8 =>
     chk (0≤3∧3≤(b_1.length:Int)∧0≤4∧4≤(b_1.length:Int)∧3≤4) <|
     call (za1 ([48,49,50,51,52,53,54,55,56,57,97,98,99,100,101,102]:Str) (List.take (4-3) (List.drop 3 b_1))) fun r_9 =>
     chk ((o0_3++[IntKind.u8.wrap (IntKind.i64.wrap ((IntKind.i64.wrap (r_8*16))+r_9))]).length≤274877906944) <|
     chk (0≤4∧4≤(b_1.length:Int)) <|
     nx_4 (List.drop 4 b_1,o0_3++[IntKind.u8.wrap (IntKind.i64.wrap ((IntKind.i64.wrap (r_8*16))+r_9))])
    else
    some ([],8)
   else
   k_12 (b_1,o0_3)) (List.take ((IntKind.i64.wrap ((s_2.length:Int)-1)).toNat-1) (List.drop 1 s_2),[]) (fun s=>match s with
  |(b_1,o0_3) =>
   k_11 o0_3)
noncomputable def zjx(s_3:Str):Option (Str×Str×Bool) :=
 call (zbw s_3 ([32]:Str)) fun r_1 =>
 call (zho r_1.2.1) fun r_2 =>
 some (r_1.1,r_2.1,((r_1.2.2&&(!decide (r_1.1=[])))&&(decide (r_2.2=0))))
noncomputable def zbZ(s_1:Str)(substr_2:Str):Option Bool :=
 call (za1 s_1 substr_2) fun r_3 =>
 some (decide (0≤r_3))
noncomputable def zfk(w_1:List Str):Option (api_Service×Bool) :=
 chk ((!(!decide ((w_1.length:Int)=4)))=true→(0≤0∧0<(w_1.length:Int))) <|
 chk ((!((!decide ((w_1.length:Int)=4))||(decide ((w_1.getD 0 [])=[]))))=true→(0≤1∧1<(w_1.length:Int))) <|
 chk ((!(((!decide ((w_1.length:Int)=4))||(decide ((w_1.getD 0 [])=[])))||(decide ((w_1.getD 1 [])=[]))))=true→(0≤2∧2<(w_1.length:Int))) <|
 chk (((!(((!decide ((w_1.length:Int)=4))||(decide ((w_1.getD 0 [])=[])))||(decide ((w_1.getD 1 [])=[]))))&&(!decide ((w_1.getD 2 [])=([48]:Str))))=true→(0≤2∧2<(w_1.length:Int))) <|
 chk ((!((((!decide ((w_1.length:Int)=4))||(decide ((w_1.getD 0 [])=[])))||(decide ((w_1.getD 1 [])=[])))||((!decide ((w_1.getD 2 [])=([48]:Str)))&&(!decide ((w_1.getD 2 [])=([49]:Str))))))=true→(0≤3∧3<(w_1.length:Int))) <|
 chk (((!((((!decide ((w_1.length:Int)=4))||(decide ((w_1.getD 0 [])=[])))||(decide ((w_1.getD 1 [])=[])))||((!decide ((w_1.getD 2 [])=([48]:Str)))&&(!decide ((w_1.getD 2 [])=([49]:Str))))))&&(!decide ((w_1.getD 3 [])=([48]:Str))))=true→(0≤3∧3<(w_1.length:Int))) <|
 bif (((((!decide ((w_1.length:Int)=4))||(decide ((w_1.getD 0 [])=[])))||(decide ((w_1.getD 1 [])=[])))||((!decide ((w_1.getD 2 [])=([48]:Str)))&&(!decide ((w_1.getD 2 [])=([49]:Str)))))||((!decide ((w_1.getD 3 [])=([48]:Str)))&&(!decide ((w_1.getD 3 [])=([49]:Str)))))then
  some ((api_Service.mk [] [] false false),false)
 else
 idx w_1 0 fun s_2 =>
 idx w_1 1 fun s_3 =>
 idx w_1 2 fun s_4 =>
 idx w_1 3 fun s_5 =>
 some ((api_Service.mk s_2 s_3 (decide (s_4=([49]:Str))) (decide (s_5=([49]:Str)))),true)
noncomputable def zgh(l_6:Str):Option (api_Change×Bool) :=
 call (zbw l_6 ([32]:Str)) fun r_1 =>
 call (zjx r_1.2.1) fun r_2 =>
 callG (!decide (r_1.2.1=[])) (zbZ r_1.2.1 ([32]:Str)) false fun r_3 =>
 jp (S:=Bool) (fun t33_7 =>
  bif t33_7 then
   some ((api_Change.mk 1 (api_File.mk r_2.1 r_2.2.1 (decide (r_1.1=([112,117,116,114,117,110]:Str)))) (api_Setting.mk [] []) (api_Service.mk [] [] false false)),r_2.2.2)
  else
  bif decide (r_1.1=([114,101,109,111,118,101]:Str))then
   some ((api_Change.mk 2 (api_File.mk r_1.2.1 [] false) (api_Setting.mk [] []) (api_Service.mk [] [] false false)),((!decide (r_1.2.1=[]))&&(!r_3)))
  else
  bif decide (r_1.1=([115,101,116]:Str))then
   some ((api_Change.mk 3 (api_File.mk [] [] false) (api_Setting.mk r_2.1 r_2.2.1) (api_Service.mk [] [] false false)),r_2.2.2)
  else
  bif decide (r_1.1=([117,110,115,101,116]:Str))then
   some ((api_Change.mk 4 (api_File.mk [] [] false) (api_Setting.mk r_1.2.1 []) (api_Service.mk [] [] false false)),((!decide (r_1.2.1=[]))&&(!r_3)))
  else
  bif decide (r_1.1=([115,101,114,118,105,99,101]:Str))then
   call (za0 r_1.2.1 ([32]:Str)) fun r_8 =>
   call (zfk r_8) fun r_4 =>
   some ((api_Change.mk 5 (api_File.mk [] [] false) (api_Setting.mk [] []) r_4.1),r_4.2)
  else
  bif decide (r_1.1=([100,114,111,112]:Str))then
   some ((api_Change.mk 6 (api_File.mk [] [] false) (api_Setting.mk [] []) (api_Service.mk r_1.2.1 [] false false)),((!decide (r_1.2.1=[]))&&(!r_3)))
  else
  some ((api_Change.mk 0 (api_File.mk [] [] false) (api_Setting.mk [] []) (api_Service.mk [] [] false false)),false)) fun k_5 =>
 bif decide (r_1.1=([112,117,116]:Str))then
  k_5 (decide (r_1.1=([112,117,116]:Str)))
 else
 k_5 (decide (r_1.1=([112,117,116,114,117,110]:Str)))
noncomputable def zal(word_7:Str)(o0_0_1:Int)(o1_0_3:List Str):Option (List api_Change×Bool×Int) :=
 bif decide ((o1_0_3.length:Int)≤o0_0_1)then
  some ([],false,o0_0_1)
 else
 idx o1_0_3 o0_0_1 fun s_8 =>
 chk ((word_7++([32]:Str)).length≤274877906944) <|
 call (zay s_8 (word_7++([32]:Str))) fun r_4 =>
 call (zev r_4.1) fun r_2 =>
 callG (!(((!r_4.2)||(!r_2.2))||(decide (r_2.1<0)))) (strconv_Itoa r_2.1) [] fun r_9 =>
 bif (((((!r_4.2)||(!r_2.2))||(decide (r_2.1<0)))||(!decide (r_9=r_4.1)))||(decide ((IntKind.i64.wrap ((IntKind.i64.wrap ((o1_0_3.length:Int)-o0_0_1))-1))<r_2.1)))then
  some ([],false,o0_0_1)
 else
 jp (S:=List api_Change) (fun o2_10 =>
  some (o2_10,true,IntKind.i64.wrap (o0_0_1+(IntKind.i64.wrap (1+r_2.1))))) fun k_11 =>
 chk (0≤IntKind.i64.wrap (o0_0_1+1)∧IntKind.i64.wrap (o0_0_1+1)≤(o1_0_3.length:Int)∧0≤IntKind.i64.wrap ((IntKind.i64.wrap (o0_0_1+1))+r_2.1)∧IntKind.i64.wrap ((IntKind.i64.wrap (o0_0_1+1))+r_2.1)≤(o1_0_3.length:Int)∧IntKind.i64.wrap (o0_0_1+1)≤IntKind.i64.wrap ((IntKind.i64.wrap (o0_0_1+1))+r_2.1)) <|
 forL (List.take ((IntKind.i64.wrap ((IntKind.i64.wrap (o0_0_1+1))+r_2.1)).toNat-(IntKind.i64.wrap (o0_0_1+1)).toNat) (List.drop ((IntKind.i64.wrap (o0_0_1+1)).toNat) o1_0_3)) 0 (fun i_14 s_12 o2_5 nx_13 k_15 =>
  call (zgh s_12) fun r_6 =>
  bif !r_6.2 then
   some ([],false,o0_0_1)
  else
  chk ((o2_5++[r_6.1]).length≤274877906944) <|
  nx_13 (o2_5++[r_6.1])) [] (fun o2_5 =>
  k_11 o2_5)
noncomputable def zmw(s_2:Str):Option Bool :=
 jp (S:=Unit) (fun _ =>
  some (decide ((s_2.length:Int)=16))) fun k_3 =>
 forL s_2 0 (fun i_5 c_1 s nx_4 k_6 =>
  bif (((decide ((c_1.toNat:Int)<48))||(decide (57<(c_1.toNat:Int))))&&((decide ((c_1.toNat:Int)<97))||(decide (102<(c_1.toNat:Int)))))then
   some false
  else
  nx_4 ()) () (fun _ =>
  k_3 ())
noncomputable def zat(x_1:Int):Option Bool :=
 some (decide ((zbc .and .i64 x_1 (IntKind.i64.wrap (x_1-1)))=0))
noncomputable def zby(x_1:Int):Option Int :=
 bif decide (x_1=0)then
  some 64
 else
 chk (0≤Int.fdiv (IntKind.u64.wrap ((zbc .and .u64 x_1 (IntKind.u64.wrap (-x_1)))*285870213051353865)) (2^(shI .u64 58))∧Int.fdiv (IntKind.u64.wrap ((zbc .and .u64 x_1 (IntKind.u64.wrap (-x_1)))*285870213051353865)) (2^(shI .u64 58))<(64:Int)) <|
 some (IntKind.i64.wrap (tabL_7.getD ((Int.fdiv (IntKind.u64.wrap ((zbc .and .u64 x_1 (IntKind.u64.wrap (-x_1)))*285870213051353865)) (2^(shI .u64 58))).toNat) 0))
noncomputable def za3(x_1:Int):Option Int :=
 call (zby x_1) fun r_2 =>
 some r_2
noncomputable def zaj(dst_38:List Int)(u_14:Int)(base_1:Int)(neg_15:Bool)(append__23:Bool):Option (List Int×Str) :=
 jp (S:=Unit) (fun _ =>
  jp (S:=Int) (fun u_16 =>
   jp (S:=Int×List Int) (fun s=>match s with
    |(i_7,o0_12) =>
     jp (S:=Int×List Int) (fun s=>match s with
      |(i_5,o0_13) =>
       bif append__23 then
        chk (o0_13.length=65∧0≤i_5∧i_5≤(65:Int)) <|
        none
       else
       chk (o0_13.length=65∧0≤i_5∧i_5≤(65:Int)) <|
       some ([],Go.Vc.strOf (List.take (65-i_5.toNat) (List.drop i_5.toNat o0_13)))) fun k_17 =>
     bif neg_15 then
      chk (0≤IntKind.i64.wrap (i_7-1)∧IntKind.i64.wrap (i_7-1)<(65:Int)∧65=o0_12.length) <|
      k_17 (IntKind.i64.wrap (i_7-1),List.set o0_12 ((IntKind.i64.wrap (i_7-1)).toNat) 45)
     else
     k_17 (i_7,o0_12)) fun k_18 =>
   call (zat base_1) fun r_24 =>
   bif r_24 then
    call (za3 (IntKind.u64.wrap base_1)) fun r_19 =>
    jp (S:=Int×Int×List Int) (fun s=>match s with
     |(u_25,i_10,o0_20) =>
      zgR ([48,49,50,51,52,53,54,55,56,57,97,98,99,100,101,102,103,104,105,106,107,108,109,110,111,112,113,114,115,116,117,118,119,120,121,122]:Str) u_25 fun c_26 =>
      chk (0≤IntKind.i64.wrap (i_10-1)∧IntKind.i64.wrap (i_10-1)<(65:Int)∧65=o0_20.length) <|
      k_18 (IntKind.i64.wrap (i_10-1),List.set o0_20 ((IntKind.i64.wrap (i_10-1)).toNat) c_26)) fun k_27 =>
    loopN zib (fun s nx_28 k_29 =>
     match s with
     |(u_6,i_2,o0_8) =>
      bif decide ((IntKind.u64.wrap base_1)≤u_6)then
       zgR ([48,49,50,51,52,53,54,55,56,57,97,98,99,100,101,102,103,104,105,106,107,108,109,110,111,112,113,114,115,116,117,118,119,120,121,122]:Str) (zbc .and .u64 u_6 (IntKind.u64.wrap ((IntKind.u64.wrap base_1)-1))) fun c_30 =>
       chk (0≤IntKind.i64.wrap (i_2-1)∧IntKind.i64.wrap (i_2-1)<(65:Int)∧65=o0_8.length) <|
       chk (0≤(IntKind.u64.wrap r_19)) <|
       nx_28 (Int.fdiv u_6 (2^(shI .u64 (IntKind.u64.wrap r_19))),IntKind.i64.wrap (i_2-1),List.set o0_8 ((IntKind.i64.wrap (i_2-1)).toNat) c_30)
      else
      k_29 (u_6,i_2,o0_8)) (u_16,65,List.replicate 65 0) (fun s=>match s with
     |(u_6,i_2,o0_8) =>
      k_27 (u_6,i_2,o0_8))
   else
   jp (S:=Int×Int×List Int) (fun s=>match s with
    |(u_31,i_11,o0_21) =>
     zgR ([48,49,50,51,52,53,54,55,56,57,97,98,99,100,101,102,103,104,105,106,107,108,109,110,111,112,113,114,115,116,117,118,119,120,121,122]:Str) u_31 fun c_32 =>
     chk (0≤IntKind.i64.wrap (i_11-1)∧IntKind.i64.wrap (i_11-1)<(65:Int)∧65=o0_21.length) <|
     k_18 (IntKind.i64.wrap (i_11-1),List.set o0_21 ((IntKind.i64.wrap (i_11-1)).toNat) c_32)) fun k_33 =>
   loopN zib (fun s nx_34 k_35 =>
    match s with
    |(u_3,i_4,o0_9) =>
     bif decide ((IntKind.u64.wrap base_1)≤u_3)then
      chk (¬ (IntKind.u64.wrap base_1)=0) <|
      zgR ([48,49,50,51,52,53,54,55,56,57,97,98,99,100,101,102,103,104,105,106,107,108,109,110,111,112,113,114,115,116,117,118,119,120,121,122]:Str) (IntKind.u64.wrap (u_3-(IntKind.u64.wrap ((IntKind.u64.wrap (Int.tdiv u_3 (IntKind.u64.wrap base_1)))*(IntKind.u64.wrap base_1))))) fun c_36 =>
      chk (0≤IntKind.i64.wrap (i_4-1)∧IntKind.i64.wrap (i_4-1)<(65:Int)∧65=o0_9.length) <|
      nx_34 (IntKind.u64.wrap (Int.tdiv u_3 (IntKind.u64.wrap base_1)),IntKind.i64.wrap (i_4-1),List.set o0_9 ((IntKind.i64.wrap (i_4-1)).toNat) c_36)
     else
     k_35 (u_3,i_4,o0_9)) (u_16,65,List.replicate 65 0) (fun s=>match s with
    |(u_3,i_4,o0_9) =>
     k_33 (u_3,i_4,o0_9))) fun k_22 =>
  bif neg_15 then
   k_22 (IntKind.u64.wrap (-u_14))
  else
  k_22 u_14) fun k_37 =>
 bif (((decide (base_1<2))||(decide (base_1=10)))||(decide (36<base_1)))then
  none
 else
 k_37 ()
noncomputable def zaH(i_1:Int)(base_2:Int):Option Str :=
 bif decide (base_2=10)then
  bif decide (i_1<100)then
   none
  else
  none
 else
 call (zaj [] i_1 base_2 false false) fun r_3 =>
 some r_3.2
noncomputable def zbl(i_1:Int)(base_2:Int):Option Str :=
 call (zaH i_1 base_2) fun r_3 =>
 some r_3
noncomputable def zfb(x_1:Int)(y_2:Int):Option (Int×Int) :=
 some (IntKind.u64.wrap ((IntKind.u64.wrap ((IntKind.u64.wrap ((Int.fdiv x_1 (2^(shI .u64 32)))*(Int.fdiv y_2 (2^(shI .u64 32)))))+(Int.fdiv (IntKind.u64.wrap ((IntKind.u64.wrap ((Int.fdiv x_1 (2^(shI .u64 32)))*(zbc .and .u64 y_2 4294967295)))+(Int.fdiv (IntKind.u64.wrap ((zbc .and .u64 x_1 4294967295)*(zbc .and .u64 y_2 4294967295))) (2^(shI .u64 32))))) (2^(shI .u64 32)))))+(Int.fdiv (IntKind.u64.wrap ((zbc .and .u64 (IntKind.u64.wrap ((IntKind.u64.wrap ((Int.fdiv x_1 (2^(shI .u64 32)))*(zbc .and .u64 y_2 4294967295)))+(Int.fdiv (IntKind.u64.wrap ((zbc .and .u64 x_1 4294967295)*(zbc .and .u64 y_2 4294967295))) (2^(shI .u64 32))))) 4294967295)+(IntKind.u64.wrap ((zbc .and .u64 x_1 4294967295)*(Int.fdiv y_2 (2^(shI .u64 32))))))) (2^(shI .u64 32)))),IntKind.u64.wrap (x_1*y_2))
noncomputable def zeV(x_2:Int)(y_3:Int):Option (Int×Int) :=
 call (zfb x_2 y_3) fun r_1 =>
 some (r_1.1,r_1.2)
noncomputable def zaN(o1_1:Str):Option Int :=
 some (o1_1.length:Int)
noncomputable def zcT(s_2:Str)(count_6:Int):Option Str :=
 bif decide (count_6=0)then
  some []
 else
 bif decide (count_6=1)then
  some s_2
 else
 jp (S:=Unit) (fun _ =>
  call (zeV (IntKind.u64.wrap (s_2.length:Int)) (IntKind.u64.wrap count_6)) fun r_1 =>
  jp (S:=Unit) (fun _ =>
   bif decide ((s_2.length:Int)=0)then
    some []
   else
   jp (S:=Unit) (fun _ =>
    jp (S:=Int) (fun chunkMax_7 =>
     call (zaW (IntKind.i64.wrap r_1.2) []) fun r_29 =>
     call (zi s_2 []) fun r_13 =>
     jp (S:=Str) (fun o1_14 =>
      call (zC o1_14) fun r_15 =>
      some r_15) fun k_16 =>
     loopN zib (fun o1_4 nx_17 k_18 =>
      call (zaN o1_4) fun r_19 =>
      bif decide (r_19<(IntKind.i64.wrap r_1.2))then
       call (zaN o1_4) fun r_8 =>
       call (zaN o1_4) fun r_9 =>
       call (zC o1_4) fun r_11 =>
       chk (0≤min (min (IntKind.i64.wrap ((IntKind.i64.wrap r_1.2)-r_8)) r_9) chunkMax_7∧min (min (IntKind.i64.wrap ((IntKind.i64.wrap r_1.2)-r_8)) r_9) chunkMax_7≤(r_11.length:Int)) <|
       call (zi (List.take ((min (min (IntKind.i64.wrap ((IntKind.i64.wrap r_1.2)-r_8)) r_9) chunkMax_7).toNat) r_11) o1_4) fun r_20 =>
       nx_17 r_20.2
      else
      k_18 o1_4) r_13.2 (fun o1_4 =>
      k_16 o1_4)) fun k_10 =>
    bif decide (8192<(IntKind.i64.wrap r_1.2))then
     chk (¬ (s_2.length:Int)=0) <|
     bif decide ((IntKind.i64.wrap ((IntKind.i64.wrap (Int.tdiv 8192 (s_2.length:Int)))*(s_2.length:Int)))=0)then
      k_10 (s_2.length:Int)
     else
     k_10 (IntKind.i64.wrap ((IntKind.i64.wrap (Int.tdiv 8192 (s_2.length:Int)))*(s_2.length:Int)))
    else
    k_10 (IntKind.i64.wrap r_1.2)) fun k_12 =>
   zgR s_2 0 fun c_3 =>
   jp (S:=Bool) (fun t43_21 =>
    bif t43_21 then
     callG (decide ((IntKind.i64.wrap r_1.2)≤128)) (zT ((List.append [32,32,32,32,32,32,32,32,32,32,32,32,32,32,32,32,32,32,32,32,32,32,32,32,32,32,32,32,32,32,32,32,32,32,32,32,32,32,32,32,32,32,32,32,32,32,32,32,32,32,32,32,32,32,32,32,32,32,32,32,32,32,32,32] [32,32,32,32,32,32,32,32,32,32,32,32,32,32,32,32,32,32,32,32,32,32,32,32,32,32,32,32,32,32,32,32,32,32,32,32,32,32,32,32,32,32,32,32,32,32,32,32,32,32,32,32,32,32,32,32,32,32,32,32,32,32,32,32]):Str) s_2) false fun r_22 =>
     bif ((decide ((IntKind.i64.wrap r_1.2)≤128))&&r_22)then
      chk (0≤IntKind.i64.wrap r_1.2∧IntKind.i64.wrap r_1.2≤(((List.append [32,32,32,32,32,32,32,32,32,32,32,32,32,32,32,32,32,32,32,32,32,32,32,32,32,32,32,32,32,32,32,32,32,32,32,32,32,32,32,32,32,32,32,32,32,32,32,32,32,32,32,32,32,32,32,32,32,32,32,32,32,32,32,32] [32,32,32,32,32,32,32,32,32,32,32,32,32,32,32,32,32,32,32,32,32,32,32,32,32,32,32,32,32,32,32,32,32,32,32,32,32,32,32,32,32,32,32,32,32,32,32,32,32,32,32,32,32,32,32,32,32,32,32,32,32,32,32,32]):Str).length:Int)) <|
      some (List.take ((IntKind.i64.wrap r_1.2).toNat) ((List.append [32,32,32,32,32,32,32,32,32,32,32,32,32,32,32,32,32,32,32,32,32,32,32,32,32,32,32,32,32,32,32,32,32,32,32,32,32,32,32,32,32,32,32,32,32,32,32,32,32,32,32,32,32,32,32,32,32,32,32,32,32,32,32,32] [32,32,32,32,32,32,32,32,32,32,32,32,32,32,32,32,32,32,32,32,32,32,32,32,32,32,32,32,32,32,32,32,32,32,32,32,32,32,32,32,32,32,32,32,32,32,32,32,32,32,32,32,32,32,32,32,32,32,32,32,32,32,32,32]):Str))
     else
     callG (decide ((IntKind.i64.wrap r_1.2)≤128)) (zT ((List.append [45,45,45,45,45,45,45,45,45,45,45,45,45,45,45,45,45,45,45,45,45,45,45,45,45,45,45,45,45,45,45,45,45,45,45,45,45,45,45,45,45,45,45,45,45,45,45,45,45,45,45,45,45,45,45,45,45,45,45,45,45,45,45,45] [45,45,45,45,45,45,45,45,45,45,45,45,45,45,45,45,45,45,45,45,45,45,45,45,45,45,45,45,45,45,45,45,45,45,45,45,45,45,45,45,45,45,45,45,45,45,45,45,45,45,45,45,45,45,45,45,45,45,45,45,45,45,45,45]):Str) s_2) false fun r_23 =>
     bif ((decide ((IntKind.i64.wrap r_1.2)≤128))&&r_23)then
      chk (0≤IntKind.i64.wrap r_1.2∧IntKind.i64.wrap r_1.2≤(((List.append [45,45,45,45,45,45,45,45,45,45,45,45,45,45,45,45,45,45,45,45,45,45,45,45,45,45,45,45,45,45,45,45,45,45,45,45,45,45,45,45,45,45,45,45,45,45,45,45,45,45,45,45,45,45,45,45,45,45,45,45,45,45,45,45] [45,45,45,45,45,45,45,45,45,45,45,45,45,45,45,45,45,45,45,45,45,45,45,45,45,45,45,45,45,45,45,45,45,45,45,45,45,45,45,45,45,45,45,45,45,45,45,45,45,45,45,45,45,45,45,45,45,45,45,45,45,45,45,45]):Str).length:Int)) <|
      some (List.take ((IntKind.i64.wrap r_1.2).toNat) ((List.append [45,45,45,45,45,45,45,45,45,45,45,45,45,45,45,45,45,45,45,45,45,45,45,45,45,45,45,45,45,45,45,45,45,45,45,45,45,45,45,45,45,45,45,45,45,45,45,45,45,45,45,45,45,45,45,45,45,45,45,45,45,45,45,45] [45,45,45,45,45,45,45,45,45,45,45,45,45,45,45,45,45,45,45,45,45,45,45,45,45,45,45,45,45,45,45,45,45,45,45,45,45,45,45,45,45,45,45,45,45,45,45,45,45,45,45,45,45,45,45,45,45,45,45,45,45,45,45,45]):Str))
     else
     callG (decide ((IntKind.i64.wrap r_1.2)≤64)) (zT ([48,48,48,48,48,48,48,48,48,48,48,48,48,48,48,48,48,48,48,48,48,48,48,48,48,48,48,48,48,48,48,48,48,48,48,48,48,48,48,48,48,48,48,48,48,48,48,48,48,48,48,48,48,48,48,48,48,48,48,48,48,48,48,48]:Str) s_2) false fun r_24 =>
     bif ((decide ((IntKind.i64.wrap r_1.2)≤64))&&r_24)then
      chk (0≤IntKind.i64.wrap r_1.2∧IntKind.i64.wrap r_1.2≤(([48,48,48,48,48,48,48,48,48,48,48,48,48,48,48,48,48,48,48,48,48,48,48,48,48,48,48,48,48,48,48,48,48,48,48,48,48,48,48,48,48,48,48,48,48,48,48,48,48,48,48,48,48,48,48,48,48,48,48,48,48,48,48,48]:Str).length:Int)) <|
      some (List.take ((IntKind.i64.wrap r_1.2).toNat) ([48,48,48,48,48,48,48,48,48,48,48,48,48,48,48,48,48,48,48,48,48,48,48,48,48,48,48,48,48,48,48,48,48,48,48,48,48,48,48,48,48,48,48,48,48,48,48,48,48,48,48,48,48,48,48,48,48,48,48,48,48,48,48,48]:Str))
     else
     callG (decide ((IntKind.i64.wrap r_1.2)≤128)) (zT ((List.append [61,61,61,61,61,61,61,61,61,61,61,61,61,61,61,61,61,61,61,61,61,61,61,61,61,61,61,61,61,61,61,61,61,61,61,61,61,61,61,61,61,61,61,61,61,61,61,61,61,61,61,61,61,61,61,61,61,61,61,61,61,61,61,61] [61,61,61,61,61,61,61,61,61,61,61,61,61,61,61,61,61,61,61,61,61,61,61,61,61,61,61,61,61,61,61,61,61,61,61,61,61,61,61,61,61,61,61,61,61,61,61,61,61,61,61,61,61,61,61,61,61,61,61,61,61,61,61,61]):Str) s_2) false fun r_25 =>
     bif ((decide ((IntKind.i64.wrap r_1.2)≤128))&&r_25)then
      chk (0≤IntKind.i64.wrap r_1.2∧IntKind.i64.wrap r_1.2≤(((List.append [61,61,61,61,61,61,61,61,61,61,61,61,61,61,61,61,61,61,61,61,61,61,61,61,61,61,61,61,61,61,61,61,61,61,61,61,61,61,61,61,61,61,61,61,61,61,61,61,61,61,61,61,61,61,61,61,61,61,61,61,61,61,61,61] [61,61,61,61,61,61,61,61,61,61,61,61,61,61,61,61,61,61,61,61,61,61,61,61,61,61,61,61,61,61,61,61,61,61,61,61,61,61,61,61,61,61,61,61,61,61,61,61,61,61,61,61,61,61,61,61,61,61,61,61,61,61,61,61]):Str).length:Int)) <|
      some (List.take ((IntKind.i64.wrap r_1.2).toNat) ((List.append [61,61,61,61,61,61,61,61,61,61,61,61,61,61,61,61,61,61,61,61,61,61,61,61,61,61,61,61,61,61,61,61,61,61,61,61,61,61,61,61,61,61,61,61,61,61,61,61,61,61,61,61,61,61,61,61,61,61,61,61,61,61,61,61] [61,61,61,61,61,61,61,61,61,61,61,61,61,61,61,61,61,61,61,61,61,61,61,61,61,61,61,61,61,61,61,61,61,61,61,61,61,61,61,61,61,61,61,61,61,61,61,61,61,61,61,61,61,61,61,61,61,61,61,61,61,61,61,61]):Str))
     else
     callG (decide ((IntKind.i64.wrap r_1.2)≤64)) (zT ([9,9,9,9,9,9,9,9,9,9,9,9,9,9,9,9,9,9,9,9,9,9,9,9,9,9,9,9,9,9,9,9,9,9,9,9,9,9,9,9,9,9,9,9,9,9,9,9,9,9,9,9,9,9,9,9,9,9,9,9,9,9,9,9]:Str) s_2) false fun r_26 =>
     bif ((decide ((IntKind.i64.wrap r_1.2)≤64))&&r_26)then
      chk (0≤IntKind.i64.wrap r_1.2∧IntKind.i64.wrap r_1.2≤(([9,9,9,9,9,9,9,9,9,9,9,9,9,9,9,9,9,9,9,9,9,9,9,9,9,9,9,9,9,9,9,9,9,9,9,9,9,9,9,9,9,9,9,9,9,9,9,9,9,9,9,9,9,9,9,9,9,9,9,9,9,9,9,9]:Str).length:Int)) <|
      some (List.take ((IntKind.i64.wrap r_1.2).toNat) ([9,9,9,9,9,9,9,9,9,9,9,9,9,9,9,9,9,9,9,9,9,9,9,9,9,9,9,9,9,9,9,9,9,9,9,9,9,9,9,9,9,9,9,9,9,9,9,9,9,9,9,9,9,9,9,9,9,9,9,9,9,9,9,9]:Str))
     else
     k_12 ()
    else
    k_12 ()) fun k_5 =>
   bif decide (c_3=32)then
    k_5 (decide (c_3=32))
   else
   bif decide (c_3=45)then
    k_5 (decide (c_3=45))
   else
   bif decide (c_3=48)then
    k_5 (decide (c_3=48))
   else
   bif decide (c_3=61)then
    k_5 (decide (c_3=61))
   else
   k_5 (decide (c_3=9))) fun k_27 =>
  bif ((decide (0<r_1.1))||(decide (9223372036854775807<r_1.2)))then
   none
  else
  k_27 ()) fun k_28 =>
 bif decide (count_6<0)then
  none
 else
 k_28 ()
noncomputable def ziJ(s_4:Str):Option Str :=
 jp (S:=Int) (fun h_5 =>
  call (zbl h_5 16) fun r_1 =>
  call (zcT ([48]:Str) (IntKind.i64.wrap (16-(r_1.length:Int)))) fun r_3 =>
  chk ((r_3++r_1).length≤274877906944) <|
  some (r_3++r_1)) fun k_6 =>
 forL s_4 0 (fun i_9 c_7 h_2 nx_8 k_10 =>
  nx_8 (IntKind.u64.wrap ((zbc .xor .u64 h_2 (IntKind.u64.wrap (c_7.toNat:Int)))*1099511628211))) 14695981039346656037 (fun h_2 =>
  k_6 h_2)
noncomputable def zcd(l_2:List api_Change):Option Int :=
 jp (S:=Unit) (fun _ =>
  some 0) fun k_3 =>
 forL l_2 0 (fun i_6 c_4 s nx_5 k_7 =>
  call (zcL c_4) fun r_1 =>
  bif !decide (r_1=0)then
   some r_1
  else
  nx_5 ()) () (fun _ =>
  k_3 ())
noncomputable def R_bit(b_1:Bool):Option Str :=
 bif b_1 then
  some ([49]:Str)
 else
 some ([48]:Str)
noncomputable def zc1(s_1:api_Service):Option Str :=
 chk ((s_1.Name++([32]:Str)).length≤274877906944) <|
 chk (((s_1.Name++([32]:Str))++s_1.Path).length≤274877906944) <|
 chk ((((s_1.Name++([32]:Str))++s_1.Path)++([32]:Str)).length≤274877906944) <|
 call (R_bit s_1.Auto) fun r_2 =>
 chk (((((s_1.Name++([32]:Str))++s_1.Path)++([32]:Str))++r_2).length≤274877906944) <|
 chk ((((((s_1.Name++([32]:Str))++s_1.Path)++([32]:Str))++r_2)++([32]:Str)).length≤274877906944) <|
 call (R_bit s_1.On) fun r_3 =>
 chk (((((((s_1.Name++([32]:Str))++s_1.Path)++([32]:Str))++r_2)++([32]:Str))++r_3).length≤274877906944) <|
 some ((((((s_1.Name++([32]:Str))++s_1.Path)++([32]:Str))++r_2)++([32]:Str))++r_3)
noncomputable def zY(c_2:Int)(o1_1:Str):Option Str :=
 call (zaC o1_1) fun r_3 =>
 chk ((o1_1++(Go.Vc.strOf [c_2])).length≤274877906944) <|
 some (o1_1++(Go.Vc.strOf [c_2]))
noncomputable def za6(l_9:List api_Change):Option Str :=
 jp (S:=Str) (fun o1_10 =>
  call (zC o1_10) fun r_11 =>
  some r_11) fun k_12 =>
 forL l_9 0 (fun i_22 c_1 o1_2 nx_13 k_23 =>
  jp (S:=Str) (fun o1_14 =>
   call (zY 10 o1_14) fun r_15 =>
   nx_13 r_15) fun k_3 =>
  bif decide (c_1.Kind=1)then
   jp (S:=Str) (fun word_4 =>
    chk ((word_4++c_1.File.Path).length≤274877906944) <|
    chk (((word_4++c_1.File.Path)++([32]:Str)).length≤274877906944) <|
    call (ziK c_1.File.Data) fun r_5 =>
    chk ((((word_4++c_1.File.Path)++([32]:Str))++r_5).length≤274877906944) <|
    call (zi (((word_4++c_1.File.Path)++([32]:Str))++r_5) o1_2) fun r_16 =>
    k_3 r_16.2) fun k_6 =>
   bif c_1.File.Runs then
    k_6 ([112,117,116,114,117,110,32]:Str)
   else
   k_6 ([112,117,116,32]:Str)
  else
  bif decide (c_1.Kind=2)then
   chk ((([114,101,109,111,118,101,32]:Str)++c_1.File.Path).length≤274877906944) <|
   call (zi (([114,101,109,111,118,101,32]:Str)++c_1.File.Path) o1_2) fun r_17 =>
   k_3 r_17.2
  else
  bif decide (c_1.Kind=3)then
   chk ((([115,101,116,32]:Str)++c_1.Setting.Key).length≤274877906944) <|
   chk (((([115,101,116,32]:Str)++c_1.Setting.Key)++([32]:Str)).length≤274877906944) <|
   call (ziK c_1.Setting.Value) fun r_7 =>
   chk ((((([115,101,116,32]:Str)++c_1.Setting.Key)++([32]:Str))++r_7).length≤274877906944) <|
   call (zi (((([115,101,116,32]:Str)++c_1.Setting.Key)++([32]:Str))++r_7) o1_2) fun r_18 =>
   k_3 r_18.2
  else
  bif decide (c_1.Kind=4)then
   chk ((([117,110,115,101,116,32]:Str)++c_1.Setting.Key).length≤274877906944) <|
   call (zi (([117,110,115,101,116,32]:Str)++c_1.Setting.Key) o1_2) fun r_19 =>
   k_3 r_19.2
  else
  bif decide (c_1.Kind=5)then
   call (zc1 c_1.Service) fun r_8 =>
   chk ((([115,101,114,118,105,99,101,32]:Str)++r_8).length≤274877906944) <|
   call (zi (([115,101,114,118,105,99,101,32]:Str)++r_8) o1_2) fun r_20 =>
   k_3 r_20.2
  else
  bif decide (c_1.Kind=6)then
   chk ((([100,114,111,112,32]:Str)++c_1.Service.Name).length≤274877906944) <|
   call (zi (([100,114,111,112,32]:Str)++c_1.Service.Name) o1_2) fun r_21 =>
   k_3 r_21.2
  else
  k_3 o1_2) [] (fun o1_2 =>
  k_12 o1_2)
noncomputable def zaF(j_1:api_Journal):Option (Str×Int) :=
 call (zes j_1.Id) fun r_8 =>
 bif !r_8 then
  some ([],5)
 else
 call (zcd j_1.Changes) fun r_9 =>
 call (zcd j_1.Old) fun r_10 =>
 call (zbY [r_9,r_10]) fun r_7 =>
 bif !decide (r_7=0)then
  some ([],r_7)
 else
 chk ((([106,111,117,114,110,97,108,32]:Str)++j_1.Id).length≤274877906944) <|
 chk (((([106,111,117,114,110,97,108,32]:Str)++j_1.Id)++([10,99,104,97,110,103,101,115,32]:Str)).length≤274877906944) <|
 call (strconv_Itoa (j_1.Changes.length:Int)) fun r_2 =>
 chk ((((([106,111,117,114,110,97,108,32]:Str)++j_1.Id)++([10,99,104,97,110,103,101,115,32]:Str))++r_2).length≤274877906944) <|
 chk (((((([106,111,117,114,110,97,108,32]:Str)++j_1.Id)++([10,99,104,97,110,103,101,115,32]:Str))++r_2)++([10]:Str)).length≤274877906944) <|
 call (za6 j_1.Changes) fun r_3 =>
 chk ((((((([106,111,117,114,110,97,108,32]:Str)++j_1.Id)++([10,99,104,97,110,103,101,115,32]:Str))++r_2)++([10]:Str))++r_3).length≤274877906944) <|
 chk (((((((([106,111,117,114,110,97,108,32]:Str)++j_1.Id)++([10,99,104,97,110,103,101,115,32]:Str))++r_2)++([10]:Str))++r_3)++([111,108,100,32]:Str)).length≤274877906944) <|
 call (strconv_Itoa (j_1.Old.length:Int)) fun r_4 =>
 chk ((((((((([106,111,117,114,110,97,108,32]:Str)++j_1.Id)++([10,99,104,97,110,103,101,115,32]:Str))++r_2)++([10]:Str))++r_3)++([111,108,100,32]:Str))++r_4).length≤274877906944) <|
 chk (((((((((([106,111,117,114,110,97,108,32]:Str)++j_1.Id)++([10,99,104,97,110,103,101,115,32]:Str))++r_2)++([10]:Str))++r_3)++([111,108,100,32]:Str))++r_4)++([10]:Str)).length≤274877906944) <|
 call (za6 j_1.Old) fun r_5 =>
 chk ((((((((((([106,111,117,114,110,97,108,32]:Str)++j_1.Id)++([10,99,104,97,110,103,101,115,32]:Str))++r_2)++([10]:Str))++r_3)++([111,108,100,32]:Str))++r_4)++([10]:Str))++r_5).length≤274877906944) <|
 call (ziJ (((((((((([106,111,117,114,110,97,108,32]:Str)++j_1.Id)++([10,99,104,97,110,103,101,115,32]:Str))++r_2)++([10]:Str))++r_3)++([111,108,100,32]:Str))++r_4)++([10]:Str))++r_5)) fun r_6 =>
 chk ((([115,117,109,32]:Str)++r_6).length≤274877906944) <|
 chk (((([115,117,109,32]:Str)++r_6)++([10]:Str)).length≤274877906944) <|
 chk (((((((((((([106,111,117,114,110,97,108,32]:Str)++j_1.Id)++([10,99,104,97,110,103,101,115,32]:Str))++r_2)++([10]:Str))++r_3)++([111,108,100,32]:Str))++r_4)++([10]:Str))++r_5)++((([115,117,109,32]:Str)++r_6)++([10]:Str))).length≤274877906944) <|
 bif decide (65536<(((((((((((([106,111,117,114,110,97,108,32]:Str)++j_1.Id)++([10,99,104,97,110,103,101,115,32]:Str))++r_2)++([10]:Str))++r_3)++([111,108,100,32]:Str))++r_4)++([10]:Str))++r_5)++((([115,117,109,32]:Str)++r_6)++([10]:Str))).length:Int))then
  some ([],4)
 else
 some ((((((((((([106,111,117,114,110,97,108,32]:Str)++j_1.Id)++([10,99,104,97,110,103,101,115,32]:Str))++r_2)++([10]:Str))++r_3)++([111,108,100,32]:Str))++r_4)++([10]:Str))++r_5)++((([115,117,109,32]:Str)++r_6)++([10]:Str)),0)
noncomputable def za7(s_8:Str):Option (api_Journal×Int) :=
 call (zgg s_8) fun r_1 =>
 bif ((decide (0≤r_1.2))||(decide ((r_1.1.length:Int)<4)))then
  call (zau 8) fun r_9 =>
  some (r_9.1,r_9.2)
 else
 idx r_1.1 0 fun s_19 =>
 call (zay s_19 ([106,111,117,114,110,97,108,32]:Str)) fun r_5 =>
 bif !r_5.2 then
  call (zau 8) fun r_10 =>
  some (r_10.1,r_10.2)
 else
 call (zal ([99,104,97,110,103,101,115]:Str) 1 r_1.1) fun r_2 =>
 jp (S:=Bool×List api_Change×Int) (fun s=>match s with
  |(b_20,o2_2_11,o3_0_3) =>
   bif (((!r_2.2.1)||(!b_20))||(!decide (o3_0_3=(IntKind.i64.wrap ((r_1.1.length:Int)-1)))))then
    call (zau 8) fun r_12 =>
    some (r_12.1,r_12.2)
   else
   idx r_1.1 o3_0_3 fun s_21 =>
   call (zay s_21 ([115,117,109,32]:Str)) fun r_4 =>
   callG (!(!r_4.2)) (zmw r_4.1) false fun r_22 =>
   bif ((!r_4.2)||(!r_22))then
    call (zau 8) fun r_13 =>
    some (r_13.1,r_13.2)
   else
   chk (0≤o3_0_3∧o3_0_3≤(r_1.1.length:Int)) <|
   call (zbk (List.take o3_0_3.toNat r_1.1) ([10]:Str)) fun r_14 =>
   chk ((r_14++([10]:Str)).length≤274877906944) <|
   call (ziJ (r_14++([10]:Str))) fun r_23 =>
   bif !decide (r_23=r_4.1)then
    call (zau 14) fun r_15 =>
    some (r_15.1,r_15.2)
   else
   call (zaF (api_Journal.mk r_5.1 r_2.1 o2_2_11)) fun r_6 =>
   bif !decide (r_6.2=0)then
    call (zau r_6.2) fun r_16 =>
    some (r_16.1,r_16.2)
   else
   bif !decide (r_6.1=s_8)then
    call (zau 8) fun r_17 =>
    some (r_17.1,r_17.2)
   else
   some ((api_Journal.mk r_5.1 r_2.1 o2_2_11),0)) fun k_18 =>
 bif r_2.2.1 then
  call (zal ([111,108,100]:Str) r_2.2.2 r_1.1) fun r_7 =>
  k_18 (r_7.2.1,r_7.1,r_7.2.2)
 else
 k_18 (false,[],r_2.2.2)
noncomputable def znz(m_3:api_Machine):Option (api_Journal×Int) :=
 call (zbP m_3) fun r_4 =>
 zhb (zu r_4.1 ([115,116,97,103,101,47,106,111,117,114,110,97,108]:Str)) fun q_1 =>
 bif !q_1.isSome then
  some ((api_Journal.mk [] [] []),0)
 else
 call (za7 ((q_1.getD (api_File.mk [] [] false)).Data)) fun r_2 =>
 bif !decide (r_2.2=0)then
  some ((api_Journal.mk [] [] []),1)
 else
 some (r_2.1,2)
noncomputable def R_Diff(a_29:api_Machine)(b_30:api_Machine):Option (List api_Change) :=
 call (zbP a_29) fun r_2 =>
 call (zbP b_30) fun r_1 =>
 jp (S:=List api_Change) (fun o12_31 =>
  jp (S:=List api_Change) (fun o12_32 =>
   jp (S:=List api_Change) (fun o12_33 =>
    jp (S:=List api_Change) (fun o12_34 =>
     jp (S:=List api_Change) (fun o12_35 =>
      jp (S:=List api_Change) (fun o12_36 =>
       some o12_36) fun k_37 =>
      call (zab r_1.2.2.1) fun r_38 =>
      forL r_38 0 (fun i_53 s_13 o12_3 nx_19 k_54 =>
       zhb (zu r_2.2.2.1 s_13) fun q_4 =>
       zhb (zu r_1.2.2.1 s_13) fun q_11 =>
       bif ((!q_4.isSome)||(!((decide (((q_4.getD (api_Service.mk [] [] false false)).Name)=((q_11.getD (api_Service.mk [] [] false false)).Name)))&&((decide (((q_4.getD (api_Service.mk [] [] false false)).Path)=((q_11.getD (api_Service.mk [] [] false false)).Path)))&&((decide (((q_4.getD (api_Service.mk [] [] false false)).Auto)=((q_11.getD (api_Service.mk [] [] false false)).Auto)))&&(decide (((q_4.getD (api_Service.mk [] [] false false)).On)=((q_11.getD (api_Service.mk [] [] false false)).On))))))))then
        zhb (zu r_1.2.2.1 s_13) fun q_20 =>
        chk ((o12_3++[(api_Change.mk 5 (api_File.mk [] [] false) (api_Setting.mk [] []) (q_20.getD (api_Service.mk [] [] false false)))]).length≤274877906944) <|
        nx_19 (o12_3++[(api_Change.mk 5 (api_File.mk [] [] false) (api_Setting.mk [] []) (q_20.getD (api_Service.mk [] [] false false)))])
       else
       nx_19 o12_3) o12_35 (fun o12_3 =>
       k_37 o12_3)) fun k_39 =>
     call (zaM r_1.2.1) fun r_40 =>
     forL r_40 0 (fun i_55 s_5 o12_6 nx_21 k_56 =>
      zhb (zu r_2.2.1 s_5) fun q_22 =>
      zhb (zu r_1.2.1 s_5) fun q_41 =>
      bif ((!q_22.isSome)||(!decide ((q_22.getD [])=(q_41.getD []))))then
       zhb (zu r_1.2.1 s_5) fun q_23 =>
       chk ((o12_6++[(api_Change.mk 3 (api_File.mk [] [] false) (api_Setting.mk s_5 (q_23.getD [])) (api_Service.mk [] [] false false))]).length≤274877906944) <|
       nx_21 (o12_6++[(api_Change.mk 3 (api_File.mk [] [] false) (api_Setting.mk s_5 (q_23.getD [])) (api_Service.mk [] [] false false))])
      else
      nx_21 o12_6) o12_34 (fun o12_6 =>
      k_39 o12_6)) fun k_42 =>
    call (zaa r_1.1) fun r_43 =>
    forL r_43 0 (fun i_57 s_14 o12_7 nx_24 k_58 =>
     zhb (zu r_2.1 s_14) fun q_12 =>
     zhb (zu r_1.1 s_14) fun q_15 =>
     bif ((!q_12.isSome)||(!((decide (((q_12.getD (api_File.mk [] [] false)).Path)=((q_15.getD (api_File.mk [] [] false)).Path)))&&((decide (((q_12.getD (api_File.mk [] [] false)).Data)=((q_15.getD (api_File.mk [] [] false)).Data)))&&(decide (((q_12.getD (api_File.mk [] [] false)).Runs)=((q_15.getD (api_File.mk [] [] false)).Runs)))))))then
      zhb (zu r_1.1 s_14) fun q_25 =>
      chk ((o12_7++[(api_Change.mk 1 (q_25.getD (api_File.mk [] [] false)) (api_Setting.mk [] []) (api_Service.mk [] [] false false))]).length≤274877906944) <|
      nx_24 (o12_7++[(api_Change.mk 1 (q_25.getD (api_File.mk [] [] false)) (api_Setting.mk [] []) (api_Service.mk [] [] false false))])
     else
     nx_24 o12_7) o12_33 (fun o12_7 =>
     k_42 o12_7)) fun k_44 =>
   call (zab r_2.2.2.1) fun r_45 =>
   forL r_45 0 (fun i_59 s_16 o12_8 nx_26 k_60 =>
    zhb (zu r_1.2.2.1 s_16) fun q_46 =>
    bif !q_46.isSome then
     chk ((o12_8++[(api_Change.mk 6 (api_File.mk [] [] false) (api_Setting.mk [] []) (api_Service.mk s_16 [] false false))]).length≤274877906944) <|
     nx_26 (o12_8++[(api_Change.mk 6 (api_File.mk [] [] false) (api_Setting.mk [] []) (api_Service.mk s_16 [] false false))])
    else
    nx_26 o12_8) o12_32 (fun o12_8 =>
    k_44 o12_8)) fun k_47 =>
  call (zaM r_2.2.1) fun r_48 =>
  forL r_48 0 (fun i_61 s_17 o12_9 nx_27 k_62 =>
   zhb (zu r_1.2.1 s_17) fun q_49 =>
   bif !q_49.isSome then
    chk ((o12_9++[(api_Change.mk 4 (api_File.mk [] [] false) (api_Setting.mk s_17 []) (api_Service.mk [] [] false false))]).length≤274877906944) <|
    nx_27 (o12_9++[(api_Change.mk 4 (api_File.mk [] [] false) (api_Setting.mk s_17 []) (api_Service.mk [] [] false false))])
   else
   nx_27 o12_9) o12_31 (fun o12_9 =>
   k_47 o12_9)) fun k_50 =>
 call (zaa r_2.1) fun r_51 =>
 forL r_51 0 (fun i_63 s_18 o12_10 nx_28 k_64 =>
  zhb (zu r_1.1 s_18) fun q_52 =>
  bif !q_52.isSome then
   chk ((o12_10++[(api_Change.mk 2 (api_File.mk s_18 [] false) (api_Setting.mk [] []) (api_Service.mk [] [] false false))]).length≤274877906944) <|
   nx_28 (o12_10++[(api_Change.mk 2 (api_File.mk s_18 [] false) (api_Setting.mk [] []) (api_Service.mk [] [] false false))])
  else
  nx_28 o12_10) [] (fun o12_10 =>
  k_50 o12_10)
noncomputable def R_Undo(m_2:api_Machine)(l_3:List api_Change):Option (List api_Change×Int) :=
 call (zfI m_2 l_3) fun r_1 =>
 bif !decide (r_1.2=0)then
  some ([],r_1.2)
 else
 call (R_Diff r_1.1 m_2) fun r_4 =>
 some (r_4,0)
noncomputable def zc5(path_1:Str):Option api_Change :=
 some (api_Change.mk 2 (api_File.mk path_1 [] false) (api_Setting.mk [] []) (api_Service.mk [] [] false false))
noncomputable def zcc(last_6:Str)(o0_0_14:List api_Setting)(m1_9:List (Str×api_File))(m2_15:List (Str×Str))(m3_16:List (Str×api_Service)):Option (List api_Change) :=
 jp (S:=Bool×List api_Change) (fun s=>match s with
  |(end_10,o4_3) =>
   bif end_10 then
    call (zc5 last_6) fun r_7 =>
    chk ((o4_3++[r_7]).length≤274877906944) <|
    some (o4_3++[r_7])
   else
   some o4_3) fun k_11 =>
 call (zaa m1_9) fun r_12 =>
 forL r_12 0 (fun i_17 s_4 s nx_5 k_18 =>
  match s with
  |(end_2,o4_1) =>
   bif decide (s_4=last_6)then
    nx_5 (true,o4_1)
   else
   call (zeG s_4) fun r_13 =>
   bif r_13 then
    call (zc5 s_4) fun r_8 =>
    chk ((o4_1++[r_8]).length≤274877906944) <|
    nx_5 (end_2,o4_1++[r_8])
   else
   nx_5 (end_2,o4_1)) (false,[]) (fun s=>match s with
  |(end_2,o4_1) =>
   k_11 (end_2,o4_1))
noncomputable def R_put(path_1:Str)(data_2:Str):Option api_Change :=
 some (api_Change.mk 1 (api_File.mk path_1 data_2 false) (api_Setting.mk [] []) (api_Service.mk [] [] false false))
noncomputable def zjz(m_3:api_Machine)(id_6:Str)(l_1:List api_Change):Option (List api_Change×Int) :=
 call (zbg m_3 l_1) fun r_12 =>
 bif !decide (r_12=0)then
  some ([],r_12)
 else
 call (zbP m_3) fun r_2 =>
 zhb (zu r_2.1 ([115,116,97,103,101,47,100,111,110,101]:Str)) fun q_14 =>
 zhb (zu r_2.1 ([115,116,97,103,101,47,98,97,99,107]:Str)) fun q_15 =>
 call (znz m_3) fun r_16 =>
 call (zes id_6) fun r_17 =>
 bif !r_17 then
  some ([],5)
 else
 bif ((q_14.isSome||q_15.isSome)||(decide (r_16.2=2)))then
  some ([],12)
 else
 call (zkc m_3) fun r_18 =>
 call (R_Undo r_18 l_1) fun r_7 =>
 bif !decide (r_7.2=0)then
  some ([],r_7.2)
 else
 call (zaF (api_Journal.mk id_6 l_1 r_7.1)) fun r_8 =>
 bif !decide (r_8.2=0)then
  some ([],r_8.2)
 else
 call (zcc ([115,116,97,103,101,47,106,111,117,114,110,97,108]:Str) r_2.2.2.2 r_2.1 r_2.2.1 r_2.2.2.1) fun r_4 =>
 call (R_put ([115,116,97,103,101,47,106,111,117,114,110,97,108]:Str) r_8.1) fun r_5 =>
 chk ((r_4++[r_5]).length≤274877906944) <|
 chk (((r_4++[r_5])++l_1).length≤274877906944) <|
 call (R_put ([115,116,97,103,101,47,100,111,110,101]:Str) id_6) fun r_9 =>
 call (zc5 ([115,116,97,103,101,47,106,111,117,114,110,97,108]:Str)) fun r_10 =>
 call (zc5 ([115,116,97,103,101,47,100,111,110,101]:Str)) fun r_11 =>
 chk ((((r_4++[r_5])++l_1)++[r_9,r_10,r_11]).length≤274877906944) <|
 call (zfI m_3 (((r_4++[r_5])++l_1)++[r_9,r_10,r_11])) fun r_13 =>
 bif !decide (r_13.2=0)then
  some ([],r_13.2)
 else
 some (((r_4++[r_5])++l_1)++[r_9,r_10,r_11],0)
noncomputable def zJ(s1_3:List api_Change)(s2_4:List api_Change):Option Bool :=
 bif !decide ((s1_3.length:Int)=(s2_4.length:Int))then
  some false
 else
 jp (S:=Unit) (fun _ =>
  some true) fun k_5 =>
 forL s1_3 0 (fun i_6 c_1 s nx_7 k_8 =>
  idx s2_4 (i_6:Int) fun c_2 =>
  bif !((decide (c_1.Kind=c_2.Kind))&&((decide (c_1.File.Path=c_2.File.Path))&&((decide (c_1.File.Data=c_2.File.Data))&&((decide (c_1.File.Runs=c_2.File.Runs))&&((decide (c_1.Setting.Key=c_2.Setting.Key))&&((decide (c_1.Setting.Value=c_2.Setting.Value))&&((decide (c_1.Service.Name=c_2.Service.Name))&&((decide (c_1.Service.Path=c_2.Service.Path))&&((decide (c_1.Service.Auto=c_2.Service.Auto))&&(decide (c_1.Service.On=c_2.Service.On)))))))))))then
   some false
  else
  nx_7 ()) () (fun _ =>
  k_5 ())
noncomputable def zcz(a_1:api_Journal)(b_2:api_Journal):Option Bool :=
 callG (decide (a_1.Id=b_2.Id)) (zJ a_1.Changes b_2.Changes) false fun r_3 =>
 callG ((decide (a_1.Id=b_2.Id))&&r_3) (zJ a_1.Old b_2.Old) false fun r_4 =>
 some (((decide (a_1.Id=b_2.Id))&&r_3)&&r_4)
noncomputable def zeZ(l_10:List api_Change)(o0_1_11:Bool)(o0_2_12:Int)(o0_3_13:Bool)(o0_4_14:Bool)(o0_5_15:Int)(o1_0_16:List api_Setting)(m2_17:List (Str×api_File))(m3_18:List (Str×Str))(m4_19:List (Str×api_Service)):Option (Int×Bool×Int×Bool×Int×List api_Setting×(List (Str×api_File))×(List (Str×Str))×(List (Str×api_Service))) :=
 jp (S:=Bool×Int×Bool×Int×List api_Setting×(List (Str×api_File))×(List (Str×Str))×(List (Str×api_Service))) (fun s=>match s with
  |(o0_1_20,o0_2_21,o0_4_22,o0_5_23,o1_0_24,m2_25,m3_26,m4_27) =>
   some (0,o0_1_20,o0_2_21,o0_4_22,o0_5_23,o1_0_24,m2_25,m3_26,m4_27)) fun k_28 =>
 forL l_10 0 (fun i_31 c_29 s nx_30 k_32 =>
  match s with
  |(o0_1_2,o0_2_3,o0_4_4,o0_5_5,o1_0_6,m2_7,m3_8,m4_9) =>
   call (zdp c_29 o0_1_2 o0_2_3 o0_3_13 o0_4_4 o0_5_5 o1_0_6 m2_7 m3_8 m4_9) fun r_1 =>
   bif !decide (r_1.1=0)then
    some (r_1.1,r_1.2.1,r_1.2.2.2.2.1,r_1.2.2.1,r_1.2.2.2.1,r_1.2.2.2.2.2.1,r_1.2.2.2.2.2.2.1,r_1.2.2.2.2.2.2.2.1,r_1.2.2.2.2.2.2.2.2)
   else
   nx_30 (r_1.2.1,r_1.2.2.2.2.1,r_1.2.2.1,r_1.2.2.2.1,r_1.2.2.2.2.2.1,r_1.2.2.2.2.2.2.1,r_1.2.2.2.2.2.2.2.1,r_1.2.2.2.2.2.2.2.2)) (o0_1_11,o0_2_12,o0_4_14,o0_5_15,o1_0_16,m2_17,m3_18,m4_19) (fun s=>match s with
  |(o0_1_2,o0_2_3,o0_4_4,o0_5_5,o1_0_6,m2_7,m3_8,m4_9) =>
   k_28 (o0_1_2,o0_2_3,o0_4_4,o0_5_5,o1_0_6,m2_7,m3_8,m4_9))
noncomputable def zjA(id_13:Str)(l_14:List api_Change)(o0_1_2:Bool)(o0_2_3:Int)(o0_3_12:Bool)(o0_4_4:Bool)(o0_5_5:Int)(o1_0_6:List api_Setting)(m2_7:List (Str×api_File))(m3_8:List (Str×Str))(m4_9:List (Str×api_Service)):Option (Int×Bool×Int×Bool×Int×List api_Setting×(List (Str×api_File))×(List (Str×Str))×(List (Str×api_Service))) :=
 call (zbQ o0_1_2 o0_2_3 o0_3_12 o0_4_4 o0_5_5 o1_0_6 m2_7 m3_8 m4_9) fun r_10 =>
 bif !decide (r_10.2=0)then
  some (r_10.2,o0_1_2,o0_2_3,o0_4_4,o0_5_5,o1_0_6,m2_7,m3_8,m4_9)
 else
 call (zjz r_10.1 id_13 l_14) fun r_11 =>
 bif !decide (r_11.2=0)then
  some (r_11.2,o0_1_2,o0_2_3,o0_4_4,o0_5_5,o1_0_6,m2_7,m3_8,m4_9)
 else
 call (zeZ r_11.1 o0_1_2 o0_2_3 o0_3_12 o0_4_4 o0_5_5 o1_0_6 m2_7 m3_8 m4_9) fun r_1 =>
 some (r_1.1,r_1.2.1,r_1.2.2.1,r_1.2.2.2.1,r_1.2.2.2.2.1,r_1.2.2.2.2.2.1,r_1.2.2.2.2.2.2.1,r_1.2.2.2.2.2.2.2.1,r_1.2.2.2.2.2.2.2.2)
noncomputable def zfN(m_1:api_Machine):Option (api_Journal×Int×Int) :=
 call (zf9 m_1) fun r_2 =>
 bif !decide (r_2=0)then
  some ((api_Journal.mk [] [] []),0,r_2)
 else
 call (zfM m_1) fun r_3 =>
 some (r_3.1,r_3.2,0)
noncomputable def zet(m_8:api_Machine)(id_9:Str)(l_10:List api_Change)(cut_11:Int)(torn_12:Bool):Option Bool :=
 call (zgj) fun r_13 =>
 bif !r_13 then
  some false
 else
 call (zmx m_8) fun r_6 =>
 call (zgi r_6 l_10 false) fun r_14 =>
 call (zhq r_6) fun r_1 =>
 call (zdT (min (max cut_11 0) 40) torn_12 r_1.2.2.2.2.2.2.2.2.1 r_1.2.2.2.2.2.2.2.2.2.1 r_1.2.2.2.2.2.2.2.2.2.2.1 r_1.2.2.2.2.2.2.2.2.2.2.2.1 r_1.2.2.2.2.2.2.2.2.2.2.2.2 r_1.2.2.2.2.2.2.2.1 r_1.2.2.2.2.1 r_1.2.2.2.2.2.1 r_1.2.2.2.2.2.2.1) fun r_4 =>
 call (zjA id_9 r_14 r_1.2.2.2.2.2.2.2.2.1 r_4.2.1 r_4.2.2.1 r_4.2.2.2 r_1.2.2.2.2.2.2.2.2.2.2.2.2 r_1.2.2.2.2.2.2.2.1 r_1.2.2.2.2.1 r_1.2.2.2.2.2.1 r_1.2.2.2.2.2.2.1) fun r_2 =>
 call (zc2 r_2.2.1 r_2.2.2.1 r_4.2.2.1 r_2.2.2.2.1 r_2.2.2.2.2.1 r_2.2.2.2.2.2.1 r_2.2.2.2.2.2.2.1 r_2.2.2.2.2.2.2.2.1 r_2.2.2.2.2.2.2.2.2) fun r_7 =>
 call (zfN r_7) fun r_3 =>
 call (znz r_7) fun r_5 =>
 callG ((decide (r_3.2.2=0))&&(decide (r_3.2.1=r_5.2))) (zcz r_3.1 r_5.1) false fun r_15 =>
 some (((decide (r_3.2.2=0))&&(decide (r_3.2.1=r_5.2)))&&r_15)
end Go.Md
