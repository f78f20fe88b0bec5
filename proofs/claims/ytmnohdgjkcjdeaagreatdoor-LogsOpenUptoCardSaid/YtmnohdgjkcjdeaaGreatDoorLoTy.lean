/- What the program's types are, as the machine reads them. -/
import Derived.Test.YtmnohdgjkcjdeaaGreatDoorVc3
import Derived.Test.YtmnohdgjkcjdeaaGreatDoorProg
import Derived.KernelRfl
namespace Go.Proofs.YtmnohdgjkcjdeaaGreatDoor
open Go.Vc
theorem ti_3:tiP Tryz.prog 3=some ⟨false,1,[.int .i64 0],.int .i64⟩:=by kernel_rfl
theorem kd_3:zai Tryz.prog 3=.int .i64:=by kernel_rfl
theorem kd_4:zai Tryz.prog 4=.bool:=by kernel_rfl
theorem ti_5:tiP Tryz.prog 5=some ⟨false,1,[.int .u8 0],.int .u8⟩:=by kernel_rfl
theorem kd_5:zai Tryz.prog 5=.int .u8:=by kernel_rfl
theorem ti_9:tiP Tryz.prog 9=some ⟨false,1,[.string ⟨#[]⟩],.str⟩:=by kernel_rfl
theorem kd_9:zai Tryz.prog 9=.str:=by kernel_rfl
theorem ti_22:tiP Tryz.prog 22=some ⟨false,1,[.slice none 0 0],.slice 30 13 136 [.int .i64 0,.int .i64 0,.string ⟨#[]⟩,.int .i64 0,.int .i64 0,.int .i64 0,.string ⟨#[]⟩,.int .i64 0,.int .i64 0,.int .i64 0,.string ⟨#[]⟩,.int .i64 0,.string ⟨#[]⟩]⟩:=by kernel_rfl
theorem kd_22:zai Tryz.prog 22=.slice 30 13 136 [.int .i64 0,.int .i64 0,.string ⟨#[]⟩,.int .i64 0,.int .i64 0,.int .i64 0,.string ⟨#[]⟩,.int .i64 0,.int .i64 0,.int .i64 0,.string ⟨#[]⟩,.int .i64 0,.string ⟨#[]⟩]:=by kernel_rfl
theorem ti_27:tiP Tryz.prog 27=some ⟨true,4,[.int .i64 0,.int .i64 0,.int .i64 0,.string ⟨#[]⟩],.struct [(0,1,false),(1,1,false),(2,1,false),(3,1,false)]⟩:=by kernel_rfl
theorem kd_27:zai Tryz.prog 27=.struct [(0,1,false),(1,1,false),(2,1,false),(3,1,false)]:=by kernel_rfl
theorem ti_28:tiP Tryz.prog 28=some ⟨false,1,[.int .i64 0],.int .i64⟩:=by kernel_rfl
theorem kd_28:zai Tryz.prog 28=.int .i64:=by kernel_rfl
theorem ti_30:tiP Tryz.prog 30=some ⟨true,13,[.int .i64 0,.int .i64 0,.string ⟨#[]⟩,.int .i64 0,.int .i64 0,.int .i64 0,.string ⟨#[]⟩,.int .i64 0,.int .i64 0,.int .i64 0,.string ⟨#[]⟩,.int .i64 0,.string ⟨#[]⟩],.struct [(0,1,false),(1,1,false),(2,1,false),(3,4,true),(7,4,true),(11,1,false),(12,1,false)]⟩:=by kernel_rfl
theorem kd_30:zai Tryz.prog 30=.struct [(0,1,false),(1,1,false),(2,1,false),(3,4,true),(7,4,true),(11,1,false),(12,1,false)]:=by kernel_rfl
theorem ti_43:tiP Tryz.prog 43=some ⟨false,1,[.slice none 0 0],.slice 5 1 1 [.int .u8 0]⟩:=by kernel_rfl
theorem kd_43:zai Tryz.prog 43=.slice 5 1 1 [.int .u8 0]:=by kernel_rfl
theorem ti_50:tiP Tryz.prog 50=some ⟨false,1,[.slice none 0 0],.slice 9 1 16 [.string ⟨#[]⟩]⟩:=by kernel_rfl
theorem kd_50:zai Tryz.prog 50=.slice 9 1 16 [.string ⟨#[]⟩]:=by kernel_rfl
theorem ti_57:tiP Tryz.prog 57=some ⟨true,6,[.string ⟨#[]⟩,.int .i64 0,.int .i64 0,.int .i64 0,.string ⟨#[]⟩,.int .i64 0],.struct [(0,1,false),(1,4,true),(5,1,false)]⟩:=by kernel_rfl
theorem ti_60:tiP Tryz.prog 60=some ⟨false,1,[.pointer none],.ptr 99⟩:=by kernel_rfl
theorem ti_63:tiP Tryz.prog 63=some ⟨true,4,[.slice none 0 0,.slice none 0 0,.string ⟨#[]⟩,.pointer none],.struct [(0,1,false),(1,1,false),(2,1,false),(3,1,false)]⟩:=by kernel_rfl
theorem kd_68:zai Tryz.prog 68=.map 9 57:=by kernel_rfl
theorem ti_73:tiP Tryz.prog 73=some ⟨false,1,[.pointer none],.ptr 75⟩:=by kernel_rfl
theorem kd_73:zai Tryz.prog 73=.ptr 75:=by kernel_rfl
theorem ti_75:tiP Tryz.prog 75=some ⟨true,2,[.pointer none,.slice none 0 0],.struct [(0,1,false),(1,1,false)]⟩:=by kernel_rfl
theorem kd_77:zai Tryz.prog 77=.other:=by kernel_rfl
theorem ti_97:tiP Tryz.prog 97=some ⟨false,1,[.map none],.map 9 114⟩:=by kernel_rfl
theorem kd_97:zai Tryz.prog 97=.map 9 114:=by kernel_rfl
theorem ti_99:tiP Tryz.prog 99=some ⟨true,2,[.map none,.int .i64 0],.struct [(0,1,false),(1,1,false)]⟩:=by kernel_rfl
theorem ti_100:tiP Tryz.prog 100=some ⟨false,1,[.slice none 0 0],.slice 28 1 8 [.int .i64 0]⟩:=by kernel_rfl
theorem kd_100:zai Tryz.prog 100=.slice 28 1 8 [.int .i64 0]:=by kernel_rfl
theorem ti_101:tiP Tryz.prog 101=some ⟨false,1,[.slice none 0 0],.slice 27 4 40 [.int .i64 0,.int .i64 0,.int .i64 0,.string ⟨#[]⟩]⟩:=by kernel_rfl
theorem kd_101:zai Tryz.prog 101=.slice 27 4 40 [.int .i64 0,.int .i64 0,.int .i64 0,.string ⟨#[]⟩]:=by kernel_rfl
theorem ti_102:tiP Tryz.prog 102=some ⟨false,1,[.slice none 0 0],.slice 3 1 8 [.int .i64 0]⟩:=by kernel_rfl
theorem kd_102:zai Tryz.prog 102=.slice 3 1 8 [.int .i64 0]:=by kernel_rfl
theorem ti_109:tiP Tryz.prog 109=some ⟨true,8,[.int .i64 0,.int .i64 0,.int .i64 0,.string ⟨#[]⟩,.int .i64 0,.int .i64 0,.int .i64 0,.string ⟨#[]⟩],.arr 2 27 4 true⟩:=by kernel_rfl
theorem ti_114:tiP Tryz.prog 114=some ⟨true,5,[.int .i64 0,.int .i64 0,.int .i64 0,.string ⟨#[]⟩,.int .i64 0],.struct [(0,4,true),(4,1,false)]⟩:=by kernel_rfl
theorem kd_119:zai Tryz.prog 119=.int .u64:=by kernel_rfl
theorem ti_135:tiP Tryz.prog 135=some ⟨false,1,[.pointer none],.ptr 27⟩:=by kernel_rfl
theorem kd_135:zai Tryz.prog 135=.ptr 27:=by kernel_rfl
theorem ti_136:tiP Tryz.prog 136=some ⟨false,1,[.slice none 0 0],.slice 135 1 8 [.pointer none]⟩:=by kernel_rfl
theorem kd_136:zai Tryz.prog 136=.slice 135 1 8 [.pointer none]:=by kernel_rfl
theorem ti_147:tiP Tryz.prog 147=some ⟨true,3,[.int .i64 0,.int .i64 0,.int .i64 0],.arr 3 3 1 false⟩:=by kernel_rfl
theorem ti_149:tiP Tryz.prog 149=some ⟨false,1,[.int .u64 0],.int .u64⟩:=by kernel_rfl
theorem kd_149:zai Tryz.prog 149=.int .u64:=by kernel_rfl
theorem ti_153:tiP Tryz.prog 153=some ⟨false,1,[.pointer none],.other⟩:=by kernel_rfl
theorem kd_153:zai Tryz.prog 153=.other:=by kernel_rfl
theorem kd_159:zai Tryz.prog 159=.int .u32:=by kernel_rfl
theorem ti_179:tiP Tryz.prog 179=some ⟨true,24,[.int .u8 0,.int .u8 0,.int .u8 0,.int .u8 0,.int .u8 0,.int .u8 0,.int .u8 0,.int .u8 0,.int .u8 0,.int .u8 0,.int .u8 0,.int .u8 0,.int .u8 0,.int .u8 0,.int .u8 0,.int .u8 0,.int .u8 0,.int .u8 0,.int .u8 0,.int .u8 0,.int .u8 0,.int .u8 0,.int .u8 0,.int .u8 0],.arr 24 5 1 false⟩:=by kernel_rfl
theorem ti_202:tiP Tryz.prog 202=some ⟨true,65,[.int .u8 0,.int .u8 0,.int .u8 0,.int .u8 0,.int .u8 0,.int .u8 0,.int .u8 0,.int .u8 0,.int .u8 0,.int .u8 0,.int .u8 0,.int .u8 0,.int .u8 0,.int .u8 0,.int .u8 0,.int .u8 0,.int .u8 0,.int .u8 0,.int .u8 0,.int .u8 0,.int .u8 0,.int .u8 0,.int .u8 0,.int .u8 0,.int .u8 0,.int .u8 0,.int .u8 0,.int .u8 0,.int .u8 0,.int .u8 0,.int .u8 0,.int .u8 0,.int .u8 0,.int .u8 0,.int .u8 0,.int .u8 0,.int .u8 0,.int .u8 0,.int .u8 0,.int .u8 0,.int .u8 0,.int .u8 0,.int .u8 0,.int .u8 0,.int .u8 0,.int .u8 0,.int .u8 0,.int .u8 0,.int .u8 0,.int .u8 0,.int .u8 0,.int .u8 0,.int .u8 0,.int .u8 0,.int .u8 0,.int .u8 0,.int .u8 0,.int .u8 0,.int .u8 0,.int .u8 0,.int .u8 0,.int .u8 0,.int .u8 0,.int .u8 0,.int .u8 0],.arr 65 5 1 false⟩:=by kernel_rfl
theorem ti_228:tiP Tryz.prog 228=some ⟨true,64,[.int .u8 0,.int .u8 0,.int .u8 0,.int .u8 0,.int .u8 0,.int .u8 0,.int .u8 0,.int .u8 0,.int .u8 0,.int .u8 0,.int .u8 0,.int .u8 0,.int .u8 0,.int .u8 0,.int .u8 0,.int .u8 0,.int .u8 0,.int .u8 0,.int .u8 0,.int .u8 0,.int .u8 0,.int .u8 0,.int .u8 0,.int .u8 0,.int .u8 0,.int .u8 0,.int .u8 0,.int .u8 0,.int .u8 0,.int .u8 0,.int .u8 0,.int .u8 0,.int .u8 0,.int .u8 0,.int .u8 0,.int .u8 0,.int .u8 0,.int .u8 0,.int .u8 0,.int .u8 0,.int .u8 0,.int .u8 0,.int .u8 0,.int .u8 0,.int .u8 0,.int .u8 0,.int .u8 0,.int .u8 0,.int .u8 0,.int .u8 0,.int .u8 0,.int .u8 0,.int .u8 0,.int .u8 0,.int .u8 0,.int .u8 0,.int .u8 0,.int .u8 0,.int .u8 0,.int .u8 0,.int .u8 0,.int .u8 0,.int .u8 0,.int .u8 0],.arr 64 5 1 false⟩:=by kernel_rfl
theorem kk_9:kkP Tryz.prog 9=.tk .str:=by kernel_rfl
theorem zf_57:zfP Tryz.prog 57=true:=by kernel_rfl
theorem zf_114:zfP Tryz.prog 114=true:=by kernel_rfl
theorem eq_7:eqTyP Tryz.prog 7=some [.i .i64,.i .i64,.b,.i .u8]:=by kernel_rfl
theorem eq_8:eqTyP Tryz.prog 8=some [.i .i64,.i .i64,.b,.i .u8]:=by kernel_rfl
theorem eq_27:eqTyP Tryz.prog 27=some [.i .i64,.i .i64,.i .i64,.s]:=by kernel_rfl
theorem ag_27:zd0 Tryz.prog 27=true:=by kernel_rfl
theorem eq_30:eqTyP Tryz.prog 30=some [.i .i64,.i .i64,.s,.i .i64,.i .i64,.i .i64,.s,.i .i64,.i .i64,.i .i64,.s,.i .i64,.s]:=by kernel_rfl
theorem ag_30:zd0 Tryz.prog 30=true:=by kernel_rfl
attribute [go_sem] ti_3 kd_3 kd_4 ti_5 kd_5 ti_9 kd_9
attribute [go_sem] ti_22 kd_22 ti_27 kd_27 ti_28 kd_28 ti_30 kd_30
attribute [go_sem] ti_43 kd_43 ti_50 kd_50 ti_57 ti_60 ti_63
attribute [go_sem] kd_68 ti_73 kd_73 ti_75 kd_77
attribute [go_sem] ti_97 kd_97 ti_99 ti_100 kd_100 ti_101 kd_101 ti_102 kd_102
attribute [go_sem] ti_109 ti_114 kd_119
attribute [go_sem] ti_135 kd_135 ti_136 kd_136 ti_147 ti_149 kd_149 ti_153 kd_153
attribute [go_sem] kd_159 ti_179
attribute [go_sem] ti_202
attribute [go_sem] ti_228 kk_9
attribute [go_sem] zf_57
attribute [go_sem] zf_114
attribute [go_sem] eq_7 eq_8
attribute [go_sem] eq_27 ag_27 eq_30 ag_30
end Go.Proofs.YtmnohdgjkcjdeaaGreatDoor
