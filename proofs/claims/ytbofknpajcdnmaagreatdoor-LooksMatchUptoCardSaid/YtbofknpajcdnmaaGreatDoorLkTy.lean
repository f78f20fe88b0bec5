/- What the program's types are, as the machine reads them. -/
import Derived.Test.YtbofknpajcdnmaaGreatDoorVc3
import Derived.Test.YtbofknpajcdnmaaGreatDoorProg
import Derived.KernelRfl
namespace Go.Proofs.YtbofknpajcdnmaaGreatDoor
open Go.Vc
theorem ti_3:tiP Tryz.prog 3=some ⟨false,1,[.int .i64 0],.int .i64⟩:=by kernel_rfl
theorem kd_3:zam Tryz.prog 3=.int .i64:=by kernel_rfl
theorem ti_4:tiP Tryz.prog 4=some ⟨false,1,[.bool false],.bool⟩:=by kernel_rfl
theorem ti_5:tiP Tryz.prog 5=some ⟨false,1,[.int .u8 0],.int .u8⟩:=by kernel_rfl
theorem kd_5:zam Tryz.prog 5=.int .u8:=by kernel_rfl
theorem ti_9:tiP Tryz.prog 9=some ⟨false,1,[.string ⟨#[]⟩],.str⟩:=by kernel_rfl
theorem kd_9:zam Tryz.prog 9=.str:=by kernel_rfl
theorem ti_22:tiP Tryz.prog 22=some ⟨false,1,[.slice none 0 0],.slice 40 2 32 [.string ⟨#[]⟩,.string ⟨#[]⟩]⟩:=by kernel_rfl
theorem kd_22:zam Tryz.prog 22=.slice 40 2 32 [.string ⟨#[]⟩,.string ⟨#[]⟩]:=by kernel_rfl
theorem ti_23:tiP Tryz.prog 23=some ⟨false,1,[.slice none 0 0],.slice 38 3 40 [.string ⟨#[]⟩,.string ⟨#[]⟩,.bool false]⟩:=by kernel_rfl
theorem kd_23:zam Tryz.prog 23=.slice 38 3 40 [.string ⟨#[]⟩,.string ⟨#[]⟩,.bool false]:=by kernel_rfl
theorem ti_24:tiP Tryz.prog 24=some ⟨false,1,[.slice none 0 0],.slice 42 4 40 [.string ⟨#[]⟩,.string ⟨#[]⟩,.bool false,.bool false]⟩:=by kernel_rfl
theorem kd_24:zam Tryz.prog 24=.slice 42 4 40 [.string ⟨#[]⟩,.string ⟨#[]⟩,.bool false,.bool false]:=by kernel_rfl
theorem ti_26:tiP Tryz.prog 26=some ⟨true,4,[.slice none 0 0,.slice none 0 0,.slice none 0 0,.slice none 0 0],.struct [(0,1,false),(1,1,false),(2,1,false),(3,1,false)]⟩:=by kernel_rfl
theorem ti_29:tiP Tryz.prog 29=some ⟨false,1,[.int .i64 0],.int .i64⟩:=by kernel_rfl
theorem kd_29:zam Tryz.prog 29=.int .i64:=by kernel_rfl
theorem ti_38:tiP Tryz.prog 38=some ⟨true,3,[.string ⟨#[]⟩,.string ⟨#[]⟩,.bool false],.struct [(0,1,false),(1,1,false),(2,1,false)]⟩:=by kernel_rfl
theorem kd_38:zam Tryz.prog 38=.struct [(0,1,false),(1,1,false),(2,1,false)]:=by kernel_rfl
theorem ti_40:tiP Tryz.prog 40=some ⟨true,2,[.string ⟨#[]⟩,.string ⟨#[]⟩],.struct [(0,1,false),(1,1,false)]⟩:=by kernel_rfl
theorem kd_40:zam Tryz.prog 40=.struct [(0,1,false),(1,1,false)]:=by kernel_rfl
theorem ti_42:tiP Tryz.prog 42=some ⟨true,4,[.string ⟨#[]⟩,.string ⟨#[]⟩,.bool false,.bool false],.struct [(0,1,false),(1,1,false),(2,1,false),(3,1,false)]⟩:=by kernel_rfl
theorem kd_42:zam Tryz.prog 42=.struct [(0,1,false),(1,1,false),(2,1,false),(3,1,false)]:=by kernel_rfl
theorem ti_44:tiP Tryz.prog 44=some ⟨true,10,[.int .i64 0,.string ⟨#[]⟩,.string ⟨#[]⟩,.bool false,.string ⟨#[]⟩,.string ⟨#[]⟩,.string ⟨#[]⟩,.string ⟨#[]⟩,.bool false,.bool false],.struct [(0,1,false),(1,3,true),(4,2,true),(6,4,true)]⟩:=by kernel_rfl
theorem kd_44:zam Tryz.prog 44=.struct [(0,1,false),(1,3,true),(4,2,true),(6,4,true)]:=by kernel_rfl
theorem ti_56:tiP Tryz.prog 56=some ⟨false,1,[.slice none 0 0],.slice 44 10 120 [.int .i64 0,.string ⟨#[]⟩,.string ⟨#[]⟩,.bool false,.string ⟨#[]⟩,.string ⟨#[]⟩,.string ⟨#[]⟩,.string ⟨#[]⟩,.bool false,.bool false]⟩:=by kernel_rfl
theorem kd_56:zam Tryz.prog 56=.slice 44 10 120 [.int .i64 0,.string ⟨#[]⟩,.string ⟨#[]⟩,.bool false,.string ⟨#[]⟩,.string ⟨#[]⟩,.string ⟨#[]⟩,.string ⟨#[]⟩,.bool false,.bool false]:=by kernel_rfl
theorem ti_69:tiP Tryz.prog 69=some ⟨true,3,[.string ⟨#[]⟩,.slice none 0 0,.slice none 0 0],.struct [(0,1,false),(1,1,false),(2,1,false)]⟩:=by kernel_rfl
theorem ti_75:tiP Tryz.prog 75=some ⟨false,1,[.slice none 0 0],.slice 5 1 1 [.int .u8 0]⟩:=by kernel_rfl
theorem kd_75:zam Tryz.prog 75=.slice 5 1 1 [.int .u8 0]:=by kernel_rfl
theorem ti_107:tiP Tryz.prog 107=some ⟨false,1,[.map none],.map 9 4⟩:=by kernel_rfl
theorem kd_107:zam Tryz.prog 107=.map 9 4:=by kernel_rfl
theorem ti_121:tiP Tryz.prog 121=some ⟨false,1,[.pointer none],.ptr 129⟩:=by kernel_rfl
theorem ti_124:tiP Tryz.prog 124=some ⟨true,6,[.pointer none,.bool false,.int .i64 0,.bool false,.bool false,.int .i64 0],.struct [(0,1,false),(1,1,false),(2,1,false),(3,1,false),(4,1,false),(5,1,false)]⟩:=by kernel_rfl
theorem ti_125:tiP Tryz.prog 125=some ⟨false,1,[.map none],.map 9 38⟩:=by kernel_rfl
theorem kd_125:zam Tryz.prog 125=.map 9 38:=by kernel_rfl
theorem ti_126:tiP Tryz.prog 126=some ⟨false,1,[.map none],.map 9 9⟩:=by kernel_rfl
theorem kd_126:zam Tryz.prog 126=.map 9 9:=by kernel_rfl
theorem ti_127:tiP Tryz.prog 127=some ⟨false,1,[.map none],.map 9 42⟩:=by kernel_rfl
theorem kd_127:zam Tryz.prog 127=.map 9 42:=by kernel_rfl
theorem ti_129:tiP Tryz.prog 129=some ⟨true,4,[.slice none 0 0,.map none,.map none,.map none],.struct [(0,1,false),(1,1,false),(2,1,false),(3,1,false)]⟩:=by kernel_rfl
theorem ti_155:tiP Tryz.prog 155=some ⟨false,1,[.slice none 0 0],.slice 9 1 16 [.string ⟨#[]⟩]⟩:=by kernel_rfl
theorem kd_155:zam Tryz.prog 155=.slice 9 1 16 [.string ⟨#[]⟩]:=by kernel_rfl
theorem ti_159:tiP Tryz.prog 159=some ⟨true,2,[.slice none 0 0,.bool false],.struct [(0,1,false),(1,1,false)]⟩:=by kernel_rfl
theorem kd_167:zam Tryz.prog 167=.other:=by kernel_rfl
theorem ti_182:tiP Tryz.prog 182=some ⟨false,1,[.slice none 0 0],.slice 29 1 8 [.int .i64 0]⟩:=by kernel_rfl
theorem kd_182:zam Tryz.prog 182=.slice 29 1 8 [.int .i64 0]:=by kernel_rfl
theorem ti_209:tiP Tryz.prog 209=some ⟨false,1,[.pointer none],.ptr 211⟩:=by kernel_rfl
theorem kd_209:zam Tryz.prog 209=.ptr 211:=by kernel_rfl
theorem ti_211:tiP Tryz.prog 211=some ⟨true,2,[.pointer none,.slice none 0 0],.struct [(0,1,false),(1,1,false)]⟩:=by kernel_rfl
theorem kd_216:zam Tryz.prog 216=.int .u64:=by kernel_rfl
theorem ti_258:tiP Tryz.prog 258=some ⟨false,1,[.int .u64 0],.int .u64⟩:=by kernel_rfl
theorem kd_258:zam Tryz.prog 258=.int .u64:=by kernel_rfl
theorem ti_264:tiP Tryz.prog 264=some ⟨true,10,[.string ⟨#[]⟩,.string ⟨#[]⟩,.string ⟨#[]⟩,.bool false,.string ⟨#[]⟩,.string ⟨#[]⟩,.string ⟨#[]⟩,.string ⟨#[]⟩,.bool false,.bool false],.struct [(0,1,false),(1,3,true),(4,2,true),(6,4,true)]⟩:=by kernel_rfl
theorem ti_277:tiP Tryz.prog 277=some ⟨false,1,[.pointer none],.other⟩:=by kernel_rfl
theorem kd_277:zam Tryz.prog 277=.other:=by kernel_rfl
theorem ti_279:tiP Tryz.prog 279=some ⟨true,24,[.int .u8 0,.int .u8 0,.int .u8 0,.int .u8 0,.int .u8 0,.int .u8 0,.int .u8 0,.int .u8 0,.int .u8 0,.int .u8 0,.int .u8 0,.int .u8 0,.int .u8 0,.int .u8 0,.int .u8 0,.int .u8 0,.int .u8 0,.int .u8 0,.int .u8 0,.int .u8 0,.int .u8 0,.int .u8 0,.int .u8 0,.int .u8 0],.arr 24 5 1 false⟩:=by kernel_rfl
theorem ti_319:tiP Tryz.prog 319=some ⟨true,65,[.int .u8 0,.int .u8 0,.int .u8 0,.int .u8 0,.int .u8 0,.int .u8 0,.int .u8 0,.int .u8 0,.int .u8 0,.int .u8 0,.int .u8 0,.int .u8 0,.int .u8 0,.int .u8 0,.int .u8 0,.int .u8 0,.int .u8 0,.int .u8 0,.int .u8 0,.int .u8 0,.int .u8 0,.int .u8 0,.int .u8 0,.int .u8 0,.int .u8 0,.int .u8 0,.int .u8 0,.int .u8 0,.int .u8 0,.int .u8 0,.int .u8 0,.int .u8 0,.int .u8 0,.int .u8 0,.int .u8 0,.int .u8 0,.int .u8 0,.int .u8 0,.int .u8 0,.int .u8 0,.int .u8 0,.int .u8 0,.int .u8 0,.int .u8 0,.int .u8 0,.int .u8 0,.int .u8 0,.int .u8 0,.int .u8 0,.int .u8 0,.int .u8 0,.int .u8 0,.int .u8 0,.int .u8 0,.int .u8 0,.int .u8 0,.int .u8 0,.int .u8 0,.int .u8 0,.int .u8 0,.int .u8 0,.int .u8 0,.int .u8 0,.int .u8 0,.int .u8 0],.arr 65 5 1 false⟩:=by kernel_rfl
theorem ti_347:tiP Tryz.prog 347=some ⟨true,64,[.int .u8 0,.int .u8 0,.int .u8 0,.int .u8 0,.int .u8 0,.int .u8 0,.int .u8 0,.int .u8 0,.int .u8 0,.int .u8 0,.int .u8 0,.int .u8 0,.int .u8 0,.int .u8 0,.int .u8 0,.int .u8 0,.int .u8 0,.int .u8 0,.int .u8 0,.int .u8 0,.int .u8 0,.int .u8 0,.int .u8 0,.int .u8 0,.int .u8 0,.int .u8 0,.int .u8 0,.int .u8 0,.int .u8 0,.int .u8 0,.int .u8 0,.int .u8 0,.int .u8 0,.int .u8 0,.int .u8 0,.int .u8 0,.int .u8 0,.int .u8 0,.int .u8 0,.int .u8 0,.int .u8 0,.int .u8 0,.int .u8 0,.int .u8 0,.int .u8 0,.int .u8 0,.int .u8 0,.int .u8 0,.int .u8 0,.int .u8 0,.int .u8 0,.int .u8 0,.int .u8 0,.int .u8 0,.int .u8 0,.int .u8 0,.int .u8 0,.int .u8 0,.int .u8 0,.int .u8 0,.int .u8 0,.int .u8 0,.int .u8 0,.int .u8 0],.arr 64 5 1 false⟩:=by kernel_rfl
theorem kk_9:kkP Tryz.prog 9=.tk .str:=by kernel_rfl
theorem zf_4:zfP Tryz.prog 4=false:=by kernel_rfl
theorem zf_9:zfP Tryz.prog 9=false:=by kernel_rfl
theorem zf_38:zfP Tryz.prog 38=true:=by kernel_rfl
theorem zf_42:zfP Tryz.prog 42=true:=by kernel_rfl
theorem eq_7:eqTyP Tryz.prog 7=some [.i .i64,.i .i64,.b,.i .u8]:=by kernel_rfl
theorem eq_8:eqTyP Tryz.prog 8=some [.i .i64,.i .i64,.b,.i .u8]:=by kernel_rfl
theorem eq_38:eqTyP Tryz.prog 38=some [.s,.s,.b]:=by kernel_rfl
theorem ag_38:zfi Tryz.prog 38=true:=by kernel_rfl
theorem eq_42:eqTyP Tryz.prog 42=some [.s,.s,.b,.b]:=by kernel_rfl
theorem ag_42:zfi Tryz.prog 42=true:=by kernel_rfl
theorem eq_44:eqTyP Tryz.prog 44=some [.i .i64,.s,.s,.b,.s,.s,.s,.s,.b,.b]:=by kernel_rfl
theorem ag_44:zfi Tryz.prog 44=true:=by kernel_rfl
attribute [go_sem] ti_3 kd_3 ti_4 ti_5 kd_5 ti_9 kd_9
attribute [go_sem] ti_22 kd_22 ti_23 kd_23 ti_24 kd_24 ti_26 ti_29 kd_29 ti_38 kd_38 ti_40 kd_40
attribute [go_sem] ti_42 kd_42 ti_44 kd_44 ti_56 kd_56
attribute [go_sem] ti_69 ti_75 kd_75
attribute [go_sem] ti_107 kd_107
attribute [go_sem] ti_121 ti_124 ti_125 kd_125 ti_126 kd_126 ti_127 kd_127 ti_129
attribute [go_sem] ti_155 kd_155 ti_159 kd_167
attribute [go_sem] ti_182 kd_182
attribute [go_sem] ti_209 kd_209 ti_211 kd_216
attribute [go_sem] ti_258 kd_258 ti_264
attribute [go_sem] ti_277 kd_277 ti_279
attribute [go_sem] ti_319
attribute [go_sem] ti_347
attribute [go_sem] kk_9 zf_4 zf_9
attribute [go_sem] zf_38 zf_42
attribute [go_sem] eq_7 eq_8 eq_38 ag_38 eq_42 ag_42 eq_44 ag_44
end Go.Proofs.YtbofknpajcdnmaaGreatDoor
