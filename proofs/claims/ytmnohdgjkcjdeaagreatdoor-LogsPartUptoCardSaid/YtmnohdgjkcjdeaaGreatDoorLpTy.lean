/- What the program's types are, as the machine reads them. -/
import Derived.Test.YtmnohdgjkcjdeaaGreatDoorVc3
import Derived.Test.YtmnohdgjkcjdeaaGreatDoorProg
import Derived.KernelRfl
namespace Go.Proofs.YtmnohdgjkcjdeaaGreatDoor
open Go.Vc
theorem ti_0:tiP Tryz.prog 0=some ⟨false,1,[.tuple #[]],.other⟩:=by kernel_rfl
theorem kd_0:zM Tryz.prog 0=.other:=by kernel_rfl
theorem ti_1:tiP Tryz.prog 1=some ⟨false,1,[.nilFunc],.other⟩:=by kernel_rfl
theorem kd_1:zM Tryz.prog 1=.other:=by kernel_rfl
theorem ti_2:tiP Tryz.prog 2=some ⟨false,1,[.int .i64 0],.int .i64⟩:=by kernel_rfl
theorem kd_2:zM Tryz.prog 2=.int .i64:=by kernel_rfl
theorem ti_3:tiP Tryz.prog 3=some ⟨false,1,[.int .i64 0],.int .i64⟩:=by kernel_rfl
theorem kd_3:zM Tryz.prog 3=.int .i64:=by kernel_rfl
theorem ti_4:tiP Tryz.prog 4=some ⟨false,1,[.bool false],.bool⟩:=by kernel_rfl
theorem kd_4:zM Tryz.prog 4=.bool:=by kernel_rfl
theorem ti_5:tiP Tryz.prog 5=some ⟨false,1,[.int .u8 0],.int .u8⟩:=by kernel_rfl
theorem kd_5:zM Tryz.prog 5=.int .u8:=by kernel_rfl
theorem ti_7:tiP Tryz.prog 7=some ⟨true,4,[.int .i64 0,.int .i64 0,.bool false,.int .u8 0],.struct [(0,1,false),(1,1,false),(2,1,false),(3,1,false)]⟩:=by kernel_rfl
theorem kd_7:zM Tryz.prog 7=.struct [(0,1,false),(1,1,false),(2,1,false),(3,1,false)]:=by kernel_rfl
theorem ti_9:tiP Tryz.prog 9=some ⟨false,1,[.string ⟨#[]⟩],.str⟩:=by kernel_rfl
theorem kd_9:zM Tryz.prog 9=.str:=by kernel_rfl
theorem ti_10:tiP Tryz.prog 10=some ⟨false,1,[.string ⟨#[]⟩],.str⟩:=by kernel_rfl
theorem kd_10:zM Tryz.prog 10=.str:=by kernel_rfl
theorem ti_13:tiP Tryz.prog 13=some ⟨true,2,[.string ⟨#[]⟩,.int .u64 0],.struct [(0,1,false),(1,1,false)]⟩:=by kernel_rfl
theorem kd_13:zM Tryz.prog 13=.struct [(0,1,false),(1,1,false)]:=by kernel_rfl
theorem ti_18:tiP Tryz.prog 18=some ⟨true,1,[.pointer none],.struct [(0,1,false)]⟩:=by kernel_rfl
theorem kd_18:zM Tryz.prog 18=.struct [(0,1,false)]:=by kernel_rfl
theorem ti_19:tiP Tryz.prog 19=some ⟨true,1,[.pointer none],.struct [(0,1,false)]⟩:=by kernel_rfl
theorem kd_19:zM Tryz.prog 19=.struct [(0,1,false)]:=by kernel_rfl
theorem ti_20:tiP Tryz.prog 20=some ⟨false,1,[.nilIface],.other⟩:=by kernel_rfl
theorem kd_20:zM Tryz.prog 20=.other:=by kernel_rfl
theorem ti_21:tiP Tryz.prog 21=some ⟨false,1,[.int .i32 0],.int .i32⟩:=by kernel_rfl
theorem kd_21:zM Tryz.prog 21=.int .i32:=by kernel_rfl
theorem ti_22:tiP Tryz.prog 22=some ⟨false,1,[.slice none 0 0],.slice 30 13 136 [.int .i64 0,.int .i64 0,.string ⟨#[]⟩,.int .i64 0,.int .i64 0,.int .i64 0,.string ⟨#[]⟩,.int .i64 0,.int .i64 0,.int .i64 0,.string ⟨#[]⟩,.int .i64 0,.string ⟨#[]⟩]⟩:=by kernel_rfl
theorem kd_22:zM Tryz.prog 22=.slice 30 13 136 [.int .i64 0,.int .i64 0,.string ⟨#[]⟩,.int .i64 0,.int .i64 0,.int .i64 0,.string ⟨#[]⟩,.int .i64 0,.int .i64 0,.int .i64 0,.string ⟨#[]⟩,.int .i64 0,.string ⟨#[]⟩]:=by kernel_rfl
theorem ti_24:tiP Tryz.prog 24=some ⟨false,1,[.pointer none],.ptr 63⟩:=by kernel_rfl
theorem kd_24:zM Tryz.prog 24=.ptr 63:=by kernel_rfl
theorem ti_27:tiP Tryz.prog 27=some ⟨true,4,[.int .i64 0,.int .i64 0,.int .i64 0,.string ⟨#[]⟩],.struct [(0,1,false),(1,1,false),(2,1,false),(3,1,false)]⟩:=by kernel_rfl
theorem kd_27:zM Tryz.prog 27=.struct [(0,1,false),(1,1,false),(2,1,false),(3,1,false)]:=by kernel_rfl
theorem ti_28:tiP Tryz.prog 28=some ⟨false,1,[.int .i64 0],.int .i64⟩:=by kernel_rfl
theorem kd_28:zM Tryz.prog 28=.int .i64:=by kernel_rfl
theorem ti_30:tiP Tryz.prog 30=some ⟨true,13,[.int .i64 0,.int .i64 0,.string ⟨#[]⟩,.int .i64 0,.int .i64 0,.int .i64 0,.string ⟨#[]⟩,.int .i64 0,.int .i64 0,.int .i64 0,.string ⟨#[]⟩,.int .i64 0,.string ⟨#[]⟩],.struct [(0,1,false),(1,1,false),(2,1,false),(3,4,true),(7,4,true),(11,1,false),(12,1,false)]⟩:=by kernel_rfl
theorem kd_30:zM Tryz.prog 30=.struct [(0,1,false),(1,1,false),(2,1,false),(3,4,true),(7,4,true),(11,1,false),(12,1,false)]:=by kernel_rfl
theorem ti_32:tiP Tryz.prog 32=some ⟨false,1,[.nilFunc],.other⟩:=by kernel_rfl
theorem kd_32:zM Tryz.prog 32=.other:=by kernel_rfl
theorem ti_36:tiP Tryz.prog 36=some ⟨false,1,[.nilFunc],.other⟩:=by kernel_rfl
theorem kd_36:zM Tryz.prog 36=.other:=by kernel_rfl
theorem ti_43:tiP Tryz.prog 43=some ⟨false,1,[.slice none 0 0],.slice 5 1 1 [.int .u8 0]⟩:=by kernel_rfl
theorem kd_43:zM Tryz.prog 43=.slice 5 1 1 [.int .u8 0]:=by kernel_rfl
theorem ti_50:tiP Tryz.prog 50=some ⟨false,1,[.slice none 0 0],.slice 9 1 16 [.string ⟨#[]⟩]⟩:=by kernel_rfl
theorem kd_50:zM Tryz.prog 50=.slice 9 1 16 [.string ⟨#[]⟩]:=by kernel_rfl
theorem ti_57:tiP Tryz.prog 57=some ⟨true,6,[.string ⟨#[]⟩,.int .i64 0,.int .i64 0,.int .i64 0,.string ⟨#[]⟩,.int .i64 0],.struct [(0,1,false),(1,4,true),(5,1,false)]⟩:=by kernel_rfl
theorem ti_60:tiP Tryz.prog 60=some ⟨false,1,[.pointer none],.ptr 99⟩:=by kernel_rfl
theorem ti_63:tiP Tryz.prog 63=some ⟨true,4,[.slice none 0 0,.slice none 0 0,.string ⟨#[]⟩,.pointer none],.struct [(0,1,false),(1,1,false),(2,1,false),(3,1,false)]⟩:=by kernel_rfl
theorem kd_63:zM Tryz.prog 63=.struct [(0,1,false),(1,1,false),(2,1,false),(3,1,false)]:=by kernel_rfl
theorem kd_68:zM Tryz.prog 68=.map 9 57:=by kernel_rfl
theorem ti_73:tiP Tryz.prog 73=some ⟨false,1,[.pointer none],.ptr 75⟩:=by kernel_rfl
theorem kd_73:zM Tryz.prog 73=.ptr 75:=by kernel_rfl
theorem ti_75:tiP Tryz.prog 75=some ⟨true,2,[.pointer none,.slice none 0 0],.struct [(0,1,false),(1,1,false)]⟩:=by kernel_rfl
theorem kd_77:zM Tryz.prog 77=.other:=by kernel_rfl
theorem ti_79:tiP Tryz.prog 79=some ⟨false,1,[.nilFunc],.other⟩:=by kernel_rfl
theorem kd_79:zM Tryz.prog 79=.other:=by kernel_rfl
theorem ti_91:tiP Tryz.prog 91=some ⟨false,1,[.slice none 0 0],.slice 22 1 24 [.slice none 0 0]⟩:=by kernel_rfl
theorem kd_91:zM Tryz.prog 91=.slice 22 1 24 [.slice none 0 0]:=by kernel_rfl
theorem ti_97:tiP Tryz.prog 97=some ⟨false,1,[.map none],.map 9 114⟩:=by kernel_rfl
theorem kd_97:zM Tryz.prog 97=.map 9 114:=by kernel_rfl
theorem ti_98:tiP Tryz.prog 98=some ⟨true,2,[.map none,.int .i64 0],.struct [(0,1,false),(1,1,false)]⟩:=by kernel_rfl
theorem kd_98:zM Tryz.prog 98=.struct [(0,1,false),(1,1,false)]:=by kernel_rfl
theorem ti_99:tiP Tryz.prog 99=some ⟨true,2,[.map none,.int .i64 0],.struct [(0,1,false),(1,1,false)]⟩:=by kernel_rfl
theorem kd_99:zM Tryz.prog 99=.struct [(0,1,false),(1,1,false)]:=by kernel_rfl
theorem ti_100:tiP Tryz.prog 100=some ⟨false,1,[.slice none 0 0],.slice 28 1 8 [.int .i64 0]⟩:=by kernel_rfl
theorem kd_100:zM Tryz.prog 100=.slice 28 1 8 [.int .i64 0]:=by kernel_rfl
theorem ti_101:tiP Tryz.prog 101=some ⟨false,1,[.slice none 0 0],.slice 27 4 40 [.int .i64 0,.int .i64 0,.int .i64 0,.string ⟨#[]⟩]⟩:=by kernel_rfl
theorem kd_101:zM Tryz.prog 101=.slice 27 4 40 [.int .i64 0,.int .i64 0,.int .i64 0,.string ⟨#[]⟩]:=by kernel_rfl
theorem ti_102:tiP Tryz.prog 102=some ⟨false,1,[.slice none 0 0],.slice 3 1 8 [.int .i64 0]⟩:=by kernel_rfl
theorem kd_102:zM Tryz.prog 102=.slice 3 1 8 [.int .i64 0]:=by kernel_rfl
theorem ti_103:tiP Tryz.prog 103=some ⟨false,1,[.nilFunc],.other⟩:=by kernel_rfl
theorem kd_103:zM Tryz.prog 103=.other:=by kernel_rfl
theorem ti_105:tiP Tryz.prog 105=some ⟨false,1,[.nilFunc],.other⟩:=by kernel_rfl
theorem kd_105:zM Tryz.prog 105=.other:=by kernel_rfl
theorem ti_109:tiP Tryz.prog 109=some ⟨true,8,[.int .i64 0,.int .i64 0,.int .i64 0,.string ⟨#[]⟩,.int .i64 0,.int .i64 0,.int .i64 0,.string ⟨#[]⟩],.arr 2 27 4 true⟩:=by kernel_rfl
theorem ti_110:tiP Tryz.prog 110=some ⟨false,1,[.nilFunc],.other⟩:=by kernel_rfl
theorem kd_110:zM Tryz.prog 110=.other:=by kernel_rfl
theorem ti_114:tiP Tryz.prog 114=some ⟨true,5,[.int .i64 0,.int .i64 0,.int .i64 0,.string ⟨#[]⟩,.int .i64 0],.struct [(0,4,true),(4,1,false)]⟩:=by kernel_rfl
theorem kd_114:zM Tryz.prog 114=.struct [(0,4,true),(4,1,false)]:=by kernel_rfl
theorem ti_116:tiP Tryz.prog 116=some ⟨false,1,[.nilFunc],.other⟩:=by kernel_rfl
theorem kd_116:zM Tryz.prog 116=.other:=by kernel_rfl
theorem ti_117:tiP Tryz.prog 117=some ⟨false,1,[.nilFunc],.other⟩:=by kernel_rfl
theorem kd_117:zM Tryz.prog 117=.other:=by kernel_rfl
theorem ti_118:tiP Tryz.prog 118=some ⟨false,1,[.nilFunc],.other⟩:=by kernel_rfl
theorem kd_118:zM Tryz.prog 118=.other:=by kernel_rfl
theorem ti_119:tiP Tryz.prog 119=some ⟨false,1,[.int .u64 0],.int .u64⟩:=by kernel_rfl
theorem kd_119:zM Tryz.prog 119=.int .u64:=by kernel_rfl
theorem ti_135:tiP Tryz.prog 135=some ⟨false,1,[.pointer none],.ptr 27⟩:=by kernel_rfl
theorem kd_135:zM Tryz.prog 135=.ptr 27:=by kernel_rfl
theorem ti_136:tiP Tryz.prog 136=some ⟨false,1,[.slice none 0 0],.slice 135 1 8 [.pointer none]⟩:=by kernel_rfl
theorem kd_136:zM Tryz.prog 136=.slice 135 1 8 [.pointer none]:=by kernel_rfl
theorem ti_147:tiP Tryz.prog 147=some ⟨true,3,[.int .i64 0,.int .i64 0,.int .i64 0],.arr 3 3 1 false⟩:=by kernel_rfl
theorem ti_149:tiP Tryz.prog 149=some ⟨false,1,[.int .u64 0],.int .u64⟩:=by kernel_rfl
theorem kd_149:zM Tryz.prog 149=.int .u64:=by kernel_rfl
theorem ti_153:tiP Tryz.prog 153=some ⟨false,1,[.pointer none],.other⟩:=by kernel_rfl
theorem kd_153:zM Tryz.prog 153=.other:=by kernel_rfl
theorem kd_159:zM Tryz.prog 159=.int .u32:=by kernel_rfl
theorem ti_179:tiP Tryz.prog 179=some ⟨true,24,[.int .u8 0,.int .u8 0,.int .u8 0,.int .u8 0,.int .u8 0,.int .u8 0,.int .u8 0,.int .u8 0,.int .u8 0,.int .u8 0,.int .u8 0,.int .u8 0,.int .u8 0,.int .u8 0,.int .u8 0,.int .u8 0,.int .u8 0,.int .u8 0,.int .u8 0,.int .u8 0,.int .u8 0,.int .u8 0,.int .u8 0,.int .u8 0],.arr 24 5 1 false⟩:=by kernel_rfl
theorem ti_202:tiP Tryz.prog 202=some ⟨true,65,[.int .u8 0,.int .u8 0,.int .u8 0,.int .u8 0,.int .u8 0,.int .u8 0,.int .u8 0,.int .u8 0,.int .u8 0,.int .u8 0,.int .u8 0,.int .u8 0,.int .u8 0,.int .u8 0,.int .u8 0,.int .u8 0,.int .u8 0,.int .u8 0,.int .u8 0,.int .u8 0,.int .u8 0,.int .u8 0,.int .u8 0,.int .u8 0,.int .u8 0,.int .u8 0,.int .u8 0,.int .u8 0,.int .u8 0,.int .u8 0,.int .u8 0,.int .u8 0,.int .u8 0,.int .u8 0,.int .u8 0,.int .u8 0,.int .u8 0,.int .u8 0,.int .u8 0,.int .u8 0,.int .u8 0,.int .u8 0,.int .u8 0,.int .u8 0,.int .u8 0,.int .u8 0,.int .u8 0,.int .u8 0,.int .u8 0,.int .u8 0,.int .u8 0,.int .u8 0,.int .u8 0,.int .u8 0,.int .u8 0,.int .u8 0,.int .u8 0,.int .u8 0,.int .u8 0,.int .u8 0,.int .u8 0,.int .u8 0,.int .u8 0,.int .u8 0,.int .u8 0],.arr 65 5 1 false⟩:=by kernel_rfl
theorem ti_212:tiP Tryz.prog 212=some ⟨false,1,[.nilFunc],.other⟩:=by kernel_rfl
theorem kd_212:zM Tryz.prog 212=.other:=by kernel_rfl
theorem ti_228:tiP Tryz.prog 228=some ⟨true,64,[.int .u8 0,.int .u8 0,.int .u8 0,.int .u8 0,.int .u8 0,.int .u8 0,.int .u8 0,.int .u8 0,.int .u8 0,.int .u8 0,.int .u8 0,.int .u8 0,.int .u8 0,.int .u8 0,.int .u8 0,.int .u8 0,.int .u8 0,.int .u8 0,.int .u8 0,.int .u8 0,.int .u8 0,.int .u8 0,.int .u8 0,.int .u8 0,.int .u8 0,.int .u8 0,.int .u8 0,.int .u8 0,.int .u8 0,.int .u8 0,.int .u8 0,.int .u8 0,.int .u8 0,.int .u8 0,.int .u8 0,.int .u8 0,.int .u8 0,.int .u8 0,.int .u8 0,.int .u8 0,.int .u8 0,.int .u8 0,.int .u8 0,.int .u8 0,.int .u8 0,.int .u8 0,.int .u8 0,.int .u8 0,.int .u8 0,.int .u8 0,.int .u8 0,.int .u8 0,.int .u8 0,.int .u8 0,.int .u8 0,.int .u8 0,.int .u8 0,.int .u8 0,.int .u8 0,.int .u8 0,.int .u8 0,.int .u8 0,.int .u8 0,.int .u8 0],.arr 64 5 1 false⟩:=by kernel_rfl
theorem ti_233:tiP Tryz.prog 233=some ⟨true,4,[.pointer none,.pointer none,.pointer none,.string ⟨#[]⟩],.struct [(0,1,false),(1,1,false),(2,1,false),(3,1,false)]⟩:=by kernel_rfl
theorem kd_233:zM Tryz.prog 233=.struct [(0,1,false),(1,1,false),(2,1,false),(3,1,false)]:=by kernel_rfl
theorem kk_9:kkP Tryz.prog 9=.tk .str:=by kernel_rfl
theorem zf_0:zfP Tryz.prog 0=false:=by kernel_rfl
theorem zf_1:zfP Tryz.prog 1=false:=by kernel_rfl
theorem zf_2:zfP Tryz.prog 2=false:=by kernel_rfl
theorem zf_3:zfP Tryz.prog 3=false:=by kernel_rfl
theorem zf_4:zfP Tryz.prog 4=false:=by kernel_rfl
theorem zf_5:zfP Tryz.prog 5=false:=by kernel_rfl
theorem zf_7:zfP Tryz.prog 7=true:=by kernel_rfl
theorem zf_9:zfP Tryz.prog 9=false:=by kernel_rfl
theorem zf_10:zfP Tryz.prog 10=false:=by kernel_rfl
theorem zf_13:zfP Tryz.prog 13=true:=by kernel_rfl
theorem zf_18:zfP Tryz.prog 18=true:=by kernel_rfl
theorem zf_19:zfP Tryz.prog 19=true:=by kernel_rfl
theorem zf_20:zfP Tryz.prog 20=false:=by kernel_rfl
theorem zf_21:zfP Tryz.prog 21=false:=by kernel_rfl
theorem zf_22:zfP Tryz.prog 22=false:=by kernel_rfl
theorem zf_24:zfP Tryz.prog 24=false:=by kernel_rfl
theorem zf_27:zfP Tryz.prog 27=true:=by kernel_rfl
theorem zf_28:zfP Tryz.prog 28=false:=by kernel_rfl
theorem zf_30:zfP Tryz.prog 30=true:=by kernel_rfl
theorem zf_32:zfP Tryz.prog 32=false:=by kernel_rfl
theorem zf_34:zfP Tryz.prog 34=false:=by kernel_rfl
theorem zf_36:zfP Tryz.prog 36=false:=by kernel_rfl
theorem zf_39:zfP Tryz.prog 39=false:=by kernel_rfl
theorem zf_43:zfP Tryz.prog 43=false:=by kernel_rfl
theorem zf_47:zfP Tryz.prog 47=false:=by kernel_rfl
theorem zf_50:zfP Tryz.prog 50=false:=by kernel_rfl
theorem zf_53:zfP Tryz.prog 53=false:=by kernel_rfl
theorem zf_57:zfP Tryz.prog 57=true:=by kernel_rfl
theorem zf_63:zfP Tryz.prog 63=true:=by kernel_rfl
theorem zf_79:zfP Tryz.prog 79=false:=by kernel_rfl
theorem zf_91:zfP Tryz.prog 91=false:=by kernel_rfl
theorem zf_97:zfP Tryz.prog 97=false:=by kernel_rfl
theorem zf_98:zfP Tryz.prog 98=true:=by kernel_rfl
theorem zf_99:zfP Tryz.prog 99=true:=by kernel_rfl
theorem zf_101:zfP Tryz.prog 101=false:=by kernel_rfl
theorem zf_102:zfP Tryz.prog 102=false:=by kernel_rfl
theorem zf_103:zfP Tryz.prog 103=false:=by kernel_rfl
theorem zf_105:zfP Tryz.prog 105=false:=by kernel_rfl
theorem zf_108:zfP Tryz.prog 108=false:=by kernel_rfl
theorem zf_110:zfP Tryz.prog 110=false:=by kernel_rfl
theorem zf_111:zfP Tryz.prog 111=false:=by kernel_rfl
theorem zf_114:zfP Tryz.prog 114=true:=by kernel_rfl
theorem zf_116:zfP Tryz.prog 116=false:=by kernel_rfl
theorem zf_117:zfP Tryz.prog 117=false:=by kernel_rfl
theorem zf_118:zfP Tryz.prog 118=false:=by kernel_rfl
theorem zf_119:zfP Tryz.prog 119=false:=by kernel_rfl
theorem zf_212:zfP Tryz.prog 212=false:=by kernel_rfl
theorem zf_233:zfP Tryz.prog 233=true:=by kernel_rfl
theorem zf_431:zfP Tryz.prog 431=false:=by kernel_rfl
theorem zf_507:zfP Tryz.prog 507=false:=by kernel_rfl
theorem eq_7:eqTyP Tryz.prog 7=some [.i .i64,.i .i64,.b,.i .u8]:=by kernel_rfl
theorem ag_7:zdF Tryz.prog 7=true:=by kernel_rfl
theorem eq_8:eqTyP Tryz.prog 8=some [.i .i64,.i .i64,.b,.i .u8]:=by kernel_rfl
theorem eq_27:eqTyP Tryz.prog 27=some [.i .i64,.i .i64,.i .i64,.s]:=by kernel_rfl
theorem ag_27:zdF Tryz.prog 27=true:=by kernel_rfl
theorem eq_30:eqTyP Tryz.prog 30=some [.i .i64,.i .i64,.s,.i .i64,.i .i64,.i .i64,.s,.i .i64,.i .i64,.i .i64,.s,.i .i64,.s]:=by kernel_rfl
theorem ag_30:zdF Tryz.prog 30=true:=by kernel_rfl
theorem eq_114:eqTyP Tryz.prog 114=some [.i .i64,.i .i64,.i .i64,.s,.i .i64]:=by kernel_rfl
theorem ag_114:zdF Tryz.prog 114=true:=by kernel_rfl
attribute [go_sem] ti_0 kd_0 ti_1 kd_1 ti_2 kd_2 ti_3 kd_3 ti_4 kd_4 ti_5 kd_5 ti_7 kd_7 ti_9 kd_9 ti_10 kd_10 ti_13 kd_13 ti_18 kd_18 ti_19 kd_19
attribute [go_sem] ti_20 kd_20 ti_21 kd_21 ti_22 kd_22 ti_24 kd_24 ti_27 kd_27 ti_28 kd_28 ti_30 kd_30 ti_32 kd_32 ti_36 kd_36
attribute [go_sem] ti_43 kd_43 ti_50 kd_50 ti_57 ti_60 ti_63 kd_63
attribute [go_sem] kd_68 ti_73 kd_73 ti_75 kd_77 ti_79 kd_79
attribute [go_sem] ti_91 kd_91 ti_97 kd_97 ti_98 kd_98 ti_99 kd_99 ti_100 kd_100 ti_101 kd_101 ti_102 kd_102 ti_103 kd_103 ti_105 kd_105
attribute [go_sem] ti_109 ti_110 kd_110 ti_114 kd_114 ti_116 kd_116 ti_117 kd_117 ti_118 kd_118 ti_119 kd_119
attribute [go_sem] ti_135 kd_135 ti_136 kd_136 ti_147 ti_149 kd_149 ti_153 kd_153
attribute [go_sem] kd_159 ti_179
attribute [go_sem] ti_202
attribute [go_sem] ti_212 kd_212
attribute [go_sem] ti_228 ti_233 kd_233 kk_9 zf_0 zf_1 zf_2
attribute [go_sem] zf_3 zf_4 zf_5 zf_7 zf_9 zf_10 zf_13 zf_18 zf_19 zf_20 zf_21 zf_22 zf_24 zf_27 zf_28 zf_30 zf_32 zf_34 zf_36 zf_39
attribute [go_sem] zf_43 zf_47 zf_50 zf_53 zf_57 zf_63 zf_79
attribute [go_sem] zf_91 zf_97 zf_98 zf_99 zf_101 zf_102 zf_103 zf_105 zf_108 zf_110 zf_111 zf_114 zf_116 zf_117 zf_118 zf_119
attribute [go_sem] zf_212 zf_233
attribute [go_sem] zf_431
attribute [go_sem] zf_507
attribute [go_sem] eq_7 ag_7 eq_8
attribute [go_sem] eq_27 ag_27 eq_30 ag_30 eq_114 ag_114
end Go.Proofs.YtmnohdgjkcjdeaaGreatDoor
