/- What the program's types are, as the machine reads them. -/
import Derived.Test.YtkekfenkeeiigaaDoorVc3
import Derived.Test.YtkekfenkeeiigaaDoorProg
import Derived.KernelRfl
namespace Go.Proofs.YtkekfenkeeiigaaDoor
open Go.Vc
theorem ti_0:tiP Tryd.prog 0=some ⟨false,1,[.tuple #[]],.other⟩:=by kernel_rfl
theorem kd_0:kindP Tryd.prog 0=.other:=by kernel_rfl
theorem ti_1:tiP Tryd.prog 1=some ⟨false,1,[.nilFunc],.other⟩:=by kernel_rfl
theorem kd_1:kindP Tryd.prog 1=.other:=by kernel_rfl
theorem ti_2:tiP Tryd.prog 2=some ⟨false,1,[.int .i64 0],.int .i64⟩:=by kernel_rfl
theorem kd_2:kindP Tryd.prog 2=.int .i64:=by kernel_rfl
theorem ti_3:tiP Tryd.prog 3=some ⟨false,1,[.int .i64 0],.int .i64⟩:=by kernel_rfl
theorem kd_3:kindP Tryd.prog 3=.int .i64:=by kernel_rfl
theorem ti_4:tiP Tryd.prog 4=some ⟨false,1,[.bool false],.bool⟩:=by kernel_rfl
theorem kd_4:kindP Tryd.prog 4=.bool:=by kernel_rfl
theorem ti_5:tiP Tryd.prog 5=some ⟨false,1,[.int .u8 0],.int .u8⟩:=by kernel_rfl
theorem kd_5:kindP Tryd.prog 5=.int .u8:=by kernel_rfl
theorem ti_6:tiP Tryd.prog 6=some ⟨false,1,[.int .u8 0],.int .u8⟩:=by kernel_rfl
theorem kd_6:kindP Tryd.prog 6=.int .u8:=by kernel_rfl
theorem ti_7:tiP Tryd.prog 7=some ⟨true,4,[.int .i64 0,.int .i64 0,.bool false,.int .u8 0],.struct [(0,1,false),(1,1,false),(2,1,false),(3,1,false)]⟩:=by kernel_rfl
theorem kd_7:kindP Tryd.prog 7=.struct [(0,1,false),(1,1,false),(2,1,false),(3,1,false)]:=by kernel_rfl
theorem ti_8:tiP Tryd.prog 8=some ⟨true,4,[.int .i64 0,.int .i64 0,.bool false,.int .u8 0],.struct [(0,1,false),(1,1,false),(2,1,false),(3,1,false)]⟩:=by kernel_rfl
theorem kd_8:kindP Tryd.prog 8=.struct [(0,1,false),(1,1,false),(2,1,false),(3,1,false)]:=by kernel_rfl
theorem ti_9:tiP Tryd.prog 9=some ⟨false,1,[.string ⟨#[]⟩],.str⟩:=by kernel_rfl
theorem kd_9:kindP Tryd.prog 9=.str:=by kernel_rfl
theorem ti_10:tiP Tryd.prog 10=some ⟨false,1,[.string ⟨#[]⟩],.str⟩:=by kernel_rfl
theorem kd_10:kindP Tryd.prog 10=.str:=by kernel_rfl
theorem ti_11:tiP Tryd.prog 11=some ⟨false,1,[.string ⟨#[]⟩],.str⟩:=by kernel_rfl
theorem kd_11:kindP Tryd.prog 11=.str:=by kernel_rfl
theorem ti_12:tiP Tryd.prog 12=some ⟨false,1,[.int .u64 0],.int .u64⟩:=by kernel_rfl
theorem kd_12:kindP Tryd.prog 12=.int .u64:=by kernel_rfl
theorem ti_13:tiP Tryd.prog 13=some ⟨true,2,[.string ⟨#[]⟩,.int .u64 0],.struct [(0,1,false),(1,1,false)]⟩:=by kernel_rfl
theorem kd_13:kindP Tryd.prog 13=.struct [(0,1,false),(1,1,false)]:=by kernel_rfl
theorem ti_14:tiP Tryd.prog 14=some ⟨true,2,[.string ⟨#[]⟩,.int .u64 0],.struct [(0,1,false),(1,1,false)]⟩:=by kernel_rfl
theorem kd_14:kindP Tryd.prog 14=.struct [(0,1,false),(1,1,false)]:=by kernel_rfl
theorem ti_15:tiP Tryd.prog 15=some ⟨false,1,[.pointer none],.ptr 195⟩:=by kernel_rfl
theorem kd_15:kindP Tryd.prog 15=.ptr 195:=by kernel_rfl
theorem ti_16:tiP Tryd.prog 16=some ⟨false,1,[.pointer none],.ptr 198⟩:=by kernel_rfl
theorem kd_16:kindP Tryd.prog 16=.ptr 198:=by kernel_rfl
theorem ti_17:tiP Tryd.prog 17=some ⟨false,1,[.pointer none],.ptr 205⟩:=by kernel_rfl
theorem kd_17:kindP Tryd.prog 17=.ptr 205:=by kernel_rfl
theorem ti_18:tiP Tryd.prog 18=some ⟨true,1,[.pointer none],.struct [(0,1,false)]⟩:=by kernel_rfl
theorem kd_18:kindP Tryd.prog 18=.struct [(0,1,false)]:=by kernel_rfl
theorem ti_19:tiP Tryd.prog 19=some ⟨true,1,[.pointer none],.struct [(0,1,false)]⟩:=by kernel_rfl
theorem kd_19:kindP Tryd.prog 19=.struct [(0,1,false)]:=by kernel_rfl
theorem ti_20:tiP Tryd.prog 20=some ⟨false,1,[.nilIface],.other⟩:=by kernel_rfl
theorem kd_20:kindP Tryd.prog 20=.other:=by kernel_rfl
theorem ti_21:tiP Tryd.prog 21=some ⟨false,1,[.int .i32 0],.int .i32⟩:=by kernel_rfl
theorem kd_21:kindP Tryd.prog 21=.int .i32:=by kernel_rfl
theorem ti_22:tiP Tryd.prog 22=some ⟨false,1,[.nilFunc],.other⟩:=by kernel_rfl
theorem kd_22:kindP Tryd.prog 22=.other:=by kernel_rfl
theorem ti_23:tiP Tryd.prog 23=some ⟨false,1,[.nilFunc],.other⟩:=by kernel_rfl
theorem kd_23:kindP Tryd.prog 23=.other:=by kernel_rfl
theorem ti_24:tiP Tryd.prog 24=some ⟨false,1,[.slice none 0 0],.slice 29 2 16 [.int .i64 0,.int .i64 0]⟩:=by kernel_rfl
theorem kd_24:kindP Tryd.prog 24=.slice 29 2 16 [.int .i64 0,.int .i64 0]:=by kernel_rfl
theorem ti_25:tiP Tryd.prog 25=some ⟨false,1,[.int .i64 0],.int .i64⟩:=by kernel_rfl
theorem kd_25:kindP Tryd.prog 25=.int .i64:=by kernel_rfl
theorem ti_27:tiP Tryd.prog 27=some ⟨false,1,[.nilFunc],.other⟩:=by kernel_rfl
theorem kd_27:kindP Tryd.prog 27=.other:=by kernel_rfl
theorem ti_28:tiP Tryd.prog 28=some ⟨false,1,[.nilFunc],.other⟩:=by kernel_rfl
theorem kd_28:kindP Tryd.prog 28=.other:=by kernel_rfl
theorem ti_29:tiP Tryd.prog 29=some ⟨true,2,[.int .i64 0,.int .i64 0],.arr 2 3 1 false⟩:=by kernel_rfl
theorem kd_29:kindP Tryd.prog 29=.arr 2 3 1 false:=by kernel_rfl
theorem ti_30:tiP Tryd.prog 30=some ⟨false,1,[.nilFunc],.other⟩:=by kernel_rfl
theorem kd_30:kindP Tryd.prog 30=.other:=by kernel_rfl
theorem ti_31:tiP Tryd.prog 31=some ⟨false,1,[.slice none 0 0],.slice 9 1 16 [.string ⟨#[]⟩]⟩:=by kernel_rfl
theorem kd_31:kindP Tryd.prog 31=.slice 9 1 16 [.string ⟨#[]⟩]:=by kernel_rfl
theorem ti_36:tiP Tryd.prog 36=some ⟨false,1,[.nilFunc],.other⟩:=by kernel_rfl
theorem kd_36:kindP Tryd.prog 36=.other:=by kernel_rfl
theorem ti_37:tiP Tryd.prog 37=some ⟨false,1,[.nilFunc],.other⟩:=by kernel_rfl
theorem kd_37:kindP Tryd.prog 37=.other:=by kernel_rfl
theorem ti_38:tiP Tryd.prog 38=some ⟨false,1,[.nilFunc],.other⟩:=by kernel_rfl
theorem kd_38:kindP Tryd.prog 38=.other:=by kernel_rfl
theorem ti_39:tiP Tryd.prog 39=some ⟨false,1,[.slice none 0 0],.slice 49 3 32 [.int .i64 0,.int .i64 0,.string ⟨#[]⟩]⟩:=by kernel_rfl
theorem kd_39:kindP Tryd.prog 39=.slice 49 3 32 [.int .i64 0,.int .i64 0,.string ⟨#[]⟩]:=by kernel_rfl
theorem ti_40:tiP Tryd.prog 40=some ⟨true,5,[.int .i64 0,.int .i64 0,.string ⟨#[]⟩,.string ⟨#[]⟩,.slice none 0 0],.struct [(0,1,false),(1,1,false),(2,1,false),(3,1,false),(4,1,false)]⟩:=by kernel_rfl
theorem kd_40:kindP Tryd.prog 40=.struct [(0,1,false),(1,1,false),(2,1,false),(3,1,false),(4,1,false)]:=by kernel_rfl
theorem ti_41:tiP Tryd.prog 41=some ⟨true,5,[.int .i64 0,.int .i64 0,.string ⟨#[]⟩,.string ⟨#[]⟩,.slice none 0 0],.struct [(0,1,false),(1,1,false),(2,1,false),(3,1,false),(4,1,false)]⟩:=by kernel_rfl
theorem kd_41:kindP Tryd.prog 41=.struct [(0,1,false),(1,1,false),(2,1,false),(3,1,false),(4,1,false)]:=by kernel_rfl
theorem ti_43:tiP Tryd.prog 43=some ⟨false,1,[.nilFunc],.other⟩:=by kernel_rfl
theorem kd_43:kindP Tryd.prog 43=.other:=by kernel_rfl
theorem ti_44:tiP Tryd.prog 44=some ⟨false,1,[.slice none 0 0],.slice 5 1 1 [.int .u8 0]⟩:=by kernel_rfl
theorem kd_44:kindP Tryd.prog 44=.slice 5 1 1 [.int .u8 0]:=by kernel_rfl
theorem ti_46:tiP Tryd.prog 46=some ⟨false,1,[.nilFunc],.other⟩:=by kernel_rfl
theorem kd_46:kindP Tryd.prog 46=.other:=by kernel_rfl
theorem ti_48:tiP Tryd.prog 48=some ⟨true,3,[.int .i64 0,.int .i64 0,.string ⟨#[]⟩],.struct [(0,1,false),(1,1,false),(2,1,false)]⟩:=by kernel_rfl
theorem kd_48:kindP Tryd.prog 48=.struct [(0,1,false),(1,1,false),(2,1,false)]:=by kernel_rfl
theorem ti_49:tiP Tryd.prog 49=some ⟨true,3,[.int .i64 0,.int .i64 0,.string ⟨#[]⟩],.struct [(0,1,false),(1,1,false),(2,1,false)]⟩:=by kernel_rfl
theorem kd_49:kindP Tryd.prog 49=.struct [(0,1,false),(1,1,false),(2,1,false)]:=by kernel_rfl
theorem ti_50:tiP Tryd.prog 50=some ⟨false,1,[.nilFunc],.other⟩:=by kernel_rfl
theorem kd_50:kindP Tryd.prog 50=.other:=by kernel_rfl
theorem ti_51:tiP Tryd.prog 51=some ⟨false,1,[.nilFunc],.other⟩:=by kernel_rfl
theorem kd_51:kindP Tryd.prog 51=.other:=by kernel_rfl
theorem ti_52:tiP Tryd.prog 52=some ⟨false,1,[.nilFunc],.other⟩:=by kernel_rfl
theorem kd_52:kindP Tryd.prog 52=.other:=by kernel_rfl
theorem ti_53:tiP Tryd.prog 53=some ⟨false,1,[.nilFunc],.other⟩:=by kernel_rfl
theorem kd_53:kindP Tryd.prog 53=.other:=by kernel_rfl
theorem ti_54:tiP Tryd.prog 54=some ⟨false,1,[.nilFunc],.other⟩:=by kernel_rfl
theorem kd_54:kindP Tryd.prog 54=.other:=by kernel_rfl
theorem ti_55:tiP Tryd.prog 55=some ⟨false,1,[.nilFunc],.other⟩:=by kernel_rfl
theorem kd_55:kindP Tryd.prog 55=.other:=by kernel_rfl
theorem ti_56:tiP Tryd.prog 56=some ⟨false,1,[.nilFunc],.other⟩:=by kernel_rfl
theorem kd_56:kindP Tryd.prog 56=.other:=by kernel_rfl
theorem ti_57:tiP Tryd.prog 57=some ⟨false,1,[.slice none 0 0],.slice 3 1 8 [.int .i64 0]⟩:=by kernel_rfl
theorem kd_57:kindP Tryd.prog 57=.slice 3 1 8 [.int .i64 0]:=by kernel_rfl
theorem ti_58:tiP Tryd.prog 58=some ⟨false,1,[.slice none 0 0],.slice 63 3 24 [.int .i64 0,.int .i64 0,.int .i64 0]⟩:=by kernel_rfl
theorem kd_58:kindP Tryd.prog 58=.slice 63 3 24 [.int .i64 0,.int .i64 0,.int .i64 0]:=by kernel_rfl
theorem ti_59:tiP Tryd.prog 59=some ⟨false,1,[.map none],.map 29 41⟩:=by kernel_rfl
theorem kd_59:kindP Tryd.prog 59=.map 29 41:=by kernel_rfl
theorem ti_63:tiP Tryd.prog 63=some ⟨true,3,[.int .i64 0,.int .i64 0,.int .i64 0],.struct [(0,1,false),(1,1,false),(2,1,false)]⟩:=by kernel_rfl
theorem kd_63:kindP Tryd.prog 63=.struct [(0,1,false),(1,1,false),(2,1,false)]:=by kernel_rfl
theorem ti_65:tiP Tryd.prog 65=some ⟨false,1,[.nilFunc],.other⟩:=by kernel_rfl
theorem kd_65:kindP Tryd.prog 65=.other:=by kernel_rfl
theorem ti_66:tiP Tryd.prog 66=some ⟨false,1,[.nilFunc],.other⟩:=by kernel_rfl
theorem kd_66:kindP Tryd.prog 66=.other:=by kernel_rfl
theorem ti_67:tiP Tryd.prog 67=some ⟨false,1,[.nilFunc],.other⟩:=by kernel_rfl
theorem kd_67:kindP Tryd.prog 67=.other:=by kernel_rfl
theorem ti_68:tiP Tryd.prog 68=some ⟨false,1,[.nilFunc],.other⟩:=by kernel_rfl
theorem kd_68:kindP Tryd.prog 68=.other:=by kernel_rfl
theorem ti_71:tiP Tryd.prog 71=some ⟨false,1,[.nilFunc],.other⟩:=by kernel_rfl
theorem kd_71:kindP Tryd.prog 71=.other:=by kernel_rfl
theorem ti_73:tiP Tryd.prog 73=some ⟨false,1,[.nilFunc],.other⟩:=by kernel_rfl
theorem kd_73:kindP Tryd.prog 73=.other:=by kernel_rfl
theorem ti_74:tiP Tryd.prog 74=some ⟨false,1,[.slice none 0 0],.slice 57 1 24 [.slice none 0 0]⟩:=by kernel_rfl
theorem kd_74:kindP Tryd.prog 74=.slice 57 1 24 [.slice none 0 0]:=by kernel_rfl
theorem ti_75:tiP Tryd.prog 75=some ⟨false,1,[.nilFunc],.other⟩:=by kernel_rfl
theorem kd_75:kindP Tryd.prog 75=.other:=by kernel_rfl
theorem ti_76:tiP Tryd.prog 76=some ⟨false,1,[.nilFunc],.other⟩:=by kernel_rfl
theorem kd_76:kindP Tryd.prog 76=.other:=by kernel_rfl
theorem ti_77:tiP Tryd.prog 77=some ⟨false,1,[.nilFunc],.other⟩:=by kernel_rfl
theorem kd_77:kindP Tryd.prog 77=.other:=by kernel_rfl
theorem ti_78:tiP Tryd.prog 78=some ⟨false,1,[.nilFunc],.other⟩:=by kernel_rfl
theorem kd_78:kindP Tryd.prog 78=.other:=by kernel_rfl
theorem ti_79:tiP Tryd.prog 79=some ⟨false,1,[.pointer none],.ptr 81⟩:=by kernel_rfl
theorem kd_79:kindP Tryd.prog 79=.ptr 81:=by kernel_rfl
theorem ti_80:tiP Tryd.prog 80=some ⟨true,2,[.pointer none,.slice none 0 0],.struct [(0,1,false),(1,1,false)]⟩:=by kernel_rfl
theorem kd_80:kindP Tryd.prog 80=.struct [(0,1,false),(1,1,false)]:=by kernel_rfl
theorem ti_81:tiP Tryd.prog 81=some ⟨true,2,[.pointer none,.slice none 0 0],.struct [(0,1,false),(1,1,false)]⟩:=by kernel_rfl
theorem kd_81:kindP Tryd.prog 81=.struct [(0,1,false),(1,1,false)]:=by kernel_rfl
theorem ti_84:tiP Tryd.prog 84=some ⟨false,1,[.nilFunc],.other⟩:=by kernel_rfl
theorem kd_84:kindP Tryd.prog 84=.other:=by kernel_rfl
theorem ti_85:tiP Tryd.prog 85=some ⟨false,1,[.nilIface],.other⟩:=by kernel_rfl
theorem kd_85:kindP Tryd.prog 85=.other:=by kernel_rfl
theorem ti_86:tiP Tryd.prog 86=some ⟨false,1,[.nilIface],.other⟩:=by kernel_rfl
theorem kd_86:kindP Tryd.prog 86=.other:=by kernel_rfl
theorem ti_91:tiP Tryd.prog 91=some ⟨false,1,[.nilFunc],.other⟩:=by kernel_rfl
theorem kd_91:kindP Tryd.prog 91=.other:=by kernel_rfl
theorem ti_92:tiP Tryd.prog 92=some ⟨false,1,[.nilFunc],.other⟩:=by kernel_rfl
theorem kd_92:kindP Tryd.prog 92=.other:=by kernel_rfl
theorem ti_93:tiP Tryd.prog 93=some ⟨false,1,[.nilFunc],.other⟩:=by kernel_rfl
theorem kd_93:kindP Tryd.prog 93=.other:=by kernel_rfl
theorem ti_94:tiP Tryd.prog 94=some ⟨false,1,[.nilFunc],.other⟩:=by kernel_rfl
theorem kd_94:kindP Tryd.prog 94=.other:=by kernel_rfl
theorem ti_95:tiP Tryd.prog 95=some ⟨false,1,[.int .u64 0],.int .u64⟩:=by kernel_rfl
theorem kd_95:kindP Tryd.prog 95=.int .u64:=by kernel_rfl
theorem ti_97:tiP Tryd.prog 97=some ⟨false,1,[.nilFunc],.other⟩:=by kernel_rfl
theorem kd_97:kindP Tryd.prog 97=.other:=by kernel_rfl
theorem ti_98:tiP Tryd.prog 98=some ⟨false,1,[.nilFunc],.other⟩:=by kernel_rfl
theorem kd_98:kindP Tryd.prog 98=.other:=by kernel_rfl
theorem ti_99:tiP Tryd.prog 99=some ⟨false,1,[.pointer none],.ptr 141⟩:=by kernel_rfl
theorem kd_99:kindP Tryd.prog 99=.ptr 141:=by kernel_rfl
theorem ti_100:tiP Tryd.prog 100=some ⟨false,1,[.nilFunc],.other⟩:=by kernel_rfl
theorem kd_100:kindP Tryd.prog 100=.other:=by kernel_rfl
theorem ti_102:tiP Tryd.prog 102=some ⟨false,1,[.nilFunc],.other⟩:=by kernel_rfl
theorem kd_102:kindP Tryd.prog 102=.other:=by kernel_rfl
theorem ti_105:tiP Tryd.prog 105=some ⟨false,1,[.pointer none],.ptr 107⟩:=by kernel_rfl
theorem kd_105:kindP Tryd.prog 105=.ptr 107:=by kernel_rfl
theorem ti_106:tiP Tryd.prog 106=some ⟨true,3,[.string ⟨#[]⟩,.int .i64 0,.bool false],.struct [(0,1,false),(1,1,false),(2,1,false)]⟩:=by kernel_rfl
theorem kd_106:kindP Tryd.prog 106=.struct [(0,1,false),(1,1,false),(2,1,false)]:=by kernel_rfl
theorem ti_107:tiP Tryd.prog 107=some ⟨true,3,[.string ⟨#[]⟩,.int .i64 0,.bool false],.struct [(0,1,false),(1,1,false),(2,1,false)]⟩:=by kernel_rfl
theorem kd_107:kindP Tryd.prog 107=.struct [(0,1,false),(1,1,false),(2,1,false)]:=by kernel_rfl
theorem ti_108:tiP Tryd.prog 108=some ⟨false,1,[.nilFunc],.other⟩:=by kernel_rfl
theorem kd_108:kindP Tryd.prog 108=.other:=by kernel_rfl
theorem ti_109:tiP Tryd.prog 109=some ⟨false,1,[.nilFunc],.other⟩:=by kernel_rfl
theorem kd_109:kindP Tryd.prog 109=.other:=by kernel_rfl
theorem ti_110:tiP Tryd.prog 110=some ⟨false,1,[.nilFunc],.other⟩:=by kernel_rfl
theorem kd_110:kindP Tryd.prog 110=.other:=by kernel_rfl
theorem ti_113:tiP Tryd.prog 113=some ⟨false,1,[.slice none 0 0],.slice 115 4 40 [.int .i64 0,.slice none 0 0,.bool false,.bool false]⟩:=by kernel_rfl
theorem kd_113:kindP Tryd.prog 113=.slice 115 4 40 [.int .i64 0,.slice none 0 0,.bool false,.bool false]:=by kernel_rfl
theorem ti_114:tiP Tryd.prog 114=some ⟨true,4,[.int .i64 0,.slice none 0 0,.bool false,.bool false],.struct [(0,1,false),(1,1,false),(2,1,false),(3,1,false)]⟩:=by kernel_rfl
theorem kd_114:kindP Tryd.prog 114=.struct [(0,1,false),(1,1,false),(2,1,false),(3,1,false)]:=by kernel_rfl
theorem ti_115:tiP Tryd.prog 115=some ⟨true,4,[.int .i64 0,.slice none 0 0,.bool false,.bool false],.struct [(0,1,false),(1,1,false),(2,1,false),(3,1,false)]⟩:=by kernel_rfl
theorem kd_115:kindP Tryd.prog 115=.struct [(0,1,false),(1,1,false),(2,1,false),(3,1,false)]:=by kernel_rfl
theorem ti_116:tiP Tryd.prog 116=some ⟨false,1,[.nilFunc],.other⟩:=by kernel_rfl
theorem kd_116:kindP Tryd.prog 116=.other:=by kernel_rfl
theorem ti_117:tiP Tryd.prog 117=some ⟨false,1,[.nilFunc],.other⟩:=by kernel_rfl
theorem kd_117:kindP Tryd.prog 117=.other:=by kernel_rfl
theorem ti_118:tiP Tryd.prog 118=some ⟨false,1,[.nilFunc],.other⟩:=by kernel_rfl
theorem kd_118:kindP Tryd.prog 118=.other:=by kernel_rfl
theorem ti_119:tiP Tryd.prog 119=some ⟨false,1,[.nilFunc],.other⟩:=by kernel_rfl
theorem kd_119:kindP Tryd.prog 119=.other:=by kernel_rfl
theorem ti_120:tiP Tryd.prog 120=some ⟨false,1,[.nilFunc],.other⟩:=by kernel_rfl
theorem kd_120:kindP Tryd.prog 120=.other:=by kernel_rfl
theorem ti_121:tiP Tryd.prog 121=some ⟨false,1,[.int .u64 0],.int .u64⟩:=by kernel_rfl
theorem kd_121:kindP Tryd.prog 121=.int .u64:=by kernel_rfl
theorem ti_124:tiP Tryd.prog 124=some ⟨false,1,[.nilFunc],.other⟩:=by kernel_rfl
theorem kd_124:kindP Tryd.prog 124=.other:=by kernel_rfl
theorem ti_129:tiP Tryd.prog 129=some ⟨false,1,[.pointer none],.ptr 5⟩:=by kernel_rfl
theorem kd_129:kindP Tryd.prog 129=.ptr 5:=by kernel_rfl
theorem ti_130:tiP Tryd.prog 130=some ⟨false,1,[.slice none 0 0],.slice 25 1 8 [.int .i64 0]⟩:=by kernel_rfl
theorem kd_130:kindP Tryd.prog 130=.slice 25 1 8 [.int .i64 0]:=by kernel_rfl
theorem ti_136:tiP Tryd.prog 136=some ⟨false,1,[.slice none 0 0],.slice 157 2 16 [.int .u8 0,.int .i64 0]⟩:=by kernel_rfl
theorem kd_136:kindP Tryd.prog 136=.slice 157 2 16 [.int .u8 0,.int .i64 0]:=by kernel_rfl
theorem ti_138:tiP Tryd.prog 138=some ⟨true,4,[.int .i64 0,.int .i64 0,.int .i64 0,.slice none 0 0],.struct [(0,1,false),(1,1,false),(2,1,false),(3,1,false)]⟩:=by kernel_rfl
theorem kd_138:kindP Tryd.prog 138=.struct [(0,1,false),(1,1,false),(2,1,false),(3,1,false)]:=by kernel_rfl
theorem ti_139:tiP Tryd.prog 139=some ⟨false,1,[.slice none 0 0],.slice 138 4 48 [.int .i64 0,.int .i64 0,.int .i64 0,.slice none 0 0]⟩:=by kernel_rfl
theorem kd_139:kindP Tryd.prog 139=.slice 138 4 48 [.int .i64 0,.int .i64 0,.int .i64 0,.slice none 0 0]:=by kernel_rfl
theorem ti_141:tiP Tryd.prog 141=some ⟨true,2,[.slice none 0 0,.int .i64 0],.struct [(0,1,false),(1,1,false)]⟩:=by kernel_rfl
theorem kd_141:kindP Tryd.prog 141=.struct [(0,1,false),(1,1,false)]:=by kernel_rfl
theorem ti_145:tiP Tryd.prog 145=some ⟨false,1,[.nilFunc],.other⟩:=by kernel_rfl
theorem kd_145:kindP Tryd.prog 145=.other:=by kernel_rfl
theorem ti_150:tiP Tryd.prog 150=some ⟨false,1,[.nilFunc],.other⟩:=by kernel_rfl
theorem kd_150:kindP Tryd.prog 150=.other:=by kernel_rfl
theorem ti_152:tiP Tryd.prog 152=some ⟨false,1,[.pointer none],.other⟩:=by kernel_rfl
theorem kd_152:kindP Tryd.prog 152=.other:=by kernel_rfl
theorem ti_155:tiP Tryd.prog 155=some ⟨false,1,[.pointer none],.ptr 138⟩:=by kernel_rfl
theorem kd_155:kindP Tryd.prog 155=.ptr 138:=by kernel_rfl
theorem ti_157:tiP Tryd.prog 157=some ⟨true,2,[.int .u8 0,.int .i64 0],.struct [(0,1,false),(1,1,false)]⟩:=by kernel_rfl
theorem kd_157:kindP Tryd.prog 157=.struct [(0,1,false),(1,1,false)]:=by kernel_rfl
theorem ti_169:tiP Tryd.prog 169=some ⟨false,1,[.int .i64 0],.int .i64⟩:=by kernel_rfl
theorem kd_169:kindP Tryd.prog 169=.int .i64:=by kernel_rfl
theorem ti_172:tiP Tryd.prog 172=some ⟨false,1,[.nilFunc],.other⟩:=by kernel_rfl
theorem kd_172:kindP Tryd.prog 172=.other:=by kernel_rfl
theorem ti_177:tiP Tryd.prog 177=some ⟨true,65,[.int .u8 0,.int .u8 0,.int .u8 0,.int .u8 0,.int .u8 0,.int .u8 0,.int .u8 0,.int .u8 0,.int .u8 0,.int .u8 0,.int .u8 0,.int .u8 0,.int .u8 0,.int .u8 0,.int .u8 0,.int .u8 0,.int .u8 0,.int .u8 0,.int .u8 0,.int .u8 0,.int .u8 0,.int .u8 0,.int .u8 0,.int .u8 0,.int .u8 0,.int .u8 0,.int .u8 0,.int .u8 0,.int .u8 0,.int .u8 0,.int .u8 0,.int .u8 0,.int .u8 0,.int .u8 0,.int .u8 0,.int .u8 0,.int .u8 0,.int .u8 0,.int .u8 0,.int .u8 0,.int .u8 0,.int .u8 0,.int .u8 0,.int .u8 0,.int .u8 0,.int .u8 0,.int .u8 0,.int .u8 0,.int .u8 0,.int .u8 0,.int .u8 0,.int .u8 0,.int .u8 0,.int .u8 0,.int .u8 0,.int .u8 0,.int .u8 0,.int .u8 0,.int .u8 0,.int .u8 0,.int .u8 0,.int .u8 0,.int .u8 0,.int .u8 0,.int .u8 0],.arr 65 5 1 false⟩:=by kernel_rfl
theorem kd_177:kindP Tryd.prog 177=.arr 65 5 1 false:=by kernel_rfl
theorem ti_180:tiP Tryd.prog 180=some ⟨true,3,[.string ⟨#[]⟩,.string ⟨#[]⟩,.nilIface],.struct [(0,1,false),(1,1,false),(2,1,false)]⟩:=by kernel_rfl
theorem kd_180:kindP Tryd.prog 180=.struct [(0,1,false),(1,1,false),(2,1,false)]:=by kernel_rfl
theorem ti_188:tiP Tryd.prog 188=some ⟨false,1,[.pointer none],.ptr 190⟩:=by kernel_rfl
theorem kd_188:kindP Tryd.prog 188=.ptr 190:=by kernel_rfl
theorem ti_202:tiP Tryd.prog 202=some ⟨false,1,[.int .i32 0],.int .i32⟩:=by kernel_rfl
theorem kd_202:kindP Tryd.prog 202=.int .i32:=by kernel_rfl
theorem kk_9:kkP Tryd.prog 9=.tk .str:=by kernel_rfl
theorem kk_29:kkP Tryd.prog 29=.ks [.i .i64,.i .i64]:=by kernel_rfl
theorem zf_0:zfP Tryd.prog 0=false:=by kernel_rfl
theorem zf_1:zfP Tryd.prog 1=false:=by kernel_rfl
theorem zf_2:zfP Tryd.prog 2=false:=by kernel_rfl
theorem zf_3:zfP Tryd.prog 3=false:=by kernel_rfl
theorem zf_4:zfP Tryd.prog 4=false:=by kernel_rfl
theorem zf_5:zfP Tryd.prog 5=false:=by kernel_rfl
theorem zf_6:zfP Tryd.prog 6=false:=by kernel_rfl
theorem zf_7:zfP Tryd.prog 7=true:=by kernel_rfl
theorem zf_8:zfP Tryd.prog 8=true:=by kernel_rfl
theorem zf_9:zfP Tryd.prog 9=false:=by kernel_rfl
theorem zf_10:zfP Tryd.prog 10=false:=by kernel_rfl
theorem zf_11:zfP Tryd.prog 11=false:=by kernel_rfl
theorem zf_12:zfP Tryd.prog 12=false:=by kernel_rfl
theorem zf_13:zfP Tryd.prog 13=true:=by kernel_rfl
theorem zf_14:zfP Tryd.prog 14=true:=by kernel_rfl
theorem zf_15:zfP Tryd.prog 15=false:=by kernel_rfl
theorem zf_16:zfP Tryd.prog 16=false:=by kernel_rfl
theorem zf_17:zfP Tryd.prog 17=false:=by kernel_rfl
theorem zf_18:zfP Tryd.prog 18=true:=by kernel_rfl
theorem zf_19:zfP Tryd.prog 19=true:=by kernel_rfl
theorem zf_20:zfP Tryd.prog 20=false:=by kernel_rfl
theorem zf_21:zfP Tryd.prog 21=false:=by kernel_rfl
theorem zf_22:zfP Tryd.prog 22=false:=by kernel_rfl
theorem zf_23:zfP Tryd.prog 23=false:=by kernel_rfl
theorem zf_24:zfP Tryd.prog 24=false:=by kernel_rfl
theorem zf_25:zfP Tryd.prog 25=false:=by kernel_rfl
theorem zf_26:zfP Tryd.prog 26=false:=by kernel_rfl
theorem zf_27:zfP Tryd.prog 27=false:=by kernel_rfl
theorem zf_28:zfP Tryd.prog 28=false:=by kernel_rfl
theorem zf_29:zfP Tryd.prog 29=true:=by kernel_rfl
theorem zf_30:zfP Tryd.prog 30=false:=by kernel_rfl
theorem zf_31:zfP Tryd.prog 31=false:=by kernel_rfl
theorem zf_33:zfP Tryd.prog 33=false:=by kernel_rfl
theorem zf_36:zfP Tryd.prog 36=false:=by kernel_rfl
theorem zf_37:zfP Tryd.prog 37=false:=by kernel_rfl
theorem zf_38:zfP Tryd.prog 38=false:=by kernel_rfl
theorem zf_39:zfP Tryd.prog 39=false:=by kernel_rfl
theorem zf_40:zfP Tryd.prog 40=true:=by kernel_rfl
theorem zf_41:zfP Tryd.prog 41=true:=by kernel_rfl
theorem zf_42:zfP Tryd.prog 42=false:=by kernel_rfl
theorem zf_43:zfP Tryd.prog 43=false:=by kernel_rfl
theorem zf_44:zfP Tryd.prog 44=false:=by kernel_rfl
theorem zf_45:zfP Tryd.prog 45=false:=by kernel_rfl
theorem zf_46:zfP Tryd.prog 46=false:=by kernel_rfl
theorem zf_48:zfP Tryd.prog 48=true:=by kernel_rfl
theorem zf_49:zfP Tryd.prog 49=true:=by kernel_rfl
theorem zf_50:zfP Tryd.prog 50=false:=by kernel_rfl
theorem zf_51:zfP Tryd.prog 51=false:=by kernel_rfl
theorem zf_52:zfP Tryd.prog 52=false:=by kernel_rfl
theorem zf_53:zfP Tryd.prog 53=false:=by kernel_rfl
theorem zf_54:zfP Tryd.prog 54=false:=by kernel_rfl
theorem zf_55:zfP Tryd.prog 55=false:=by kernel_rfl
theorem zf_56:zfP Tryd.prog 56=false:=by kernel_rfl
theorem zf_57:zfP Tryd.prog 57=false:=by kernel_rfl
theorem zf_58:zfP Tryd.prog 58=false:=by kernel_rfl
theorem zf_59:zfP Tryd.prog 59=false:=by kernel_rfl
theorem zf_60:zfP Tryd.prog 60=false:=by kernel_rfl
theorem zf_63:zfP Tryd.prog 63=true:=by kernel_rfl
theorem zf_64:zfP Tryd.prog 64=false:=by kernel_rfl
theorem zf_65:zfP Tryd.prog 65=false:=by kernel_rfl
theorem zf_66:zfP Tryd.prog 66=false:=by kernel_rfl
theorem zf_67:zfP Tryd.prog 67=false:=by kernel_rfl
theorem zf_68:zfP Tryd.prog 68=false:=by kernel_rfl
theorem zf_71:zfP Tryd.prog 71=false:=by kernel_rfl
theorem zf_73:zfP Tryd.prog 73=false:=by kernel_rfl
theorem zf_74:zfP Tryd.prog 74=false:=by kernel_rfl
theorem zf_75:zfP Tryd.prog 75=false:=by kernel_rfl
theorem zf_76:zfP Tryd.prog 76=false:=by kernel_rfl
theorem zf_77:zfP Tryd.prog 77=false:=by kernel_rfl
theorem zf_78:zfP Tryd.prog 78=false:=by kernel_rfl
theorem zf_79:zfP Tryd.prog 79=false:=by kernel_rfl
theorem zf_80:zfP Tryd.prog 80=true:=by kernel_rfl
theorem zf_81:zfP Tryd.prog 81=true:=by kernel_rfl
theorem zf_84:zfP Tryd.prog 84=false:=by kernel_rfl
theorem zf_85:zfP Tryd.prog 85=false:=by kernel_rfl
theorem zf_86:zfP Tryd.prog 86=false:=by kernel_rfl
theorem zf_87:zfP Tryd.prog 87=false:=by kernel_rfl
theorem zf_91:zfP Tryd.prog 91=false:=by kernel_rfl
theorem zf_92:zfP Tryd.prog 92=false:=by kernel_rfl
theorem zf_93:zfP Tryd.prog 93=false:=by kernel_rfl
theorem zf_94:zfP Tryd.prog 94=false:=by kernel_rfl
theorem zf_95:zfP Tryd.prog 95=false:=by kernel_rfl
theorem zf_97:zfP Tryd.prog 97=false:=by kernel_rfl
theorem zf_98:zfP Tryd.prog 98=false:=by kernel_rfl
theorem zf_99:zfP Tryd.prog 99=false:=by kernel_rfl
theorem zf_100:zfP Tryd.prog 100=false:=by kernel_rfl
theorem zf_101:zfP Tryd.prog 101=false:=by kernel_rfl
theorem zf_102:zfP Tryd.prog 102=false:=by kernel_rfl
theorem zf_105:zfP Tryd.prog 105=false:=by kernel_rfl
theorem zf_106:zfP Tryd.prog 106=true:=by kernel_rfl
theorem zf_107:zfP Tryd.prog 107=true:=by kernel_rfl
theorem zf_108:zfP Tryd.prog 108=false:=by kernel_rfl
theorem zf_109:zfP Tryd.prog 109=false:=by kernel_rfl
theorem zf_110:zfP Tryd.prog 110=false:=by kernel_rfl
theorem zf_113:zfP Tryd.prog 113=false:=by kernel_rfl
theorem zf_114:zfP Tryd.prog 114=true:=by kernel_rfl
theorem zf_115:zfP Tryd.prog 115=true:=by kernel_rfl
theorem zf_116:zfP Tryd.prog 116=false:=by kernel_rfl
theorem zf_117:zfP Tryd.prog 117=false:=by kernel_rfl
theorem zf_118:zfP Tryd.prog 118=false:=by kernel_rfl
theorem zf_119:zfP Tryd.prog 119=false:=by kernel_rfl
theorem zf_120:zfP Tryd.prog 120=false:=by kernel_rfl
theorem zf_121:zfP Tryd.prog 121=false:=by kernel_rfl
theorem zf_124:zfP Tryd.prog 124=false:=by kernel_rfl
theorem zf_129:zfP Tryd.prog 129=false:=by kernel_rfl
theorem zf_130:zfP Tryd.prog 130=false:=by kernel_rfl
theorem zf_136:zfP Tryd.prog 136=false:=by kernel_rfl
theorem zf_138:zfP Tryd.prog 138=true:=by kernel_rfl
theorem zf_139:zfP Tryd.prog 139=false:=by kernel_rfl
theorem zf_141:zfP Tryd.prog 141=true:=by kernel_rfl
theorem zf_144:zfP Tryd.prog 144=false:=by kernel_rfl
theorem zf_145:zfP Tryd.prog 145=false:=by kernel_rfl
theorem zf_150:zfP Tryd.prog 150=false:=by kernel_rfl
theorem zf_152:zfP Tryd.prog 152=false:=by kernel_rfl
theorem zf_155:zfP Tryd.prog 155=false:=by kernel_rfl
theorem zf_157:zfP Tryd.prog 157=true:=by kernel_rfl
theorem zf_169:zfP Tryd.prog 169=false:=by kernel_rfl
theorem zf_172:zfP Tryd.prog 172=false:=by kernel_rfl
theorem zf_177:zfP Tryd.prog 177=true:=by kernel_rfl
theorem zf_180:zfP Tryd.prog 180=true:=by kernel_rfl
theorem zf_188:zfP Tryd.prog 188=false:=by kernel_rfl
theorem zf_202:zfP Tryd.prog 202=false:=by kernel_rfl
theorem eq_7:eqTyP Tryd.prog 7=some [.i .i64,.i .i64,.b,.i .u8]:=by kernel_rfl
theorem ag_7:aggP Tryd.prog 7=true:=by kernel_rfl
theorem eq_8:eqTyP Tryd.prog 8=some [.i .i64,.i .i64,.b,.i .u8]:=by kernel_rfl
theorem ag_8:aggP Tryd.prog 8=true:=by kernel_rfl
theorem eq_29:eqTyP Tryd.prog 29=some [.i .i64,.i .i64]:=by kernel_rfl
theorem ag_29:aggP Tryd.prog 29=true:=by kernel_rfl
theorem eq_48:eqTyP Tryd.prog 48=some [.i .i64,.i .i64,.s]:=by kernel_rfl
theorem ag_48:aggP Tryd.prog 48=true:=by kernel_rfl
theorem eq_49:eqTyP Tryd.prog 49=some [.i .i64,.i .i64,.s]:=by kernel_rfl
theorem ag_49:aggP Tryd.prog 49=true:=by kernel_rfl
theorem eq_63:eqTyP Tryd.prog 63=some [.i .i64,.i .i64,.i .i64]:=by kernel_rfl
theorem ag_63:aggP Tryd.prog 63=true:=by kernel_rfl
theorem eq_106:eqTyP Tryd.prog 106=some [.s,.i .i64,.b]:=by kernel_rfl
theorem ag_106:aggP Tryd.prog 106=true:=by kernel_rfl
theorem eq_107:eqTyP Tryd.prog 107=some [.s,.i .i64,.b]:=by kernel_rfl
theorem ag_107:aggP Tryd.prog 107=true:=by kernel_rfl
theorem eq_157:eqTyP Tryd.prog 157=some [.i .u8,.i .i64]:=by kernel_rfl
theorem ag_157:aggP Tryd.prog 157=true:=by kernel_rfl
attribute [go_sem] ti_0 kd_0 ti_1 kd_1 ti_2 kd_2 ti_3 kd_3 ti_4 kd_4 ti_5 kd_5 ti_6 kd_6 ti_7 kd_7 ti_8 kd_8 ti_9 kd_9 ti_10 kd_10 ti_11 kd_11 ti_12 kd_12 ti_13 kd_13 ti_14 kd_14 ti_15 kd_15 ti_16 kd_16 ti_17 kd_17 ti_18 kd_18 ti_19 kd_19
attribute [go_sem] ti_20 kd_20 ti_21 kd_21 ti_22 kd_22 ti_23 kd_23 ti_24 kd_24 ti_25 kd_25 ti_27 kd_27 ti_28 kd_28 ti_29 kd_29 ti_30 kd_30 ti_31 kd_31 ti_36 kd_36 ti_37 kd_37 ti_38 kd_38 ti_39 kd_39 ti_40 kd_40 ti_41 kd_41
attribute [go_sem] ti_43 kd_43 ti_44 kd_44 ti_46 kd_46 ti_48 kd_48 ti_49 kd_49 ti_50 kd_50 ti_51 kd_51 ti_52 kd_52 ti_53 kd_53 ti_54 kd_54 ti_55 kd_55 ti_56 kd_56 ti_57 kd_57 ti_58 kd_58 ti_59 kd_59 ti_63 kd_63 ti_65 kd_65
attribute [go_sem] ti_66 kd_66 ti_67 kd_67 ti_68 kd_68 ti_71 kd_71 ti_73 kd_73 ti_74 kd_74 ti_75 kd_75 ti_76 kd_76 ti_77 kd_77 ti_78 kd_78 ti_79 kd_79 ti_80 kd_80 ti_81 kd_81 ti_84 kd_84 ti_85 kd_85 ti_86 kd_86
attribute [go_sem] ti_91 kd_91 ti_92 kd_92 ti_93 kd_93 ti_94 kd_94 ti_95 kd_95 ti_97 kd_97 ti_98 kd_98 ti_99 kd_99 ti_100 kd_100 ti_102 kd_102 ti_105 kd_105 ti_106 kd_106 ti_107 kd_107 ti_108 kd_108 ti_109 kd_109
attribute [go_sem] ti_110 kd_110 ti_113 kd_113 ti_114 kd_114 ti_115 kd_115 ti_116 kd_116 ti_117 kd_117 ti_118 kd_118 ti_119 kd_119 ti_120 kd_120 ti_121 kd_121 ti_124 kd_124 ti_129 kd_129
attribute [go_sem] ti_130 kd_130 ti_136 kd_136 ti_138 kd_138 ti_139 kd_139 ti_141 kd_141 ti_145 kd_145 ti_150 kd_150 ti_152 kd_152
attribute [go_sem] ti_155 kd_155 ti_157 kd_157 ti_169 kd_169 ti_172 kd_172
attribute [go_sem] ti_177 kd_177 ti_180 kd_180 ti_188 kd_188
attribute [go_sem] ti_202 kd_202 kk_9 kk_29 zf_0 zf_1 zf_2 zf_3 zf_4 zf_5 zf_6 zf_7 zf_8 zf_9 zf_10 zf_11 zf_12 zf_13 zf_14 zf_15 zf_16 zf_17
attribute [go_sem] zf_18 zf_19 zf_20 zf_21 zf_22 zf_23 zf_24 zf_25 zf_26 zf_27 zf_28 zf_29 zf_30 zf_31 zf_33 zf_36 zf_37 zf_38 zf_39 zf_40 zf_41 zf_42 zf_43 zf_44 zf_45 zf_46 zf_48 zf_49 zf_50 zf_51 zf_52 zf_53 zf_54 zf_55 zf_56 zf_57
attribute [go_sem] zf_58 zf_59 zf_60 zf_63 zf_64 zf_65 zf_66 zf_67 zf_68 zf_71 zf_73 zf_74 zf_75 zf_76 zf_77 zf_78 zf_79 zf_80 zf_81 zf_84 zf_85 zf_86 zf_87 zf_91 zf_92 zf_93 zf_94 zf_95 zf_97
attribute [go_sem] zf_98 zf_99 zf_100 zf_101 zf_102 zf_105 zf_106 zf_107 zf_108 zf_109 zf_110 zf_113 zf_114 zf_115 zf_116 zf_117 zf_118 zf_119 zf_120 zf_121 zf_124 zf_129 zf_130 zf_136
attribute [go_sem] zf_138 zf_139 zf_141 zf_144 zf_145 zf_150 zf_152 zf_155 zf_157 zf_169 zf_172 zf_177
attribute [go_sem] zf_180 zf_188 zf_202 eq_7 ag_7 eq_8 ag_8 eq_29 ag_29 eq_48 ag_48
attribute [go_sem] eq_49 ag_49 eq_63 ag_63 eq_106 ag_106 eq_107 ag_107 eq_157 ag_157
end Go.Proofs.YtkekfenkeeiigaaDoor
