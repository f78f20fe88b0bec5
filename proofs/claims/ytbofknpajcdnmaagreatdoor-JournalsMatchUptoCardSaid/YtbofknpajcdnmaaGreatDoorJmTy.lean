/- What the program's types are, as the machine reads them. -/
import Derived.Test.YtbofknpajcdnmaaGreatDoorVc3
import Derived.Test.YtbofknpajcdnmaaGreatDoorProg
import Derived.KernelRfl
namespace Go.Proofs.YtbofknpajcdnmaaGreatDoor
open Go.Vc
theorem ti_0:tiP Tryz.prog 0=some ⟨false,1,[.tuple #[]],.other⟩:=by kernel_rfl
theorem kd_0:kindP Tryz.prog 0=.other:=by kernel_rfl
theorem ti_1:tiP Tryz.prog 1=some ⟨false,1,[.nilFunc],.other⟩:=by kernel_rfl
theorem kd_1:kindP Tryz.prog 1=.other:=by kernel_rfl
theorem ti_2:tiP Tryz.prog 2=some ⟨false,1,[.int .i64 0],.int .i64⟩:=by kernel_rfl
theorem kd_2:kindP Tryz.prog 2=.int .i64:=by kernel_rfl
theorem ti_3:tiP Tryz.prog 3=some ⟨false,1,[.int .i64 0],.int .i64⟩:=by kernel_rfl
theorem kd_3:kindP Tryz.prog 3=.int .i64:=by kernel_rfl
theorem ti_4:tiP Tryz.prog 4=some ⟨false,1,[.bool false],.bool⟩:=by kernel_rfl
theorem kd_4:kindP Tryz.prog 4=.bool:=by kernel_rfl
theorem ti_5:tiP Tryz.prog 5=some ⟨false,1,[.int .u8 0],.int .u8⟩:=by kernel_rfl
theorem kd_5:kindP Tryz.prog 5=.int .u8:=by kernel_rfl
theorem ti_6:tiP Tryz.prog 6=some ⟨false,1,[.int .u8 0],.int .u8⟩:=by kernel_rfl
theorem kd_6:kindP Tryz.prog 6=.int .u8:=by kernel_rfl
theorem ti_7:tiP Tryz.prog 7=some ⟨true,4,[.int .i64 0,.int .i64 0,.bool false,.int .u8 0],.struct [(0,1,false),(1,1,false),(2,1,false),(3,1,false)]⟩:=by kernel_rfl
theorem kd_7:kindP Tryz.prog 7=.struct [(0,1,false),(1,1,false),(2,1,false),(3,1,false)]:=by kernel_rfl
theorem ti_8:tiP Tryz.prog 8=some ⟨true,4,[.int .i64 0,.int .i64 0,.bool false,.int .u8 0],.struct [(0,1,false),(1,1,false),(2,1,false),(3,1,false)]⟩:=by kernel_rfl
theorem kd_8:kindP Tryz.prog 8=.struct [(0,1,false),(1,1,false),(2,1,false),(3,1,false)]:=by kernel_rfl
theorem ti_9:tiP Tryz.prog 9=some ⟨false,1,[.string ⟨#[]⟩],.str⟩:=by kernel_rfl
theorem kd_9:kindP Tryz.prog 9=.str:=by kernel_rfl
theorem ti_10:tiP Tryz.prog 10=some ⟨false,1,[.string ⟨#[]⟩],.str⟩:=by kernel_rfl
theorem kd_10:kindP Tryz.prog 10=.str:=by kernel_rfl
theorem ti_11:tiP Tryz.prog 11=some ⟨false,1,[.string ⟨#[]⟩],.str⟩:=by kernel_rfl
theorem kd_11:kindP Tryz.prog 11=.str:=by kernel_rfl
theorem ti_12:tiP Tryz.prog 12=some ⟨false,1,[.int .u64 0],.int .u64⟩:=by kernel_rfl
theorem kd_12:kindP Tryz.prog 12=.int .u64:=by kernel_rfl
theorem ti_13:tiP Tryz.prog 13=some ⟨true,2,[.string ⟨#[]⟩,.int .u64 0],.struct [(0,1,false),(1,1,false)]⟩:=by kernel_rfl
theorem kd_13:kindP Tryz.prog 13=.struct [(0,1,false),(1,1,false)]:=by kernel_rfl
theorem ti_14:tiP Tryz.prog 14=some ⟨true,2,[.string ⟨#[]⟩,.int .u64 0],.struct [(0,1,false),(1,1,false)]⟩:=by kernel_rfl
theorem kd_14:kindP Tryz.prog 14=.struct [(0,1,false),(1,1,false)]:=by kernel_rfl
theorem ti_15:tiP Tryz.prog 15=some ⟨false,1,[.pointer none],.ptr 349⟩:=by kernel_rfl
theorem kd_15:kindP Tryz.prog 15=.ptr 349:=by kernel_rfl
theorem ti_16:tiP Tryz.prog 16=some ⟨false,1,[.pointer none],.ptr 352⟩:=by kernel_rfl
theorem kd_16:kindP Tryz.prog 16=.ptr 352:=by kernel_rfl
theorem ti_17:tiP Tryz.prog 17=some ⟨false,1,[.pointer none],.ptr 359⟩:=by kernel_rfl
theorem kd_17:kindP Tryz.prog 17=.ptr 359:=by kernel_rfl
theorem ti_18:tiP Tryz.prog 18=some ⟨true,1,[.pointer none],.struct [(0,1,false)]⟩:=by kernel_rfl
theorem kd_18:kindP Tryz.prog 18=.struct [(0,1,false)]:=by kernel_rfl
theorem ti_19:tiP Tryz.prog 19=some ⟨true,1,[.pointer none],.struct [(0,1,false)]⟩:=by kernel_rfl
theorem kd_19:kindP Tryz.prog 19=.struct [(0,1,false)]:=by kernel_rfl
theorem ti_20:tiP Tryz.prog 20=some ⟨false,1,[.nilIface],.other⟩:=by kernel_rfl
theorem kd_20:kindP Tryz.prog 20=.other:=by kernel_rfl
theorem ti_21:tiP Tryz.prog 21=some ⟨false,1,[.int .i32 0],.int .i32⟩:=by kernel_rfl
theorem kd_21:kindP Tryz.prog 21=.int .i32:=by kernel_rfl
theorem ti_22:tiP Tryz.prog 22=some ⟨false,1,[.slice none 0 0],.slice 40 2 32 [.string ⟨#[]⟩,.string ⟨#[]⟩]⟩:=by kernel_rfl
theorem kd_22:kindP Tryz.prog 22=.slice 40 2 32 [.string ⟨#[]⟩,.string ⟨#[]⟩]:=by kernel_rfl
theorem ti_23:tiP Tryz.prog 23=some ⟨false,1,[.slice none 0 0],.slice 38 3 40 [.string ⟨#[]⟩,.string ⟨#[]⟩,.bool false]⟩:=by kernel_rfl
theorem kd_23:kindP Tryz.prog 23=.slice 38 3 40 [.string ⟨#[]⟩,.string ⟨#[]⟩,.bool false]:=by kernel_rfl
theorem ti_24:tiP Tryz.prog 24=some ⟨false,1,[.slice none 0 0],.slice 42 4 40 [.string ⟨#[]⟩,.string ⟨#[]⟩,.bool false,.bool false]⟩:=by kernel_rfl
theorem kd_24:kindP Tryz.prog 24=.slice 42 4 40 [.string ⟨#[]⟩,.string ⟨#[]⟩,.bool false,.bool false]:=by kernel_rfl
theorem ti_25:tiP Tryz.prog 25=some ⟨true,4,[.slice none 0 0,.slice none 0 0,.slice none 0 0,.slice none 0 0],.struct [(0,1,false),(1,1,false),(2,1,false),(3,1,false)]⟩:=by kernel_rfl
theorem kd_25:kindP Tryz.prog 25=.struct [(0,1,false),(1,1,false),(2,1,false),(3,1,false)]:=by kernel_rfl
theorem ti_26:tiP Tryz.prog 26=some ⟨true,4,[.slice none 0 0,.slice none 0 0,.slice none 0 0,.slice none 0 0],.struct [(0,1,false),(1,1,false),(2,1,false),(3,1,false)]⟩:=by kernel_rfl
theorem kd_26:kindP Tryz.prog 26=.struct [(0,1,false),(1,1,false),(2,1,false),(3,1,false)]:=by kernel_rfl
theorem ti_27:tiP Tryz.prog 27=some ⟨false,1,[.slice none 0 0],.slice 46 13 144 [.int .i64 0,.int .i64 0,.string ⟨#[]⟩,.string ⟨#[]⟩,.bool false,.string ⟨#[]⟩,.string ⟨#[]⟩,.string ⟨#[]⟩,.string ⟨#[]⟩,.bool false,.bool false,.int .i64 0,.bool false]⟩:=by kernel_rfl
theorem kd_27:kindP Tryz.prog 27=.slice 46 13 144 [.int .i64 0,.int .i64 0,.string ⟨#[]⟩,.string ⟨#[]⟩,.bool false,.string ⟨#[]⟩,.string ⟨#[]⟩,.string ⟨#[]⟩,.string ⟨#[]⟩,.bool false,.bool false,.int .i64 0,.bool false]:=by kernel_rfl
theorem ti_28:tiP Tryz.prog 28=some ⟨false,1,[.nilFunc],.other⟩:=by kernel_rfl
theorem kd_28:kindP Tryz.prog 28=.other:=by kernel_rfl
theorem ti_29:tiP Tryz.prog 29=some ⟨false,1,[.int .i64 0],.int .i64⟩:=by kernel_rfl
theorem kd_29:kindP Tryz.prog 29=.int .i64:=by kernel_rfl
theorem ti_30:tiP Tryz.prog 30=some ⟨false,1,[.nilFunc],.other⟩:=by kernel_rfl
theorem kd_30:kindP Tryz.prog 30=.other:=by kernel_rfl
theorem ti_31:tiP Tryz.prog 31=some ⟨false,1,[.pointer none],.ptr 114⟩:=by kernel_rfl
theorem kd_31:kindP Tryz.prog 31=.ptr 114:=by kernel_rfl
theorem ti_34:tiP Tryz.prog 34=some ⟨false,1,[.nilFunc],.other⟩:=by kernel_rfl
theorem kd_34:kindP Tryz.prog 34=.other:=by kernel_rfl
theorem ti_36:tiP Tryz.prog 36=some ⟨false,1,[.nilFunc],.other⟩:=by kernel_rfl
theorem kd_36:kindP Tryz.prog 36=.other:=by kernel_rfl
theorem ti_37:tiP Tryz.prog 37=some ⟨true,3,[.string ⟨#[]⟩,.string ⟨#[]⟩,.bool false],.struct [(0,1,false),(1,1,false),(2,1,false)]⟩:=by kernel_rfl
theorem kd_37:kindP Tryz.prog 37=.struct [(0,1,false),(1,1,false),(2,1,false)]:=by kernel_rfl
theorem ti_38:tiP Tryz.prog 38=some ⟨true,3,[.string ⟨#[]⟩,.string ⟨#[]⟩,.bool false],.struct [(0,1,false),(1,1,false),(2,1,false)]⟩:=by kernel_rfl
theorem kd_38:kindP Tryz.prog 38=.struct [(0,1,false),(1,1,false),(2,1,false)]:=by kernel_rfl
theorem ti_39:tiP Tryz.prog 39=some ⟨true,2,[.string ⟨#[]⟩,.string ⟨#[]⟩],.struct [(0,1,false),(1,1,false)]⟩:=by kernel_rfl
theorem kd_39:kindP Tryz.prog 39=.struct [(0,1,false),(1,1,false)]:=by kernel_rfl
theorem ti_40:tiP Tryz.prog 40=some ⟨true,2,[.string ⟨#[]⟩,.string ⟨#[]⟩],.struct [(0,1,false),(1,1,false)]⟩:=by kernel_rfl
theorem kd_40:kindP Tryz.prog 40=.struct [(0,1,false),(1,1,false)]:=by kernel_rfl
theorem ti_41:tiP Tryz.prog 41=some ⟨true,4,[.string ⟨#[]⟩,.string ⟨#[]⟩,.bool false,.bool false],.struct [(0,1,false),(1,1,false),(2,1,false),(3,1,false)]⟩:=by kernel_rfl
theorem kd_41:kindP Tryz.prog 41=.struct [(0,1,false),(1,1,false),(2,1,false),(3,1,false)]:=by kernel_rfl
theorem ti_42:tiP Tryz.prog 42=some ⟨true,4,[.string ⟨#[]⟩,.string ⟨#[]⟩,.bool false,.bool false],.struct [(0,1,false),(1,1,false),(2,1,false),(3,1,false)]⟩:=by kernel_rfl
theorem kd_42:kindP Tryz.prog 42=.struct [(0,1,false),(1,1,false),(2,1,false),(3,1,false)]:=by kernel_rfl
theorem ti_43:tiP Tryz.prog 43=some ⟨true,10,[.int .i64 0,.string ⟨#[]⟩,.string ⟨#[]⟩,.bool false,.string ⟨#[]⟩,.string ⟨#[]⟩,.string ⟨#[]⟩,.string ⟨#[]⟩,.bool false,.bool false],.struct [(0,1,false),(1,3,true),(4,2,true),(6,4,true)]⟩:=by kernel_rfl
theorem kd_43:kindP Tryz.prog 43=.struct [(0,1,false),(1,3,true),(4,2,true),(6,4,true)]:=by kernel_rfl
theorem ti_44:tiP Tryz.prog 44=some ⟨true,10,[.int .i64 0,.string ⟨#[]⟩,.string ⟨#[]⟩,.bool false,.string ⟨#[]⟩,.string ⟨#[]⟩,.string ⟨#[]⟩,.string ⟨#[]⟩,.bool false,.bool false],.struct [(0,1,false),(1,3,true),(4,2,true),(6,4,true)]⟩:=by kernel_rfl
theorem kd_44:kindP Tryz.prog 44=.struct [(0,1,false),(1,3,true),(4,2,true),(6,4,true)]:=by kernel_rfl
theorem ti_45:tiP Tryz.prog 45=some ⟨true,13,[.int .i64 0,.int .i64 0,.string ⟨#[]⟩,.string ⟨#[]⟩,.bool false,.string ⟨#[]⟩,.string ⟨#[]⟩,.string ⟨#[]⟩,.string ⟨#[]⟩,.bool false,.bool false,.int .i64 0,.bool false],.struct [(0,1,false),(1,10,true),(11,1,false),(12,1,false)]⟩:=by kernel_rfl
theorem kd_45:kindP Tryz.prog 45=.struct [(0,1,false),(1,10,true),(11,1,false),(12,1,false)]:=by kernel_rfl
theorem ti_46:tiP Tryz.prog 46=some ⟨true,13,[.int .i64 0,.int .i64 0,.string ⟨#[]⟩,.string ⟨#[]⟩,.bool false,.string ⟨#[]⟩,.string ⟨#[]⟩,.string ⟨#[]⟩,.string ⟨#[]⟩,.bool false,.bool false,.int .i64 0,.bool false],.struct [(0,1,false),(1,10,true),(11,1,false),(12,1,false)]⟩:=by kernel_rfl
theorem kd_46:kindP Tryz.prog 46=.struct [(0,1,false),(1,10,true),(11,1,false),(12,1,false)]:=by kernel_rfl
theorem ti_47:tiP Tryz.prog 47=some ⟨false,1,[.nilFunc],.other⟩:=by kernel_rfl
theorem kd_47:kindP Tryz.prog 47=.other:=by kernel_rfl
theorem ti_48:tiP Tryz.prog 48=some ⟨false,1,[.nilFunc],.other⟩:=by kernel_rfl
theorem kd_48:kindP Tryz.prog 48=.other:=by kernel_rfl
theorem ti_49:tiP Tryz.prog 49=some ⟨false,1,[.nilFunc],.other⟩:=by kernel_rfl
theorem kd_49:kindP Tryz.prog 49=.other:=by kernel_rfl
theorem ti_51:tiP Tryz.prog 51=some ⟨false,1,[.nilFunc],.other⟩:=by kernel_rfl
theorem kd_51:kindP Tryz.prog 51=.other:=by kernel_rfl
theorem ti_52:tiP Tryz.prog 52=some ⟨false,1,[.nilFunc],.other⟩:=by kernel_rfl
theorem kd_52:kindP Tryz.prog 52=.other:=by kernel_rfl
theorem ti_53:tiP Tryz.prog 53=some ⟨false,1,[.nilFunc],.other⟩:=by kernel_rfl
theorem kd_53:kindP Tryz.prog 53=.other:=by kernel_rfl
theorem ti_54:tiP Tryz.prog 54=some ⟨false,1,[.nilFunc],.other⟩:=by kernel_rfl
theorem kd_54:kindP Tryz.prog 54=.other:=by kernel_rfl
theorem ti_55:tiP Tryz.prog 55=some ⟨false,1,[.nilFunc],.other⟩:=by kernel_rfl
theorem kd_55:kindP Tryz.prog 55=.other:=by kernel_rfl
theorem ti_56:tiP Tryz.prog 56=some ⟨false,1,[.slice none 0 0],.slice 44 10 120 [.int .i64 0,.string ⟨#[]⟩,.string ⟨#[]⟩,.bool false,.string ⟨#[]⟩,.string ⟨#[]⟩,.string ⟨#[]⟩,.string ⟨#[]⟩,.bool false,.bool false]⟩:=by kernel_rfl
theorem kd_56:kindP Tryz.prog 56=.slice 44 10 120 [.int .i64 0,.string ⟨#[]⟩,.string ⟨#[]⟩,.bool false,.string ⟨#[]⟩,.string ⟨#[]⟩,.string ⟨#[]⟩,.string ⟨#[]⟩,.bool false,.bool false]:=by kernel_rfl
theorem ti_57:tiP Tryz.prog 57=some ⟨false,1,[.nilFunc],.other⟩:=by kernel_rfl
theorem kd_57:kindP Tryz.prog 57=.other:=by kernel_rfl
theorem ti_58:tiP Tryz.prog 58=some ⟨false,1,[.nilFunc],.other⟩:=by kernel_rfl
theorem kd_58:kindP Tryz.prog 58=.other:=by kernel_rfl
theorem ti_59:tiP Tryz.prog 59=some ⟨false,1,[.nilFunc],.other⟩:=by kernel_rfl
theorem kd_59:kindP Tryz.prog 59=.other:=by kernel_rfl
theorem ti_61:tiP Tryz.prog 61=some ⟨false,1,[.nilFunc],.other⟩:=by kernel_rfl
theorem kd_61:kindP Tryz.prog 61=.other:=by kernel_rfl
theorem ti_63:tiP Tryz.prog 63=some ⟨false,1,[.nilFunc],.other⟩:=by kernel_rfl
theorem kd_63:kindP Tryz.prog 63=.other:=by kernel_rfl
theorem ti_65:tiP Tryz.prog 65=some ⟨false,1,[.nilFunc],.other⟩:=by kernel_rfl
theorem kd_65:kindP Tryz.prog 65=.other:=by kernel_rfl
theorem ti_66:tiP Tryz.prog 66=some ⟨false,1,[.nilFunc],.other⟩:=by kernel_rfl
theorem kd_66:kindP Tryz.prog 66=.other:=by kernel_rfl
theorem ti_67:tiP Tryz.prog 67=some ⟨false,1,[.nilFunc],.other⟩:=by kernel_rfl
theorem kd_67:kindP Tryz.prog 67=.other:=by kernel_rfl
theorem ti_69:tiP Tryz.prog 69=some ⟨true,3,[.string ⟨#[]⟩,.slice none 0 0,.slice none 0 0],.struct [(0,1,false),(1,1,false),(2,1,false)]⟩:=by kernel_rfl
theorem kd_69:kindP Tryz.prog 69=.struct [(0,1,false),(1,1,false),(2,1,false)]:=by kernel_rfl
theorem ti_71:tiP Tryz.prog 71=some ⟨false,1,[.nilFunc],.other⟩:=by kernel_rfl
theorem kd_71:kindP Tryz.prog 71=.other:=by kernel_rfl
theorem ti_73:tiP Tryz.prog 73=some ⟨false,1,[.nilFunc],.other⟩:=by kernel_rfl
theorem kd_73:kindP Tryz.prog 73=.other:=by kernel_rfl
theorem ti_74:tiP Tryz.prog 74=some ⟨false,1,[.nilFunc],.other⟩:=by kernel_rfl
theorem kd_74:kindP Tryz.prog 74=.other:=by kernel_rfl
theorem ti_75:tiP Tryz.prog 75=some ⟨false,1,[.slice none 0 0],.slice 5 1 1 [.int .u8 0]⟩:=by kernel_rfl
theorem kd_75:kindP Tryz.prog 75=.slice 5 1 1 [.int .u8 0]:=by kernel_rfl
theorem ti_76:tiP Tryz.prog 76=some ⟨false,1,[.nilFunc],.other⟩:=by kernel_rfl
theorem kd_76:kindP Tryz.prog 76=.other:=by kernel_rfl
theorem ti_79:tiP Tryz.prog 79=some ⟨false,1,[.nilFunc],.other⟩:=by kernel_rfl
theorem kd_79:kindP Tryz.prog 79=.other:=by kernel_rfl
theorem ti_82:tiP Tryz.prog 82=some ⟨false,1,[.nilFunc],.other⟩:=by kernel_rfl
theorem kd_82:kindP Tryz.prog 82=.other:=by kernel_rfl
theorem ti_83:tiP Tryz.prog 83=some ⟨false,1,[.slice none 0 0],.slice 98 2 16 [.int .i64 0,.bool false]⟩:=by kernel_rfl
theorem kd_83:kindP Tryz.prog 83=.slice 98 2 16 [.int .i64 0,.bool false]:=by kernel_rfl
theorem ti_88:tiP Tryz.prog 88=some ⟨false,1,[.nilFunc],.other⟩:=by kernel_rfl
theorem kd_88:kindP Tryz.prog 88=.other:=by kernel_rfl
theorem ti_89:tiP Tryz.prog 89=some ⟨false,1,[.nilFunc],.other⟩:=by kernel_rfl
theorem kd_89:kindP Tryz.prog 89=.other:=by kernel_rfl
theorem ti_92:tiP Tryz.prog 92=some ⟨false,1,[.slice none 0 0],.slice 100 5 64 [.int .i64 0,.string ⟨#[]⟩,.slice none 0 0,.int .i64 0,.bool false]⟩:=by kernel_rfl
theorem kd_92:kindP Tryz.prog 92=.slice 100 5 64 [.int .i64 0,.string ⟨#[]⟩,.slice none 0 0,.int .i64 0,.bool false]:=by kernel_rfl
theorem ti_97:tiP Tryz.prog 97=some ⟨true,2,[.int .i64 0,.bool false],.struct [(0,1,false),(1,1,false)]⟩:=by kernel_rfl
theorem kd_97:kindP Tryz.prog 97=.struct [(0,1,false),(1,1,false)]:=by kernel_rfl
theorem ti_98:tiP Tryz.prog 98=some ⟨true,2,[.int .i64 0,.bool false],.struct [(0,1,false),(1,1,false)]⟩:=by kernel_rfl
theorem kd_98:kindP Tryz.prog 98=.struct [(0,1,false),(1,1,false)]:=by kernel_rfl
theorem ti_99:tiP Tryz.prog 99=some ⟨true,5,[.int .i64 0,.string ⟨#[]⟩,.slice none 0 0,.int .i64 0,.bool false],.struct [(0,1,false),(1,1,false),(2,1,false),(3,2,true)]⟩:=by kernel_rfl
theorem kd_99:kindP Tryz.prog 99=.struct [(0,1,false),(1,1,false),(2,1,false),(3,2,true)]:=by kernel_rfl
theorem ti_100:tiP Tryz.prog 100=some ⟨true,5,[.int .i64 0,.string ⟨#[]⟩,.slice none 0 0,.int .i64 0,.bool false],.struct [(0,1,false),(1,1,false),(2,1,false),(3,2,true)]⟩:=by kernel_rfl
theorem kd_100:kindP Tryz.prog 100=.struct [(0,1,false),(1,1,false),(2,1,false),(3,2,true)]:=by kernel_rfl
theorem ti_101:tiP Tryz.prog 101=some ⟨false,1,[.nilFunc],.other⟩:=by kernel_rfl
theorem kd_101:kindP Tryz.prog 101=.other:=by kernel_rfl
theorem ti_102:tiP Tryz.prog 102=some ⟨false,1,[.nilFunc],.other⟩:=by kernel_rfl
theorem kd_102:kindP Tryz.prog 102=.other:=by kernel_rfl
theorem ti_103:tiP Tryz.prog 103=some ⟨false,1,[.nilFunc],.other⟩:=by kernel_rfl
theorem kd_103:kindP Tryz.prog 103=.other:=by kernel_rfl
theorem ti_104:tiP Tryz.prog 104=some ⟨false,1,[.nilFunc],.other⟩:=by kernel_rfl
theorem kd_104:kindP Tryz.prog 104=.other:=by kernel_rfl
theorem ti_105:tiP Tryz.prog 105=some ⟨false,1,[.nilFunc],.other⟩:=by kernel_rfl
theorem kd_105:kindP Tryz.prog 105=.other:=by kernel_rfl
theorem ti_106:tiP Tryz.prog 106=some ⟨false,1,[.nilFunc],.other⟩:=by kernel_rfl
theorem kd_106:kindP Tryz.prog 106=.other:=by kernel_rfl
theorem ti_107:tiP Tryz.prog 107=some ⟨false,1,[.map none],.map 9 4⟩:=by kernel_rfl
theorem kd_107:kindP Tryz.prog 107=.map 9 4:=by kernel_rfl
theorem ti_108:tiP Tryz.prog 108=some ⟨false,1,[.nilFunc],.other⟩:=by kernel_rfl
theorem kd_108:kindP Tryz.prog 108=.other:=by kernel_rfl
theorem ti_109:tiP Tryz.prog 109=some ⟨false,1,[.nilFunc],.other⟩:=by kernel_rfl
theorem kd_109:kindP Tryz.prog 109=.other:=by kernel_rfl
theorem ti_110:tiP Tryz.prog 110=some ⟨false,1,[.nilFunc],.other⟩:=by kernel_rfl
theorem kd_110:kindP Tryz.prog 110=.other:=by kernel_rfl
theorem ti_111:tiP Tryz.prog 111=some ⟨false,1,[.pointer none],.ptr 193⟩:=by kernel_rfl
theorem kd_111:kindP Tryz.prog 111=.ptr 193:=by kernel_rfl
theorem ti_112:tiP Tryz.prog 112=some ⟨false,1,[.nilFunc],.other⟩:=by kernel_rfl
theorem kd_112:kindP Tryz.prog 112=.other:=by kernel_rfl
theorem ti_113:tiP Tryz.prog 113=some ⟨true,6,[.pointer none,.bool false,.bool false,.int .i64 0,.bool false,.int .i64 0],.struct [(0,1,false),(1,1,false),(2,1,false),(3,1,false),(4,1,false),(5,1,false)]⟩:=by kernel_rfl
theorem kd_113:kindP Tryz.prog 113=.struct [(0,1,false),(1,1,false),(2,1,false),(3,1,false),(4,1,false),(5,1,false)]:=by kernel_rfl
theorem ti_114:tiP Tryz.prog 114=some ⟨true,6,[.pointer none,.bool false,.bool false,.int .i64 0,.bool false,.int .i64 0],.struct [(0,1,false),(1,1,false),(2,1,false),(3,1,false),(4,1,false),(5,1,false)]⟩:=by kernel_rfl
theorem kd_114:kindP Tryz.prog 114=.struct [(0,1,false),(1,1,false),(2,1,false),(3,1,false),(4,1,false),(5,1,false)]:=by kernel_rfl
theorem ti_115:tiP Tryz.prog 115=some ⟨false,1,[.nilFunc],.other⟩:=by kernel_rfl
theorem kd_115:kindP Tryz.prog 115=.other:=by kernel_rfl
theorem ti_116:tiP Tryz.prog 116=some ⟨false,1,[.nilFunc],.other⟩:=by kernel_rfl
theorem kd_116:kindP Tryz.prog 116=.other:=by kernel_rfl
theorem ti_117:tiP Tryz.prog 117=some ⟨false,1,[.nilFunc],.other⟩:=by kernel_rfl
theorem kd_117:kindP Tryz.prog 117=.other:=by kernel_rfl
theorem ti_118:tiP Tryz.prog 118=some ⟨false,1,[.nilFunc],.other⟩:=by kernel_rfl
theorem kd_118:kindP Tryz.prog 118=.other:=by kernel_rfl
theorem ti_119:tiP Tryz.prog 119=some ⟨false,1,[.nilFunc],.other⟩:=by kernel_rfl
theorem kd_119:kindP Tryz.prog 119=.other:=by kernel_rfl
theorem ti_120:tiP Tryz.prog 120=some ⟨false,1,[.nilFunc],.other⟩:=by kernel_rfl
theorem kd_120:kindP Tryz.prog 120=.other:=by kernel_rfl
theorem ti_121:tiP Tryz.prog 121=some ⟨false,1,[.pointer none],.ptr 129⟩:=by kernel_rfl
theorem kd_121:kindP Tryz.prog 121=.ptr 129:=by kernel_rfl
theorem ti_122:tiP Tryz.prog 122=some ⟨false,1,[.nilFunc],.other⟩:=by kernel_rfl
theorem kd_122:kindP Tryz.prog 122=.other:=by kernel_rfl
theorem ti_125:tiP Tryz.prog 125=some ⟨false,1,[.map none],.map 9 38⟩:=by kernel_rfl
theorem kd_125:kindP Tryz.prog 125=.map 9 38:=by kernel_rfl
theorem ti_126:tiP Tryz.prog 126=some ⟨false,1,[.map none],.map 9 9⟩:=by kernel_rfl
theorem kd_126:kindP Tryz.prog 126=.map 9 9:=by kernel_rfl
theorem ti_129:tiP Tryz.prog 129=some ⟨true,4,[.slice none 0 0,.map none,.map none,.map none],.struct [(0,1,false),(1,1,false),(2,1,false),(3,1,false)]⟩:=by kernel_rfl
theorem kd_129:kindP Tryz.prog 129=.struct [(0,1,false),(1,1,false),(2,1,false),(3,1,false)]:=by kernel_rfl
theorem ti_130:tiP Tryz.prog 130=some ⟨false,1,[.nilFunc],.other⟩:=by kernel_rfl
theorem kd_130:kindP Tryz.prog 130=.other:=by kernel_rfl
theorem ti_131:tiP Tryz.prog 131=some ⟨false,1,[.nilFunc],.other⟩:=by kernel_rfl
theorem kd_131:kindP Tryz.prog 131=.other:=by kernel_rfl
theorem ti_132:tiP Tryz.prog 132=some ⟨false,1,[.nilFunc],.other⟩:=by kernel_rfl
theorem kd_132:kindP Tryz.prog 132=.other:=by kernel_rfl
theorem ti_133:tiP Tryz.prog 133=some ⟨false,1,[.nilFunc],.other⟩:=by kernel_rfl
theorem kd_133:kindP Tryz.prog 133=.other:=by kernel_rfl
theorem ti_136:tiP Tryz.prog 136=some ⟨false,1,[.nilFunc],.other⟩:=by kernel_rfl
theorem kd_136:kindP Tryz.prog 136=.other:=by kernel_rfl
theorem ti_138:tiP Tryz.prog 138=some ⟨true,2,[.int .i64 0,.string ⟨#[]⟩],.struct [(0,1,false),(1,1,false)]⟩:=by kernel_rfl
theorem kd_138:kindP Tryz.prog 138=.struct [(0,1,false),(1,1,false)]:=by kernel_rfl
theorem ti_142:tiP Tryz.prog 142=some ⟨false,1,[.nilFunc],.other⟩:=by kernel_rfl
theorem kd_142:kindP Tryz.prog 142=.other:=by kernel_rfl
theorem ti_143:tiP Tryz.prog 143=some ⟨false,1,[.nilFunc],.other⟩:=by kernel_rfl
theorem kd_143:kindP Tryz.prog 143=.other:=by kernel_rfl
theorem ti_144:tiP Tryz.prog 144=some ⟨false,1,[.nilFunc],.other⟩:=by kernel_rfl
theorem kd_144:kindP Tryz.prog 144=.other:=by kernel_rfl
theorem ti_145:tiP Tryz.prog 145=some ⟨false,1,[.nilFunc],.other⟩:=by kernel_rfl
theorem kd_145:kindP Tryz.prog 145=.other:=by kernel_rfl
theorem ti_147:tiP Tryz.prog 147=some ⟨false,1,[.nilFunc],.other⟩:=by kernel_rfl
theorem kd_147:kindP Tryz.prog 147=.other:=by kernel_rfl
theorem ti_148:tiP Tryz.prog 148=some ⟨true,2,[.string ⟨#[]⟩,.slice none 0 0],.struct [(0,1,false),(1,1,false)]⟩:=by kernel_rfl
theorem kd_148:kindP Tryz.prog 148=.struct [(0,1,false),(1,1,false)]:=by kernel_rfl
theorem ti_149:tiP Tryz.prog 149=some ⟨false,1,[.slice none 0 0],.slice 148 2 40 [.string ⟨#[]⟩,.slice none 0 0]⟩:=by kernel_rfl
theorem kd_149:kindP Tryz.prog 149=.slice 148 2 40 [.string ⟨#[]⟩,.slice none 0 0]:=by kernel_rfl
theorem ti_150:tiP Tryz.prog 150=some ⟨false,1,[.nilFunc],.other⟩:=by kernel_rfl
theorem kd_150:kindP Tryz.prog 150=.other:=by kernel_rfl
theorem ti_152:tiP Tryz.prog 152=some ⟨false,1,[.nilFunc],.other⟩:=by kernel_rfl
theorem kd_152:kindP Tryz.prog 152=.other:=by kernel_rfl
theorem ti_155:tiP Tryz.prog 155=some ⟨false,1,[.slice none 0 0],.slice 9 1 16 [.string ⟨#[]⟩]⟩:=by kernel_rfl
theorem kd_155:kindP Tryz.prog 155=.slice 9 1 16 [.string ⟨#[]⟩]:=by kernel_rfl
theorem ti_156:tiP Tryz.prog 156=some ⟨false,1,[.nilFunc],.other⟩:=by kernel_rfl
theorem kd_156:kindP Tryz.prog 156=.other:=by kernel_rfl
theorem ti_157:tiP Tryz.prog 157=some ⟨false,1,[.pointer none],.ptr 159⟩:=by kernel_rfl
theorem kd_157:kindP Tryz.prog 157=.ptr 159:=by kernel_rfl
theorem ti_158:tiP Tryz.prog 158=some ⟨true,2,[.slice none 0 0,.bool false],.struct [(0,1,false),(1,1,false)]⟩:=by kernel_rfl
theorem kd_158:kindP Tryz.prog 158=.struct [(0,1,false),(1,1,false)]:=by kernel_rfl
theorem ti_159:tiP Tryz.prog 159=some ⟨true,2,[.slice none 0 0,.bool false],.struct [(0,1,false),(1,1,false)]⟩:=by kernel_rfl
theorem kd_159:kindP Tryz.prog 159=.struct [(0,1,false),(1,1,false)]:=by kernel_rfl
theorem ti_161:tiP Tryz.prog 161=some ⟨false,1,[.nilFunc],.other⟩:=by kernel_rfl
theorem kd_161:kindP Tryz.prog 161=.other:=by kernel_rfl
theorem ti_163:tiP Tryz.prog 163=some ⟨false,1,[.nilFunc],.other⟩:=by kernel_rfl
theorem kd_163:kindP Tryz.prog 163=.other:=by kernel_rfl
theorem ti_167:tiP Tryz.prog 167=some ⟨false,1,[.nilIface],.other⟩:=by kernel_rfl
theorem kd_167:kindP Tryz.prog 167=.other:=by kernel_rfl
theorem ti_169:tiP Tryz.prog 169=some ⟨false,1,[.nilFunc],.other⟩:=by kernel_rfl
theorem kd_169:kindP Tryz.prog 169=.other:=by kernel_rfl
theorem ti_171:tiP Tryz.prog 171=some ⟨false,1,[.nilFunc],.other⟩:=by kernel_rfl
theorem kd_171:kindP Tryz.prog 171=.other:=by kernel_rfl
theorem ti_172:tiP Tryz.prog 172=some ⟨false,1,[.nilFunc],.other⟩:=by kernel_rfl
theorem kd_172:kindP Tryz.prog 172=.other:=by kernel_rfl
theorem ti_174:tiP Tryz.prog 174=some ⟨false,1,[.nilFunc],.other⟩:=by kernel_rfl
theorem kd_174:kindP Tryz.prog 174=.other:=by kernel_rfl
theorem ti_175:tiP Tryz.prog 175=some ⟨false,1,[.nilFunc],.other⟩:=by kernel_rfl
theorem kd_175:kindP Tryz.prog 175=.other:=by kernel_rfl
theorem ti_176:tiP Tryz.prog 176=some ⟨false,1,[.nilFunc],.other⟩:=by kernel_rfl
theorem kd_176:kindP Tryz.prog 176=.other:=by kernel_rfl
theorem ti_177:tiP Tryz.prog 177=some ⟨false,1,[.nilFunc],.other⟩:=by kernel_rfl
theorem kd_177:kindP Tryz.prog 177=.other:=by kernel_rfl
theorem ti_178:tiP Tryz.prog 178=some ⟨false,1,[.nilFunc],.other⟩:=by kernel_rfl
theorem kd_178:kindP Tryz.prog 178=.other:=by kernel_rfl
theorem ti_179:tiP Tryz.prog 179=some ⟨false,1,[.nilFunc],.other⟩:=by kernel_rfl
theorem kd_179:kindP Tryz.prog 179=.other:=by kernel_rfl
theorem ti_180:tiP Tryz.prog 180=some ⟨false,1,[.nilFunc],.other⟩:=by kernel_rfl
theorem kd_180:kindP Tryz.prog 180=.other:=by kernel_rfl
theorem ti_181:tiP Tryz.prog 181=some ⟨false,1,[.nilFunc],.other⟩:=by kernel_rfl
theorem kd_181:kindP Tryz.prog 181=.other:=by kernel_rfl
theorem ti_182:tiP Tryz.prog 182=some ⟨false,1,[.slice none 0 0],.slice 29 1 8 [.int .i64 0]⟩:=by kernel_rfl
theorem kd_182:kindP Tryz.prog 182=.slice 29 1 8 [.int .i64 0]:=by kernel_rfl
theorem ti_183:tiP Tryz.prog 183=some ⟨false,1,[.nilFunc],.other⟩:=by kernel_rfl
theorem kd_183:kindP Tryz.prog 183=.other:=by kernel_rfl
theorem ti_184:tiP Tryz.prog 184=some ⟨false,1,[.nilFunc],.other⟩:=by kernel_rfl
theorem kd_184:kindP Tryz.prog 184=.other:=by kernel_rfl
theorem ti_185:tiP Tryz.prog 185=some ⟨false,1,[.nilFunc],.other⟩:=by kernel_rfl
theorem kd_185:kindP Tryz.prog 185=.other:=by kernel_rfl
theorem ti_186:tiP Tryz.prog 186=some ⟨false,1,[.nilFunc],.other⟩:=by kernel_rfl
theorem kd_186:kindP Tryz.prog 186=.other:=by kernel_rfl
theorem ti_187:tiP Tryz.prog 187=some ⟨false,1,[.nilFunc],.other⟩:=by kernel_rfl
theorem kd_187:kindP Tryz.prog 187=.other:=by kernel_rfl
theorem ti_188:tiP Tryz.prog 188=some ⟨false,1,[.nilFunc],.other⟩:=by kernel_rfl
theorem kd_188:kindP Tryz.prog 188=.other:=by kernel_rfl
theorem ti_189:tiP Tryz.prog 189=some ⟨false,1,[.nilFunc],.other⟩:=by kernel_rfl
theorem kd_189:kindP Tryz.prog 189=.other:=by kernel_rfl
theorem ti_190:tiP Tryz.prog 190=some ⟨false,1,[.map none],.map 9 3⟩:=by kernel_rfl
theorem kd_190:kindP Tryz.prog 190=.map 9 3:=by kernel_rfl
theorem ti_191:tiP Tryz.prog 191=some ⟨false,1,[.map none],.map 9 40⟩:=by kernel_rfl
theorem kd_191:kindP Tryz.prog 191=.map 9 40:=by kernel_rfl
theorem ti_192:tiP Tryz.prog 192=some ⟨true,5,[.slice none 0 0,.map none,.map none,.map none,.map none],.struct [(0,1,false),(1,1,false),(2,1,false),(3,1,false),(4,1,false)]⟩:=by kernel_rfl
theorem kd_192:kindP Tryz.prog 192=.struct [(0,1,false),(1,1,false),(2,1,false),(3,1,false),(4,1,false)]:=by kernel_rfl
theorem ti_193:tiP Tryz.prog 193=some ⟨true,5,[.slice none 0 0,.map none,.map none,.map none,.map none],.struct [(0,1,false),(1,1,false),(2,1,false),(3,1,false),(4,1,false)]⟩:=by kernel_rfl
theorem kd_193:kindP Tryz.prog 193=.struct [(0,1,false),(1,1,false),(2,1,false),(3,1,false),(4,1,false)]:=by kernel_rfl
theorem ti_194:tiP Tryz.prog 194=some ⟨false,1,[.nilFunc],.other⟩:=by kernel_rfl
theorem kd_194:kindP Tryz.prog 194=.other:=by kernel_rfl
theorem ti_197:tiP Tryz.prog 197=some ⟨false,1,[.nilFunc],.other⟩:=by kernel_rfl
theorem kd_197:kindP Tryz.prog 197=.other:=by kernel_rfl
theorem ti_198:tiP Tryz.prog 198=some ⟨false,1,[.nilFunc],.other⟩:=by kernel_rfl
theorem kd_198:kindP Tryz.prog 198=.other:=by kernel_rfl
theorem ti_199:tiP Tryz.prog 199=some ⟨false,1,[.nilFunc],.other⟩:=by kernel_rfl
theorem kd_199:kindP Tryz.prog 199=.other:=by kernel_rfl
theorem ti_201:tiP Tryz.prog 201=some ⟨false,1,[.nilFunc],.other⟩:=by kernel_rfl
theorem kd_201:kindP Tryz.prog 201=.other:=by kernel_rfl
theorem ti_204:tiP Tryz.prog 204=some ⟨false,1,[.nilFunc],.other⟩:=by kernel_rfl
theorem kd_204:kindP Tryz.prog 204=.other:=by kernel_rfl
theorem ti_209:tiP Tryz.prog 209=some ⟨false,1,[.pointer none],.ptr 211⟩:=by kernel_rfl
theorem kd_209:kindP Tryz.prog 209=.ptr 211:=by kernel_rfl
theorem ti_210:tiP Tryz.prog 210=some ⟨true,2,[.pointer none,.slice none 0 0],.struct [(0,1,false),(1,1,false)]⟩:=by kernel_rfl
theorem kd_210:kindP Tryz.prog 210=.struct [(0,1,false),(1,1,false)]:=by kernel_rfl
theorem ti_211:tiP Tryz.prog 211=some ⟨true,2,[.pointer none,.slice none 0 0],.struct [(0,1,false),(1,1,false)]⟩:=by kernel_rfl
theorem kd_211:kindP Tryz.prog 211=.struct [(0,1,false),(1,1,false)]:=by kernel_rfl
theorem ti_216:tiP Tryz.prog 216=some ⟨false,1,[.int .u64 0],.int .u64⟩:=by kernel_rfl
theorem kd_216:kindP Tryz.prog 216=.int .u64:=by kernel_rfl
theorem ti_222:tiP Tryz.prog 222=some ⟨false,1,[.nilFunc],.other⟩:=by kernel_rfl
theorem kd_222:kindP Tryz.prog 222=.other:=by kernel_rfl
theorem ti_224:tiP Tryz.prog 224=some ⟨false,1,[.nilFunc],.other⟩:=by kernel_rfl
theorem kd_224:kindP Tryz.prog 224=.other:=by kernel_rfl
theorem ti_227:tiP Tryz.prog 227=some ⟨false,1,[.nilFunc],.other⟩:=by kernel_rfl
theorem kd_227:kindP Tryz.prog 227=.other:=by kernel_rfl
theorem ti_228:tiP Tryz.prog 228=some ⟨false,1,[.nilFunc],.other⟩:=by kernel_rfl
theorem kd_228:kindP Tryz.prog 228=.other:=by kernel_rfl
theorem ti_229:tiP Tryz.prog 229=some ⟨false,1,[.nilFunc],.other⟩:=by kernel_rfl
theorem kd_229:kindP Tryz.prog 229=.other:=by kernel_rfl
theorem ti_230:tiP Tryz.prog 230=some ⟨false,1,[.nilFunc],.other⟩:=by kernel_rfl
theorem kd_230:kindP Tryz.prog 230=.other:=by kernel_rfl
theorem ti_232:tiP Tryz.prog 232=some ⟨false,1,[.nilFunc],.other⟩:=by kernel_rfl
theorem kd_232:kindP Tryz.prog 232=.other:=by kernel_rfl
theorem ti_233:tiP Tryz.prog 233=some ⟨false,1,[.nilFunc],.other⟩:=by kernel_rfl
theorem kd_233:kindP Tryz.prog 233=.other:=by kernel_rfl
theorem ti_234:tiP Tryz.prog 234=some ⟨false,1,[.nilFunc],.other⟩:=by kernel_rfl
theorem kd_234:kindP Tryz.prog 234=.other:=by kernel_rfl
theorem ti_235:tiP Tryz.prog 235=some ⟨false,1,[.nilFunc],.other⟩:=by kernel_rfl
theorem kd_235:kindP Tryz.prog 235=.other:=by kernel_rfl
theorem ti_236:tiP Tryz.prog 236=some ⟨false,1,[.nilFunc],.other⟩:=by kernel_rfl
theorem kd_236:kindP Tryz.prog 236=.other:=by kernel_rfl
theorem ti_237:tiP Tryz.prog 237=some ⟨false,1,[.nilFunc],.other⟩:=by kernel_rfl
theorem kd_237:kindP Tryz.prog 237=.other:=by kernel_rfl
theorem ti_243:tiP Tryz.prog 243=some ⟨false,1,[.nilFunc],.other⟩:=by kernel_rfl
theorem kd_243:kindP Tryz.prog 243=.other:=by kernel_rfl
theorem ti_244:tiP Tryz.prog 244=some ⟨false,1,[.nilFunc],.other⟩:=by kernel_rfl
theorem kd_244:kindP Tryz.prog 244=.other:=by kernel_rfl
theorem ti_245:tiP Tryz.prog 245=some ⟨false,1,[.nilFunc],.other⟩:=by kernel_rfl
theorem kd_245:kindP Tryz.prog 245=.other:=by kernel_rfl
theorem ti_247:tiP Tryz.prog 247=some ⟨false,1,[.nilFunc],.other⟩:=by kernel_rfl
theorem kd_247:kindP Tryz.prog 247=.other:=by kernel_rfl
theorem ti_256:tiP Tryz.prog 256=some ⟨false,1,[.pointer none],.ptr 5⟩:=by kernel_rfl
theorem kd_256:kindP Tryz.prog 256=.ptr 5:=by kernel_rfl
theorem ti_258:tiP Tryz.prog 258=some ⟨false,1,[.int .u64 0],.int .u64⟩:=by kernel_rfl
theorem kd_258:kindP Tryz.prog 258=.int .u64:=by kernel_rfl
theorem ti_260:tiP Tryz.prog 260=some ⟨false,1,[.nilFunc],.other⟩:=by kernel_rfl
theorem kd_260:kindP Tryz.prog 260=.other:=by kernel_rfl
theorem ti_261:tiP Tryz.prog 261=some ⟨false,1,[.nilFunc],.other⟩:=by kernel_rfl
theorem kd_261:kindP Tryz.prog 261=.other:=by kernel_rfl
theorem ti_262:tiP Tryz.prog 262=some ⟨false,1,[.nilFunc],.other⟩:=by kernel_rfl
theorem kd_262:kindP Tryz.prog 262=.other:=by kernel_rfl
theorem ti_263:tiP Tryz.prog 263=some ⟨true,10,[.string ⟨#[]⟩,.string ⟨#[]⟩,.string ⟨#[]⟩,.bool false,.string ⟨#[]⟩,.string ⟨#[]⟩,.string ⟨#[]⟩,.string ⟨#[]⟩,.bool false,.bool false],.struct [(0,1,false),(1,3,true),(4,2,true),(6,4,true)]⟩:=by kernel_rfl
theorem kd_263:kindP Tryz.prog 263=.struct [(0,1,false),(1,3,true),(4,2,true),(6,4,true)]:=by kernel_rfl
theorem ti_264:tiP Tryz.prog 264=some ⟨true,10,[.string ⟨#[]⟩,.string ⟨#[]⟩,.string ⟨#[]⟩,.bool false,.string ⟨#[]⟩,.string ⟨#[]⟩,.string ⟨#[]⟩,.string ⟨#[]⟩,.bool false,.bool false],.struct [(0,1,false),(1,3,true),(4,2,true),(6,4,true)]⟩:=by kernel_rfl
theorem kd_264:kindP Tryz.prog 264=.struct [(0,1,false),(1,3,true),(4,2,true),(6,4,true)]:=by kernel_rfl
theorem ti_265:tiP Tryz.prog 265=some ⟨false,1,[.nilFunc],.other⟩:=by kernel_rfl
theorem kd_265:kindP Tryz.prog 265=.other:=by kernel_rfl
theorem ti_266:tiP Tryz.prog 266=some ⟨false,1,[.nilFunc],.other⟩:=by kernel_rfl
theorem kd_266:kindP Tryz.prog 266=.other:=by kernel_rfl
theorem ti_267:tiP Tryz.prog 267=some ⟨false,1,[.int .i64 0],.int .i64⟩:=by kernel_rfl
theorem kd_267:kindP Tryz.prog 267=.int .i64:=by kernel_rfl
theorem ti_269:tiP Tryz.prog 269=some ⟨false,1,[.nilFunc],.other⟩:=by kernel_rfl
theorem kd_269:kindP Tryz.prog 269=.other:=by kernel_rfl
theorem ti_270:tiP Tryz.prog 270=some ⟨false,1,[.pointer none],.ptr 297⟩:=by kernel_rfl
theorem kd_270:kindP Tryz.prog 270=.ptr 297:=by kernel_rfl
theorem ti_277:tiP Tryz.prog 277=some ⟨false,1,[.pointer none],.other⟩:=by kernel_rfl
theorem kd_277:kindP Tryz.prog 277=.other:=by kernel_rfl
theorem ti_279:tiP Tryz.prog 279=some ⟨true,24,[.int .u8 0,.int .u8 0,.int .u8 0,.int .u8 0,.int .u8 0,.int .u8 0,.int .u8 0,.int .u8 0,.int .u8 0,.int .u8 0,.int .u8 0,.int .u8 0,.int .u8 0,.int .u8 0,.int .u8 0,.int .u8 0,.int .u8 0,.int .u8 0,.int .u8 0,.int .u8 0,.int .u8 0,.int .u8 0,.int .u8 0,.int .u8 0],.arr 24 5 1 false⟩:=by kernel_rfl
theorem kd_279:kindP Tryz.prog 279=.arr 24 5 1 false:=by kernel_rfl
theorem ti_284:tiP Tryz.prog 284=some ⟨false,1,[.int .u32 0],.int .u32⟩:=by kernel_rfl
theorem kd_284:kindP Tryz.prog 284=.int .u32:=by kernel_rfl
theorem ti_297:tiP Tryz.prog 297=some ⟨true,3,[.string ⟨#[]⟩,.string ⟨#[]⟩,.nilIface],.struct [(0,1,false),(1,1,false),(2,1,false)]⟩:=by kernel_rfl
theorem kd_297:kindP Tryz.prog 297=.struct [(0,1,false),(1,1,false),(2,1,false)]:=by kernel_rfl
theorem ti_298:tiP Tryz.prog 298=some ⟨false,1,[.nilFunc],.other⟩:=by kernel_rfl
theorem kd_298:kindP Tryz.prog 298=.other:=by kernel_rfl
theorem ti_300:tiP Tryz.prog 300=some ⟨false,1,[.nilFunc],.other⟩:=by kernel_rfl
theorem kd_300:kindP Tryz.prog 300=.other:=by kernel_rfl
theorem ti_301:tiP Tryz.prog 301=some ⟨false,1,[.nilFunc],.other⟩:=by kernel_rfl
theorem kd_301:kindP Tryz.prog 301=.other:=by kernel_rfl
theorem ti_302:tiP Tryz.prog 302=some ⟨false,1,[.nilFunc],.other⟩:=by kernel_rfl
theorem kd_302:kindP Tryz.prog 302=.other:=by kernel_rfl
theorem ti_303:tiP Tryz.prog 303=some ⟨false,1,[.nilFunc],.other⟩:=by kernel_rfl
theorem kd_303:kindP Tryz.prog 303=.other:=by kernel_rfl
theorem ti_304:tiP Tryz.prog 304=some ⟨false,1,[.nilFunc],.other⟩:=by kernel_rfl
theorem kd_304:kindP Tryz.prog 304=.other:=by kernel_rfl
theorem ti_305:tiP Tryz.prog 305=some ⟨false,1,[.nilFunc],.other⟩:=by kernel_rfl
theorem kd_305:kindP Tryz.prog 305=.other:=by kernel_rfl
theorem ti_311:tiP Tryz.prog 311=some ⟨false,1,[.nilFunc],.other⟩:=by kernel_rfl
theorem kd_311:kindP Tryz.prog 311=.other:=by kernel_rfl
theorem ti_319:tiP Tryz.prog 319=some ⟨true,65,[.int .u8 0,.int .u8 0,.int .u8 0,.int .u8 0,.int .u8 0,.int .u8 0,.int .u8 0,.int .u8 0,.int .u8 0,.int .u8 0,.int .u8 0,.int .u8 0,.int .u8 0,.int .u8 0,.int .u8 0,.int .u8 0,.int .u8 0,.int .u8 0,.int .u8 0,.int .u8 0,.int .u8 0,.int .u8 0,.int .u8 0,.int .u8 0,.int .u8 0,.int .u8 0,.int .u8 0,.int .u8 0,.int .u8 0,.int .u8 0,.int .u8 0,.int .u8 0,.int .u8 0,.int .u8 0,.int .u8 0,.int .u8 0,.int .u8 0,.int .u8 0,.int .u8 0,.int .u8 0,.int .u8 0,.int .u8 0,.int .u8 0,.int .u8 0,.int .u8 0,.int .u8 0,.int .u8 0,.int .u8 0,.int .u8 0,.int .u8 0,.int .u8 0,.int .u8 0,.int .u8 0,.int .u8 0,.int .u8 0,.int .u8 0,.int .u8 0,.int .u8 0,.int .u8 0,.int .u8 0,.int .u8 0,.int .u8 0,.int .u8 0,.int .u8 0,.int .u8 0],.arr 65 5 1 false⟩:=by kernel_rfl
theorem kd_319:kindP Tryz.prog 319=.arr 65 5 1 false:=by kernel_rfl
theorem ti_320:tiP Tryz.prog 320=some ⟨false,1,[.nilFunc],.other⟩:=by kernel_rfl
theorem kd_320:kindP Tryz.prog 320=.other:=by kernel_rfl
theorem ti_321:tiP Tryz.prog 321=some ⟨false,1,[.nilFunc],.other⟩:=by kernel_rfl
theorem kd_321:kindP Tryz.prog 321=.other:=by kernel_rfl
theorem ti_323:tiP Tryz.prog 323=some ⟨true,1,[.string ⟨#[]⟩],.struct [(0,1,false)]⟩:=by kernel_rfl
theorem kd_323:kindP Tryz.prog 323=.struct [(0,1,false)]:=by kernel_rfl
theorem ti_325:tiP Tryz.prog 325=some ⟨false,1,[.nilFunc],.other⟩:=by kernel_rfl
theorem kd_325:kindP Tryz.prog 325=.other:=by kernel_rfl
theorem ti_329:tiP Tryz.prog 329=some ⟨false,1,[.nilFunc],.other⟩:=by kernel_rfl
theorem kd_329:kindP Tryz.prog 329=.other:=by kernel_rfl
theorem ti_331:tiP Tryz.prog 331=some ⟨false,1,[.nilFunc],.other⟩:=by kernel_rfl
theorem kd_331:kindP Tryz.prog 331=.other:=by kernel_rfl
theorem ti_342:tiP Tryz.prog 342=some ⟨false,1,[.nilFunc],.other⟩:=by kernel_rfl
theorem kd_342:kindP Tryz.prog 342=.other:=by kernel_rfl
theorem ti_347:tiP Tryz.prog 347=some ⟨true,64,[.int .u8 0,.int .u8 0,.int .u8 0,.int .u8 0,.int .u8 0,.int .u8 0,.int .u8 0,.int .u8 0,.int .u8 0,.int .u8 0,.int .u8 0,.int .u8 0,.int .u8 0,.int .u8 0,.int .u8 0,.int .u8 0,.int .u8 0,.int .u8 0,.int .u8 0,.int .u8 0,.int .u8 0,.int .u8 0,.int .u8 0,.int .u8 0,.int .u8 0,.int .u8 0,.int .u8 0,.int .u8 0,.int .u8 0,.int .u8 0,.int .u8 0,.int .u8 0,.int .u8 0,.int .u8 0,.int .u8 0,.int .u8 0,.int .u8 0,.int .u8 0,.int .u8 0,.int .u8 0,.int .u8 0,.int .u8 0,.int .u8 0,.int .u8 0,.int .u8 0,.int .u8 0,.int .u8 0,.int .u8 0,.int .u8 0,.int .u8 0,.int .u8 0,.int .u8 0,.int .u8 0,.int .u8 0,.int .u8 0,.int .u8 0,.int .u8 0,.int .u8 0,.int .u8 0,.int .u8 0,.int .u8 0,.int .u8 0,.int .u8 0,.int .u8 0],.arr 64 5 1 false⟩:=by kernel_rfl
theorem kd_347:kindP Tryz.prog 347=.arr 64 5 1 false:=by kernel_rfl
theorem ti_356:tiP Tryz.prog 356=some ⟨false,1,[.int .i32 0],.int .i32⟩:=by kernel_rfl
theorem kd_356:kindP Tryz.prog 356=.int .i32:=by kernel_rfl
theorem kk_9:kkP Tryz.prog 9=.tk .str:=by kernel_rfl
theorem zf_0:zfP Tryz.prog 0=false:=by kernel_rfl
theorem zf_1:zfP Tryz.prog 1=false:=by kernel_rfl
theorem zf_2:zfP Tryz.prog 2=false:=by kernel_rfl
theorem zf_3:zfP Tryz.prog 3=false:=by kernel_rfl
theorem zf_4:zfP Tryz.prog 4=false:=by kernel_rfl
theorem zf_5:zfP Tryz.prog 5=false:=by kernel_rfl
theorem zf_6:zfP Tryz.prog 6=false:=by kernel_rfl
theorem zf_7:zfP Tryz.prog 7=true:=by kernel_rfl
theorem zf_8:zfP Tryz.prog 8=true:=by kernel_rfl
theorem zf_9:zfP Tryz.prog 9=false:=by kernel_rfl
theorem zf_10:zfP Tryz.prog 10=false:=by kernel_rfl
theorem zf_11:zfP Tryz.prog 11=false:=by kernel_rfl
theorem zf_12:zfP Tryz.prog 12=false:=by kernel_rfl
theorem zf_13:zfP Tryz.prog 13=true:=by kernel_rfl
theorem zf_14:zfP Tryz.prog 14=true:=by kernel_rfl
theorem zf_15:zfP Tryz.prog 15=false:=by kernel_rfl
theorem zf_16:zfP Tryz.prog 16=false:=by kernel_rfl
theorem zf_17:zfP Tryz.prog 17=false:=by kernel_rfl
theorem zf_18:zfP Tryz.prog 18=true:=by kernel_rfl
theorem zf_19:zfP Tryz.prog 19=true:=by kernel_rfl
theorem zf_20:zfP Tryz.prog 20=false:=by kernel_rfl
theorem zf_21:zfP Tryz.prog 21=false:=by kernel_rfl
theorem zf_22:zfP Tryz.prog 22=false:=by kernel_rfl
theorem zf_23:zfP Tryz.prog 23=false:=by kernel_rfl
theorem zf_24:zfP Tryz.prog 24=false:=by kernel_rfl
theorem zf_25:zfP Tryz.prog 25=true:=by kernel_rfl
theorem zf_26:zfP Tryz.prog 26=true:=by kernel_rfl
theorem zf_27:zfP Tryz.prog 27=false:=by kernel_rfl
theorem zf_28:zfP Tryz.prog 28=false:=by kernel_rfl
theorem zf_29:zfP Tryz.prog 29=false:=by kernel_rfl
theorem zf_30:zfP Tryz.prog 30=false:=by kernel_rfl
theorem zf_31:zfP Tryz.prog 31=false:=by kernel_rfl
theorem zf_32:zfP Tryz.prog 32=false:=by kernel_rfl
theorem zf_34:zfP Tryz.prog 34=false:=by kernel_rfl
theorem zf_36:zfP Tryz.prog 36=false:=by kernel_rfl
theorem zf_37:zfP Tryz.prog 37=true:=by kernel_rfl
theorem zf_38:zfP Tryz.prog 38=true:=by kernel_rfl
theorem zf_39:zfP Tryz.prog 39=true:=by kernel_rfl
theorem zf_40:zfP Tryz.prog 40=true:=by kernel_rfl
theorem zf_41:zfP Tryz.prog 41=true:=by kernel_rfl
theorem zf_42:zfP Tryz.prog 42=true:=by kernel_rfl
theorem zf_43:zfP Tryz.prog 43=true:=by kernel_rfl
theorem zf_44:zfP Tryz.prog 44=true:=by kernel_rfl
theorem zf_45:zfP Tryz.prog 45=true:=by kernel_rfl
theorem zf_46:zfP Tryz.prog 46=true:=by kernel_rfl
theorem zf_47:zfP Tryz.prog 47=false:=by kernel_rfl
theorem zf_48:zfP Tryz.prog 48=false:=by kernel_rfl
theorem zf_49:zfP Tryz.prog 49=false:=by kernel_rfl
theorem zf_50:zfP Tryz.prog 50=false:=by kernel_rfl
theorem zf_51:zfP Tryz.prog 51=false:=by kernel_rfl
theorem zf_52:zfP Tryz.prog 52=false:=by kernel_rfl
theorem zf_53:zfP Tryz.prog 53=false:=by kernel_rfl
theorem zf_54:zfP Tryz.prog 54=false:=by kernel_rfl
theorem zf_55:zfP Tryz.prog 55=false:=by kernel_rfl
theorem zf_56:zfP Tryz.prog 56=false:=by kernel_rfl
theorem zf_57:zfP Tryz.prog 57=false:=by kernel_rfl
theorem zf_58:zfP Tryz.prog 58=false:=by kernel_rfl
theorem zf_59:zfP Tryz.prog 59=false:=by kernel_rfl
theorem zf_60:zfP Tryz.prog 60=false:=by kernel_rfl
theorem zf_61:zfP Tryz.prog 61=false:=by kernel_rfl
theorem zf_62:zfP Tryz.prog 62=false:=by kernel_rfl
theorem zf_63:zfP Tryz.prog 63=false:=by kernel_rfl
theorem zf_64:zfP Tryz.prog 64=false:=by kernel_rfl
theorem zf_65:zfP Tryz.prog 65=false:=by kernel_rfl
theorem zf_66:zfP Tryz.prog 66=false:=by kernel_rfl
theorem zf_67:zfP Tryz.prog 67=false:=by kernel_rfl
theorem zf_69:zfP Tryz.prog 69=true:=by kernel_rfl
theorem zf_70:zfP Tryz.prog 70=false:=by kernel_rfl
theorem zf_71:zfP Tryz.prog 71=false:=by kernel_rfl
theorem zf_72:zfP Tryz.prog 72=false:=by kernel_rfl
theorem zf_73:zfP Tryz.prog 73=false:=by kernel_rfl
theorem zf_74:zfP Tryz.prog 74=false:=by kernel_rfl
theorem zf_75:zfP Tryz.prog 75=false:=by kernel_rfl
theorem zf_76:zfP Tryz.prog 76=false:=by kernel_rfl
theorem zf_78:zfP Tryz.prog 78=false:=by kernel_rfl
theorem zf_79:zfP Tryz.prog 79=false:=by kernel_rfl
theorem zf_80:zfP Tryz.prog 80=false:=by kernel_rfl
theorem zf_82:zfP Tryz.prog 82=false:=by kernel_rfl
theorem zf_83:zfP Tryz.prog 83=false:=by kernel_rfl
theorem zf_85:zfP Tryz.prog 85=false:=by kernel_rfl
theorem zf_88:zfP Tryz.prog 88=false:=by kernel_rfl
theorem zf_89:zfP Tryz.prog 89=false:=by kernel_rfl
theorem zf_92:zfP Tryz.prog 92=false:=by kernel_rfl
theorem zf_97:zfP Tryz.prog 97=true:=by kernel_rfl
theorem zf_98:zfP Tryz.prog 98=true:=by kernel_rfl
theorem zf_99:zfP Tryz.prog 99=true:=by kernel_rfl
theorem zf_100:zfP Tryz.prog 100=true:=by kernel_rfl
theorem zf_101:zfP Tryz.prog 101=false:=by kernel_rfl
theorem zf_102:zfP Tryz.prog 102=false:=by kernel_rfl
theorem zf_103:zfP Tryz.prog 103=false:=by kernel_rfl
theorem zf_104:zfP Tryz.prog 104=false:=by kernel_rfl
theorem zf_105:zfP Tryz.prog 105=false:=by kernel_rfl
theorem zf_106:zfP Tryz.prog 106=false:=by kernel_rfl
theorem zf_107:zfP Tryz.prog 107=false:=by kernel_rfl
theorem zf_108:zfP Tryz.prog 108=false:=by kernel_rfl
theorem zf_109:zfP Tryz.prog 109=false:=by kernel_rfl
theorem zf_110:zfP Tryz.prog 110=false:=by kernel_rfl
theorem zf_111:zfP Tryz.prog 111=false:=by kernel_rfl
theorem zf_112:zfP Tryz.prog 112=false:=by kernel_rfl
theorem zf_113:zfP Tryz.prog 113=true:=by kernel_rfl
theorem zf_114:zfP Tryz.prog 114=true:=by kernel_rfl
theorem zf_115:zfP Tryz.prog 115=false:=by kernel_rfl
theorem zf_116:zfP Tryz.prog 116=false:=by kernel_rfl
theorem zf_117:zfP Tryz.prog 117=false:=by kernel_rfl
theorem zf_118:zfP Tryz.prog 118=false:=by kernel_rfl
theorem zf_119:zfP Tryz.prog 119=false:=by kernel_rfl
theorem zf_120:zfP Tryz.prog 120=false:=by kernel_rfl
theorem zf_121:zfP Tryz.prog 121=false:=by kernel_rfl
theorem zf_122:zfP Tryz.prog 122=false:=by kernel_rfl
theorem zf_125:zfP Tryz.prog 125=false:=by kernel_rfl
theorem zf_126:zfP Tryz.prog 126=false:=by kernel_rfl
theorem zf_129:zfP Tryz.prog 129=true:=by kernel_rfl
theorem zf_130:zfP Tryz.prog 130=false:=by kernel_rfl
theorem zf_131:zfP Tryz.prog 131=false:=by kernel_rfl
theorem zf_132:zfP Tryz.prog 132=false:=by kernel_rfl
theorem zf_133:zfP Tryz.prog 133=false:=by kernel_rfl
theorem zf_136:zfP Tryz.prog 136=false:=by kernel_rfl
theorem zf_138:zfP Tryz.prog 138=true:=by kernel_rfl
theorem zf_142:zfP Tryz.prog 142=false:=by kernel_rfl
theorem zf_143:zfP Tryz.prog 143=false:=by kernel_rfl
theorem zf_144:zfP Tryz.prog 144=false:=by kernel_rfl
theorem zf_145:zfP Tryz.prog 145=false:=by kernel_rfl
theorem zf_147:zfP Tryz.prog 147=false:=by kernel_rfl
theorem zf_148:zfP Tryz.prog 148=true:=by kernel_rfl
theorem zf_149:zfP Tryz.prog 149=false:=by kernel_rfl
theorem zf_150:zfP Tryz.prog 150=false:=by kernel_rfl
theorem zf_152:zfP Tryz.prog 152=false:=by kernel_rfl
theorem zf_155:zfP Tryz.prog 155=false:=by kernel_rfl
theorem zf_156:zfP Tryz.prog 156=false:=by kernel_rfl
theorem zf_157:zfP Tryz.prog 157=false:=by kernel_rfl
theorem zf_158:zfP Tryz.prog 158=true:=by kernel_rfl
theorem zf_159:zfP Tryz.prog 159=true:=by kernel_rfl
theorem zf_161:zfP Tryz.prog 161=false:=by kernel_rfl
theorem zf_162:zfP Tryz.prog 162=false:=by kernel_rfl
theorem zf_163:zfP Tryz.prog 163=false:=by kernel_rfl
theorem zf_164:zfP Tryz.prog 164=false:=by kernel_rfl
theorem zf_167:zfP Tryz.prog 167=false:=by kernel_rfl
theorem zf_168:zfP Tryz.prog 168=false:=by kernel_rfl
theorem zf_169:zfP Tryz.prog 169=false:=by kernel_rfl
theorem zf_170:zfP Tryz.prog 170=false:=by kernel_rfl
theorem zf_171:zfP Tryz.prog 171=false:=by kernel_rfl
theorem zf_172:zfP Tryz.prog 172=false:=by kernel_rfl
theorem zf_173:zfP Tryz.prog 173=false:=by kernel_rfl
theorem zf_174:zfP Tryz.prog 174=false:=by kernel_rfl
theorem zf_175:zfP Tryz.prog 175=false:=by kernel_rfl
theorem zf_176:zfP Tryz.prog 176=false:=by kernel_rfl
theorem zf_177:zfP Tryz.prog 177=false:=by kernel_rfl
theorem zf_178:zfP Tryz.prog 178=false:=by kernel_rfl
theorem zf_179:zfP Tryz.prog 179=false:=by kernel_rfl
theorem zf_180:zfP Tryz.prog 180=false:=by kernel_rfl
theorem zf_181:zfP Tryz.prog 181=false:=by kernel_rfl
theorem zf_182:zfP Tryz.prog 182=false:=by kernel_rfl
theorem zf_183:zfP Tryz.prog 183=false:=by kernel_rfl
theorem zf_184:zfP Tryz.prog 184=false:=by kernel_rfl
theorem zf_185:zfP Tryz.prog 185=false:=by kernel_rfl
theorem zf_186:zfP Tryz.prog 186=false:=by kernel_rfl
theorem zf_187:zfP Tryz.prog 187=false:=by kernel_rfl
theorem zf_188:zfP Tryz.prog 188=false:=by kernel_rfl
theorem zf_189:zfP Tryz.prog 189=false:=by kernel_rfl
theorem zf_190:zfP Tryz.prog 190=false:=by kernel_rfl
theorem zf_191:zfP Tryz.prog 191=false:=by kernel_rfl
theorem zf_192:zfP Tryz.prog 192=true:=by kernel_rfl
theorem zf_193:zfP Tryz.prog 193=true:=by kernel_rfl
theorem zf_194:zfP Tryz.prog 194=false:=by kernel_rfl
theorem zf_197:zfP Tryz.prog 197=false:=by kernel_rfl
theorem zf_198:zfP Tryz.prog 198=false:=by kernel_rfl
theorem zf_199:zfP Tryz.prog 199=false:=by kernel_rfl
theorem zf_200:zfP Tryz.prog 200=false:=by kernel_rfl
theorem zf_201:zfP Tryz.prog 201=false:=by kernel_rfl
theorem zf_204:zfP Tryz.prog 204=false:=by kernel_rfl
theorem zf_209:zfP Tryz.prog 209=false:=by kernel_rfl
theorem zf_210:zfP Tryz.prog 210=true:=by kernel_rfl
theorem zf_211:zfP Tryz.prog 211=true:=by kernel_rfl
theorem zf_216:zfP Tryz.prog 216=false:=by kernel_rfl
theorem zf_221:zfP Tryz.prog 221=false:=by kernel_rfl
theorem zf_222:zfP Tryz.prog 222=false:=by kernel_rfl
theorem zf_223:zfP Tryz.prog 223=false:=by kernel_rfl
theorem zf_224:zfP Tryz.prog 224=false:=by kernel_rfl
theorem zf_226:zfP Tryz.prog 226=false:=by kernel_rfl
theorem zf_227:zfP Tryz.prog 227=false:=by kernel_rfl
theorem zf_228:zfP Tryz.prog 228=false:=by kernel_rfl
theorem zf_229:zfP Tryz.prog 229=false:=by kernel_rfl
theorem zf_230:zfP Tryz.prog 230=false:=by kernel_rfl
theorem zf_231:zfP Tryz.prog 231=false:=by kernel_rfl
theorem zf_232:zfP Tryz.prog 232=false:=by kernel_rfl
theorem zf_233:zfP Tryz.prog 233=false:=by kernel_rfl
theorem zf_234:zfP Tryz.prog 234=false:=by kernel_rfl
theorem zf_235:zfP Tryz.prog 235=false:=by kernel_rfl
theorem zf_236:zfP Tryz.prog 236=false:=by kernel_rfl
theorem zf_237:zfP Tryz.prog 237=false:=by kernel_rfl
theorem zf_243:zfP Tryz.prog 243=false:=by kernel_rfl
theorem zf_244:zfP Tryz.prog 244=false:=by kernel_rfl
theorem zf_245:zfP Tryz.prog 245=false:=by kernel_rfl
theorem zf_247:zfP Tryz.prog 247=false:=by kernel_rfl
theorem zf_248:zfP Tryz.prog 248=false:=by kernel_rfl
theorem zf_256:zfP Tryz.prog 256=false:=by kernel_rfl
theorem zf_258:zfP Tryz.prog 258=false:=by kernel_rfl
theorem zf_259:zfP Tryz.prog 259=false:=by kernel_rfl
theorem zf_260:zfP Tryz.prog 260=false:=by kernel_rfl
theorem zf_261:zfP Tryz.prog 261=false:=by kernel_rfl
theorem zf_262:zfP Tryz.prog 262=false:=by kernel_rfl
theorem zf_263:zfP Tryz.prog 263=true:=by kernel_rfl
theorem zf_264:zfP Tryz.prog 264=true:=by kernel_rfl
theorem zf_265:zfP Tryz.prog 265=false:=by kernel_rfl
theorem zf_266:zfP Tryz.prog 266=false:=by kernel_rfl
theorem zf_267:zfP Tryz.prog 267=false:=by kernel_rfl
theorem zf_268:zfP Tryz.prog 268=false:=by kernel_rfl
theorem zf_269:zfP Tryz.prog 269=false:=by kernel_rfl
theorem zf_270:zfP Tryz.prog 270=false:=by kernel_rfl
theorem zf_274:zfP Tryz.prog 274=false:=by kernel_rfl
theorem zf_277:zfP Tryz.prog 277=false:=by kernel_rfl
theorem zf_279:zfP Tryz.prog 279=true:=by kernel_rfl
theorem zf_282:zfP Tryz.prog 282=false:=by kernel_rfl
theorem zf_284:zfP Tryz.prog 284=false:=by kernel_rfl
theorem zf_285:zfP Tryz.prog 285=false:=by kernel_rfl
theorem zf_287:zfP Tryz.prog 287=false:=by kernel_rfl
theorem zf_292:zfP Tryz.prog 292=false:=by kernel_rfl
theorem zf_297:zfP Tryz.prog 297=true:=by kernel_rfl
theorem zf_298:zfP Tryz.prog 298=false:=by kernel_rfl
theorem zf_300:zfP Tryz.prog 300=false:=by kernel_rfl
theorem zf_301:zfP Tryz.prog 301=false:=by kernel_rfl
theorem zf_302:zfP Tryz.prog 302=false:=by kernel_rfl
theorem zf_303:zfP Tryz.prog 303=false:=by kernel_rfl
theorem zf_304:zfP Tryz.prog 304=false:=by kernel_rfl
theorem zf_305:zfP Tryz.prog 305=false:=by kernel_rfl
theorem zf_311:zfP Tryz.prog 311=false:=by kernel_rfl
theorem zf_319:zfP Tryz.prog 319=true:=by kernel_rfl
theorem zf_320:zfP Tryz.prog 320=false:=by kernel_rfl
theorem zf_321:zfP Tryz.prog 321=false:=by kernel_rfl
theorem zf_323:zfP Tryz.prog 323=true:=by kernel_rfl
theorem zf_325:zfP Tryz.prog 325=false:=by kernel_rfl
theorem zf_329:zfP Tryz.prog 329=false:=by kernel_rfl
theorem zf_331:zfP Tryz.prog 331=false:=by kernel_rfl
theorem zf_341:zfP Tryz.prog 341=false:=by kernel_rfl
theorem zf_342:zfP Tryz.prog 342=false:=by kernel_rfl
theorem zf_347:zfP Tryz.prog 347=true:=by kernel_rfl
theorem zf_356:zfP Tryz.prog 356=false:=by kernel_rfl
theorem zf_361:zfP Tryz.prog 361=false:=by kernel_rfl
theorem zf_394:zfP Tryz.prog 394=false:=by kernel_rfl
theorem eq_7:eqTyP Tryz.prog 7=some [.i .i64,.i .i64,.b,.i .u8]:=by kernel_rfl
theorem ag_7:aggP Tryz.prog 7=true:=by kernel_rfl
theorem eq_8:eqTyP Tryz.prog 8=some [.i .i64,.i .i64,.b,.i .u8]:=by kernel_rfl
theorem ag_8:aggP Tryz.prog 8=true:=by kernel_rfl
theorem eq_37:eqTyP Tryz.prog 37=some [.s,.s,.b]:=by kernel_rfl
theorem ag_37:aggP Tryz.prog 37=true:=by kernel_rfl
theorem eq_38:eqTyP Tryz.prog 38=some [.s,.s,.b]:=by kernel_rfl
theorem ag_38:aggP Tryz.prog 38=true:=by kernel_rfl
theorem eq_39:eqTyP Tryz.prog 39=some [.s,.s]:=by kernel_rfl
theorem ag_39:aggP Tryz.prog 39=true:=by kernel_rfl
theorem eq_40:eqTyP Tryz.prog 40=some [.s,.s]:=by kernel_rfl
theorem ag_40:aggP Tryz.prog 40=true:=by kernel_rfl
theorem eq_41:eqTyP Tryz.prog 41=some [.s,.s,.b,.b]:=by kernel_rfl
theorem ag_41:aggP Tryz.prog 41=true:=by kernel_rfl
theorem eq_42:eqTyP Tryz.prog 42=some [.s,.s,.b,.b]:=by kernel_rfl
theorem ag_42:aggP Tryz.prog 42=true:=by kernel_rfl
theorem eq_43:eqTyP Tryz.prog 43=some [.i .i64,.s,.s,.b,.s,.s,.s,.s,.b,.b]:=by kernel_rfl
theorem ag_43:aggP Tryz.prog 43=true:=by kernel_rfl
theorem eq_44:eqTyP Tryz.prog 44=some [.i .i64,.s,.s,.b,.s,.s,.s,.s,.b,.b]:=by kernel_rfl
theorem ag_44:aggP Tryz.prog 44=true:=by kernel_rfl
theorem eq_45:eqTyP Tryz.prog 45=some [.i .i64,.i .i64,.s,.s,.b,.s,.s,.s,.s,.b,.b,.i .i64,.b]:=by kernel_rfl
theorem ag_45:aggP Tryz.prog 45=true:=by kernel_rfl
theorem eq_46:eqTyP Tryz.prog 46=some [.i .i64,.i .i64,.s,.s,.b,.s,.s,.s,.s,.b,.b,.i .i64,.b]:=by kernel_rfl
theorem ag_46:aggP Tryz.prog 46=true:=by kernel_rfl
theorem eq_97:eqTyP Tryz.prog 97=some [.i .i64,.b]:=by kernel_rfl
theorem ag_97:aggP Tryz.prog 97=true:=by kernel_rfl
theorem eq_98:eqTyP Tryz.prog 98=some [.i .i64,.b]:=by kernel_rfl
theorem ag_98:aggP Tryz.prog 98=true:=by kernel_rfl
theorem eq_138:eqTyP Tryz.prog 138=some [.i .i64,.s]:=by kernel_rfl
theorem ag_138:aggP Tryz.prog 138=true:=by kernel_rfl
theorem eq_263:eqTyP Tryz.prog 263=some [.s,.s,.s,.b,.s,.s,.s,.s,.b,.b]:=by kernel_rfl
theorem ag_263:aggP Tryz.prog 263=true:=by kernel_rfl
theorem eq_264:eqTyP Tryz.prog 264=some [.s,.s,.s,.b,.s,.s,.s,.s,.b,.b]:=by kernel_rfl
theorem ag_264:aggP Tryz.prog 264=true:=by kernel_rfl
theorem eq_323:eqTyP Tryz.prog 323=some [.s]:=by kernel_rfl
theorem ag_323:aggP Tryz.prog 323=true:=by kernel_rfl
attribute [go_sem] ti_0 kd_0 ti_1 kd_1 ti_2 kd_2 ti_3 kd_3 ti_4 kd_4 ti_5 kd_5 ti_6 kd_6 ti_7 kd_7 ti_8 kd_8 ti_9 kd_9 ti_10 kd_10 ti_11 kd_11 ti_12 kd_12 ti_13 kd_13 ti_14 kd_14 ti_15 kd_15 ti_16 kd_16 ti_17 kd_17 ti_18 kd_18 ti_19 kd_19
attribute [go_sem] ti_20 kd_20 ti_21 kd_21 ti_22 kd_22 ti_23 kd_23 ti_24 kd_24 ti_25 kd_25 ti_26 kd_26 ti_27 kd_27 ti_28 kd_28 ti_29 kd_29 ti_30 kd_30 ti_31 kd_31 ti_34 kd_34 ti_36 kd_36 ti_37 kd_37 ti_38 kd_38 ti_39 kd_39 ti_40 kd_40
attribute [go_sem] ti_41 kd_41 ti_42 kd_42 ti_43 kd_43 ti_44 kd_44 ti_45 kd_45 ti_46 kd_46 ti_47 kd_47 ti_48 kd_48 ti_49 kd_49 ti_51 kd_51 ti_52 kd_52 ti_53 kd_53 ti_54 kd_54 ti_55 kd_55 ti_56 kd_56 ti_57 kd_57 ti_58 kd_58 ti_59 kd_59 ti_61 kd_61 ti_63 kd_63
attribute [go_sem] ti_65 kd_65 ti_66 kd_66 ti_67 kd_67 ti_69 kd_69 ti_71 kd_71 ti_73 kd_73 ti_74 kd_74 ti_75 kd_75 ti_76 kd_76 ti_79 kd_79 ti_82 kd_82 ti_83 kd_83 ti_88 kd_88 ti_89 kd_89
attribute [go_sem] ti_92 kd_92 ti_97 kd_97 ti_98 kd_98 ti_99 kd_99 ti_100 kd_100 ti_101 kd_101 ti_102 kd_102 ti_103 kd_103 ti_104 kd_104 ti_105 kd_105 ti_106 kd_106 ti_107 kd_107 ti_108 kd_108 ti_109 kd_109 ti_110 kd_110
attribute [go_sem] ti_111 kd_111 ti_112 kd_112 ti_113 kd_113 ti_114 kd_114 ti_115 kd_115 ti_116 kd_116 ti_117 kd_117 ti_118 kd_118 ti_119 kd_119 ti_120 kd_120 ti_121 kd_121 ti_122 kd_122 ti_125 kd_125 ti_126 kd_126 ti_129 kd_129 ti_130 kd_130
attribute [go_sem] ti_131 kd_131 ti_132 kd_132 ti_133 kd_133 ti_136 kd_136 ti_138 kd_138 ti_142 kd_142 ti_143 kd_143 ti_144 kd_144 ti_145 kd_145 ti_147 kd_147 ti_148 kd_148 ti_149 kd_149 ti_150 kd_150
attribute [go_sem] ti_152 kd_152 ti_155 kd_155 ti_156 kd_156 ti_157 kd_157 ti_158 kd_158 ti_159 kd_159 ti_161 kd_161 ti_163 kd_163 ti_167 kd_167 ti_169 kd_169 ti_171 kd_171 ti_172 kd_172 ti_174 kd_174 ti_175 kd_175 ti_176 kd_176
attribute [go_sem] ti_177 kd_177 ti_178 kd_178 ti_179 kd_179 ti_180 kd_180 ti_181 kd_181 ti_182 kd_182 ti_183 kd_183 ti_184 kd_184 ti_185 kd_185 ti_186 kd_186 ti_187 kd_187 ti_188 kd_188 ti_189 kd_189 ti_190 kd_190 ti_191 kd_191 ti_192 kd_192 ti_193 kd_193 ti_194 kd_194
attribute [go_sem] ti_197 kd_197 ti_198 kd_198 ti_199 kd_199 ti_201 kd_201 ti_204 kd_204 ti_209 kd_209 ti_210 kd_210 ti_211 kd_211 ti_216 kd_216
attribute [go_sem] ti_222 kd_222 ti_224 kd_224 ti_227 kd_227 ti_228 kd_228 ti_229 kd_229 ti_230 kd_230 ti_232 kd_232 ti_233 kd_233 ti_234 kd_234 ti_235 kd_235 ti_236 kd_236 ti_237 kd_237
attribute [go_sem] ti_243 kd_243 ti_244 kd_244 ti_245 kd_245 ti_247 kd_247 ti_256 kd_256 ti_258 kd_258 ti_260 kd_260 ti_261 kd_261 ti_262 kd_262 ti_263 kd_263 ti_264 kd_264 ti_265 kd_265
attribute [go_sem] ti_266 kd_266 ti_267 kd_267 ti_269 kd_269 ti_270 kd_270 ti_277 kd_277 ti_279 kd_279 ti_284 kd_284
attribute [go_sem] ti_297 kd_297 ti_298 kd_298 ti_300 kd_300 ti_301 kd_301 ti_302 kd_302 ti_303 kd_303 ti_304 kd_304 ti_305 kd_305 ti_311 kd_311
attribute [go_sem] ti_319 kd_319 ti_320 kd_320 ti_321 kd_321 ti_323 kd_323 ti_325 kd_325 ti_329 kd_329 ti_331 kd_331
attribute [go_sem] ti_342 kd_342 ti_347 kd_347 ti_356 kd_356
attribute [go_sem] kk_9 zf_0 zf_1 zf_2 zf_3 zf_4 zf_5 zf_6 zf_7 zf_8 zf_9 zf_10 zf_11 zf_12 zf_13 zf_14 zf_15 zf_16 zf_17 zf_18 zf_19 zf_20 zf_21 zf_22 zf_23 zf_24 zf_25 zf_26 zf_27 zf_28 zf_29 zf_30 zf_31
attribute [go_sem] zf_32 zf_34 zf_36 zf_37 zf_38 zf_39 zf_40 zf_41 zf_42 zf_43 zf_44 zf_45 zf_46 zf_47 zf_48 zf_49 zf_50 zf_51 zf_52 zf_53 zf_54 zf_55 zf_56 zf_57 zf_58 zf_59 zf_60 zf_61 zf_62 zf_63 zf_64 zf_65 zf_66 zf_67 zf_69 zf_70 zf_71
attribute [go_sem] zf_72 zf_73 zf_74 zf_75 zf_76 zf_78 zf_79 zf_80 zf_82 zf_83 zf_85 zf_88 zf_89 zf_92 zf_97 zf_98 zf_99 zf_100 zf_101 zf_102 zf_103 zf_104 zf_105 zf_106 zf_107 zf_108 zf_109 zf_110 zf_111
attribute [go_sem] zf_112 zf_113 zf_114 zf_115 zf_116 zf_117 zf_118 zf_119 zf_120 zf_121 zf_122 zf_125 zf_126 zf_129 zf_130 zf_131 zf_132 zf_133 zf_136 zf_138 zf_142 zf_143 zf_144 zf_145 zf_147 zf_148 zf_149 zf_150
attribute [go_sem] zf_152 zf_155 zf_156 zf_157 zf_158 zf_159 zf_161 zf_162 zf_163 zf_164 zf_167 zf_168 zf_169 zf_170 zf_171 zf_172 zf_173 zf_174 zf_175 zf_176 zf_177 zf_178 zf_179 zf_180 zf_181 zf_182 zf_183 zf_184 zf_185 zf_186 zf_187 zf_188 zf_189 zf_190 zf_191
attribute [go_sem] zf_192 zf_193 zf_194 zf_197 zf_198 zf_199 zf_200 zf_201 zf_204 zf_209 zf_210 zf_211 zf_216 zf_221 zf_222 zf_223 zf_224 zf_226 zf_227 zf_228 zf_229 zf_230 zf_231
attribute [go_sem] zf_232 zf_233 zf_234 zf_235 zf_236 zf_237 zf_243 zf_244 zf_245 zf_247 zf_248 zf_256 zf_258 zf_259 zf_260 zf_261 zf_262 zf_263 zf_264 zf_265 zf_266 zf_267 zf_268 zf_269 zf_270
attribute [go_sem] zf_274 zf_277 zf_279 zf_282 zf_284 zf_285 zf_287 zf_292 zf_297 zf_298 zf_300 zf_301 zf_302 zf_303 zf_304 zf_305 zf_311
attribute [go_sem] zf_319 zf_320 zf_321 zf_323 zf_325 zf_329 zf_331 zf_341 zf_342 zf_347
attribute [go_sem] zf_356 zf_361
attribute [go_sem] zf_394 eq_7 ag_7 eq_8 ag_8 eq_37 ag_37 eq_38 ag_38 eq_39 ag_39 eq_40 ag_40 eq_41 ag_41 eq_42 ag_42 eq_43 ag_43 eq_44 ag_44 eq_45 ag_45 eq_46 ag_46 eq_97 ag_97 eq_98 ag_98 eq_138 ag_138
attribute [go_sem] eq_263 ag_263 eq_264 ag_264 eq_323 ag_323
end Go.Proofs.YtbofknpajcdnmaaGreatDoor
