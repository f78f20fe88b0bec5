/- What the program's types are, as the machine reads them. -/
import Derived.Test.YtkekfenkeeiigaaVc3
import Derived.Test.YtkekfenkeeiigaaProg
import Derived.KernelRfl
namespace Go.Proofs.Ytkekfenkeeiigaa
open Go.Vc
theorem ti_0:tiP Try.prog 0=some ⟨false,1,[.tuple #[]],.other⟩:=by kernel_rfl
theorem kd_0:kindP Try.prog 0=.other:=by kernel_rfl
theorem ti_1:tiP Try.prog 1=some ⟨false,1,[.nilFunc],.other⟩:=by kernel_rfl
theorem kd_1:kindP Try.prog 1=.other:=by kernel_rfl
theorem ti_2:tiP Try.prog 2=some ⟨false,1,[.int .i64 0],.int .i64⟩:=by kernel_rfl
theorem kd_2:kindP Try.prog 2=.int .i64:=by kernel_rfl
theorem ti_3:tiP Try.prog 3=some ⟨false,1,[.int .i64 0],.int .i64⟩:=by kernel_rfl
theorem kd_3:kindP Try.prog 3=.int .i64:=by kernel_rfl
theorem ti_4:tiP Try.prog 4=some ⟨false,1,[.bool false],.bool⟩:=by kernel_rfl
theorem kd_4:kindP Try.prog 4=.bool:=by kernel_rfl
theorem ti_5:tiP Try.prog 5=some ⟨false,1,[.int .u8 0],.int .u8⟩:=by kernel_rfl
theorem kd_5:kindP Try.prog 5=.int .u8:=by kernel_rfl
theorem ti_6:tiP Try.prog 6=some ⟨false,1,[.int .u8 0],.int .u8⟩:=by kernel_rfl
theorem kd_6:kindP Try.prog 6=.int .u8:=by kernel_rfl
theorem ti_7:tiP Try.prog 7=some ⟨true,4,[.int .i64 0,.int .i64 0,.bool false,.int .u8 0],.struct [(0,1,false),(1,1,false),(2,1,false),(3,1,false)]⟩:=by kernel_rfl
theorem kd_7:kindP Try.prog 7=.struct [(0,1,false),(1,1,false),(2,1,false),(3,1,false)]:=by kernel_rfl
theorem ti_8:tiP Try.prog 8=some ⟨true,4,[.int .i64 0,.int .i64 0,.bool false,.int .u8 0],.struct [(0,1,false),(1,1,false),(2,1,false),(3,1,false)]⟩:=by kernel_rfl
theorem kd_8:kindP Try.prog 8=.struct [(0,1,false),(1,1,false),(2,1,false),(3,1,false)]:=by kernel_rfl
theorem ti_9:tiP Try.prog 9=some ⟨false,1,[.string ⟨#[]⟩],.str⟩:=by kernel_rfl
theorem kd_9:kindP Try.prog 9=.str:=by kernel_rfl
theorem ti_10:tiP Try.prog 10=some ⟨false,1,[.string ⟨#[]⟩],.str⟩:=by kernel_rfl
theorem kd_10:kindP Try.prog 10=.str:=by kernel_rfl
theorem ti_11:tiP Try.prog 11=some ⟨false,1,[.string ⟨#[]⟩],.str⟩:=by kernel_rfl
theorem kd_11:kindP Try.prog 11=.str:=by kernel_rfl
theorem ti_12:tiP Try.prog 12=some ⟨false,1,[.int .u64 0],.int .u64⟩:=by kernel_rfl
theorem kd_12:kindP Try.prog 12=.int .u64:=by kernel_rfl
theorem ti_13:tiP Try.prog 13=some ⟨true,2,[.string ⟨#[]⟩,.int .u64 0],.struct [(0,1,false),(1,1,false)]⟩:=by kernel_rfl
theorem kd_13:kindP Try.prog 13=.struct [(0,1,false),(1,1,false)]:=by kernel_rfl
theorem ti_14:tiP Try.prog 14=some ⟨true,2,[.string ⟨#[]⟩,.int .u64 0],.struct [(0,1,false),(1,1,false)]⟩:=by kernel_rfl
theorem kd_14:kindP Try.prog 14=.struct [(0,1,false),(1,1,false)]:=by kernel_rfl
theorem ti_15:tiP Try.prog 15=some ⟨false,1,[.pointer none],.ptr 88⟩:=by kernel_rfl
theorem kd_15:kindP Try.prog 15=.ptr 88:=by kernel_rfl
theorem ti_16:tiP Try.prog 16=some ⟨false,1,[.pointer none],.ptr 91⟩:=by kernel_rfl
theorem kd_16:kindP Try.prog 16=.ptr 91:=by kernel_rfl
theorem ti_17:tiP Try.prog 17=some ⟨false,1,[.pointer none],.ptr 100⟩:=by kernel_rfl
theorem kd_17:kindP Try.prog 17=.ptr 100:=by kernel_rfl
theorem ti_18:tiP Try.prog 18=some ⟨true,1,[.pointer none],.struct [(0,1,false)]⟩:=by kernel_rfl
theorem kd_18:kindP Try.prog 18=.struct [(0,1,false)]:=by kernel_rfl
theorem ti_19:tiP Try.prog 19=some ⟨true,1,[.pointer none],.struct [(0,1,false)]⟩:=by kernel_rfl
theorem kd_19:kindP Try.prog 19=.struct [(0,1,false)]:=by kernel_rfl
theorem ti_20:tiP Try.prog 20=some ⟨false,1,[.nilIface],.other⟩:=by kernel_rfl
theorem kd_20:kindP Try.prog 20=.other:=by kernel_rfl
theorem ti_21:tiP Try.prog 21=some ⟨false,1,[.int .i32 0],.int .i32⟩:=by kernel_rfl
theorem kd_21:kindP Try.prog 21=.int .i32:=by kernel_rfl
theorem ti_22:tiP Try.prog 22=some ⟨false,1,[.slice none 0 0],.slice 42 3 32 [.int .i64 0,.int .i64 0,.string ⟨#[]⟩]⟩:=by kernel_rfl
theorem kd_22:kindP Try.prog 22=.slice 42 3 32 [.int .i64 0,.int .i64 0,.string ⟨#[]⟩]:=by kernel_rfl
theorem ti_23:tiP Try.prog 23=some ⟨true,5,[.int .i64 0,.int .i64 0,.string ⟨#[]⟩,.string ⟨#[]⟩,.slice none 0 0],.struct [(0,1,false),(1,1,false),(2,1,false),(3,1,false),(4,1,false)]⟩:=by kernel_rfl
theorem kd_23:kindP Try.prog 23=.struct [(0,1,false),(1,1,false),(2,1,false),(3,1,false),(4,1,false)]:=by kernel_rfl
theorem ti_24:tiP Try.prog 24=some ⟨true,5,[.int .i64 0,.int .i64 0,.string ⟨#[]⟩,.string ⟨#[]⟩,.slice none 0 0],.struct [(0,1,false),(1,1,false),(2,1,false),(3,1,false),(4,1,false)]⟩:=by kernel_rfl
theorem kd_24:kindP Try.prog 24=.struct [(0,1,false),(1,1,false),(2,1,false),(3,1,false),(4,1,false)]:=by kernel_rfl
theorem ti_25:tiP Try.prog 25=some ⟨false,1,[.nilFunc],.other⟩:=by kernel_rfl
theorem kd_25:kindP Try.prog 25=.other:=by kernel_rfl
theorem ti_26:tiP Try.prog 26=some ⟨false,1,[.nilFunc],.other⟩:=by kernel_rfl
theorem kd_26:kindP Try.prog 26=.other:=by kernel_rfl
theorem ti_27:tiP Try.prog 27=some ⟨false,1,[.int .i64 0],.int .i64⟩:=by kernel_rfl
theorem kd_27:kindP Try.prog 27=.int .i64:=by kernel_rfl
theorem ti_29:tiP Try.prog 29=some ⟨false,1,[.nilFunc],.other⟩:=by kernel_rfl
theorem kd_29:kindP Try.prog 29=.other:=by kernel_rfl
theorem ti_30:tiP Try.prog 30=some ⟨false,1,[.nilFunc],.other⟩:=by kernel_rfl
theorem kd_30:kindP Try.prog 30=.other:=by kernel_rfl
theorem ti_31:tiP Try.prog 31=some ⟨false,1,[.nilFunc],.other⟩:=by kernel_rfl
theorem kd_31:kindP Try.prog 31=.other:=by kernel_rfl
theorem ti_32:tiP Try.prog 32=some ⟨false,1,[.nilFunc],.other⟩:=by kernel_rfl
theorem kd_32:kindP Try.prog 32=.other:=by kernel_rfl
theorem ti_34:tiP Try.prog 34=some ⟨false,1,[.nilFunc],.other⟩:=by kernel_rfl
theorem kd_34:kindP Try.prog 34=.other:=by kernel_rfl
theorem ti_35:tiP Try.prog 35=some ⟨false,1,[.nilFunc],.other⟩:=by kernel_rfl
theorem kd_35:kindP Try.prog 35=.other:=by kernel_rfl
theorem ti_36:tiP Try.prog 36=some ⟨false,1,[.nilFunc],.other⟩:=by kernel_rfl
theorem kd_36:kindP Try.prog 36=.other:=by kernel_rfl
theorem ti_37:tiP Try.prog 37=some ⟨false,1,[.pointer none],.ptr 72⟩:=by kernel_rfl
theorem kd_37:kindP Try.prog 37=.ptr 72:=by kernel_rfl
theorem ti_38:tiP Try.prog 38=some ⟨false,1,[.nilFunc],.other⟩:=by kernel_rfl
theorem kd_38:kindP Try.prog 38=.other:=by kernel_rfl
theorem ti_40:tiP Try.prog 40=some ⟨false,1,[.nilFunc],.other⟩:=by kernel_rfl
theorem kd_40:kindP Try.prog 40=.other:=by kernel_rfl
theorem ti_41:tiP Try.prog 41=some ⟨true,3,[.int .i64 0,.int .i64 0,.string ⟨#[]⟩],.struct [(0,1,false),(1,1,false),(2,1,false)]⟩:=by kernel_rfl
theorem kd_41:kindP Try.prog 41=.struct [(0,1,false),(1,1,false),(2,1,false)]:=by kernel_rfl
theorem ti_42:tiP Try.prog 42=some ⟨true,3,[.int .i64 0,.int .i64 0,.string ⟨#[]⟩],.struct [(0,1,false),(1,1,false),(2,1,false)]⟩:=by kernel_rfl
theorem kd_42:kindP Try.prog 42=.struct [(0,1,false),(1,1,false),(2,1,false)]:=by kernel_rfl
theorem ti_43:tiP Try.prog 43=some ⟨true,10,[.int .i64 0,.int .i64 0,.string ⟨#[]⟩,.string ⟨#[]⟩,.slice none 0 0,.int .i64 0,.int .i64 0,.string ⟨#[]⟩,.string ⟨#[]⟩,.slice none 0 0],.arr 2 24 5 true⟩:=by kernel_rfl
theorem kd_43:kindP Try.prog 43=.arr 2 24 5 true:=by kernel_rfl
theorem ti_46:tiP Try.prog 46=some ⟨false,1,[.nilFunc],.other⟩:=by kernel_rfl
theorem kd_46:kindP Try.prog 46=.other:=by kernel_rfl
theorem ti_48:tiP Try.prog 48=some ⟨false,1,[.nilFunc],.other⟩:=by kernel_rfl
theorem kd_48:kindP Try.prog 48=.other:=by kernel_rfl
theorem ti_49:tiP Try.prog 49=some ⟨false,1,[.nilFunc],.other⟩:=by kernel_rfl
theorem kd_49:kindP Try.prog 49=.other:=by kernel_rfl
theorem ti_50:tiP Try.prog 50=some ⟨false,1,[.nilFunc],.other⟩:=by kernel_rfl
theorem kd_50:kindP Try.prog 50=.other:=by kernel_rfl
theorem ti_51:tiP Try.prog 51=some ⟨false,1,[.nilFunc],.other⟩:=by kernel_rfl
theorem kd_51:kindP Try.prog 51=.other:=by kernel_rfl
theorem ti_52:tiP Try.prog 52=some ⟨false,1,[.slice none 0 0],.slice 54 2 24 [.int .i64 0,.string ⟨#[]⟩]⟩:=by kernel_rfl
theorem kd_52:kindP Try.prog 52=.slice 54 2 24 [.int .i64 0,.string ⟨#[]⟩]:=by kernel_rfl
theorem ti_53:tiP Try.prog 53=some ⟨true,2,[.int .i64 0,.string ⟨#[]⟩],.struct [(0,1,false),(1,1,false)]⟩:=by kernel_rfl
theorem kd_53:kindP Try.prog 53=.struct [(0,1,false),(1,1,false)]:=by kernel_rfl
theorem ti_54:tiP Try.prog 54=some ⟨true,2,[.int .i64 0,.string ⟨#[]⟩],.struct [(0,1,false),(1,1,false)]⟩:=by kernel_rfl
theorem kd_54:kindP Try.prog 54=.struct [(0,1,false),(1,1,false)]:=by kernel_rfl
theorem ti_55:tiP Try.prog 55=some ⟨false,1,[.pointer none],.ptr 58⟩:=by kernel_rfl
theorem kd_55:kindP Try.prog 55=.ptr 58:=by kernel_rfl
theorem ti_56:tiP Try.prog 56=some ⟨false,1,[.slice none 0 0],.slice 5 1 1 [.int .u8 0]⟩:=by kernel_rfl
theorem kd_56:kindP Try.prog 56=.slice 5 1 1 [.int .u8 0]:=by kernel_rfl
theorem ti_57:tiP Try.prog 57=some ⟨true,2,[.pointer none,.slice none 0 0],.struct [(0,1,false),(1,1,false)]⟩:=by kernel_rfl
theorem kd_57:kindP Try.prog 57=.struct [(0,1,false),(1,1,false)]:=by kernel_rfl
theorem ti_58:tiP Try.prog 58=some ⟨true,2,[.pointer none,.slice none 0 0],.struct [(0,1,false),(1,1,false)]⟩:=by kernel_rfl
theorem kd_58:kindP Try.prog 58=.struct [(0,1,false),(1,1,false)]:=by kernel_rfl
theorem ti_59:tiP Try.prog 59=some ⟨false,1,[.nilIface],.other⟩:=by kernel_rfl
theorem kd_59:kindP Try.prog 59=.other:=by kernel_rfl
theorem ti_60:tiP Try.prog 60=some ⟨false,1,[.nilIface],.other⟩:=by kernel_rfl
theorem kd_60:kindP Try.prog 60=.other:=by kernel_rfl
theorem ti_63:tiP Try.prog 63=some ⟨false,1,[.nilFunc],.other⟩:=by kernel_rfl
theorem kd_63:kindP Try.prog 63=.other:=by kernel_rfl
theorem ti_65:tiP Try.prog 65=some ⟨false,1,[.nilFunc],.other⟩:=by kernel_rfl
theorem kd_65:kindP Try.prog 65=.other:=by kernel_rfl
theorem ti_66:tiP Try.prog 66=some ⟨false,1,[.int .u64 0],.int .u64⟩:=by kernel_rfl
theorem kd_66:kindP Try.prog 66=.int .u64:=by kernel_rfl
theorem ti_67:tiP Try.prog 67=some ⟨false,1,[.slice none 0 0],.slice 82 2 16 [.int .u8 0,.int .i64 0]⟩:=by kernel_rfl
theorem kd_67:kindP Try.prog 67=.slice 82 2 16 [.int .u8 0,.int .i64 0]:=by kernel_rfl
theorem ti_69:tiP Try.prog 69=some ⟨true,4,[.int .i64 0,.int .i64 0,.int .i64 0,.slice none 0 0],.struct [(0,1,false),(1,1,false),(2,1,false),(3,1,false)]⟩:=by kernel_rfl
theorem kd_69:kindP Try.prog 69=.struct [(0,1,false),(1,1,false),(2,1,false),(3,1,false)]:=by kernel_rfl
theorem ti_70:tiP Try.prog 70=some ⟨false,1,[.slice none 0 0],.slice 69 4 48 [.int .i64 0,.int .i64 0,.int .i64 0,.slice none 0 0]⟩:=by kernel_rfl
theorem kd_70:kindP Try.prog 70=.slice 69 4 48 [.int .i64 0,.int .i64 0,.int .i64 0,.slice none 0 0]:=by kernel_rfl
theorem ti_71:tiP Try.prog 71=some ⟨true,2,[.slice none 0 0,.int .i64 0],.struct [(0,1,false),(1,1,false)]⟩:=by kernel_rfl
theorem kd_71:kindP Try.prog 71=.struct [(0,1,false),(1,1,false)]:=by kernel_rfl
theorem ti_72:tiP Try.prog 72=some ⟨true,2,[.slice none 0 0,.int .i64 0],.struct [(0,1,false),(1,1,false)]⟩:=by kernel_rfl
theorem kd_72:kindP Try.prog 72=.struct [(0,1,false),(1,1,false)]:=by kernel_rfl
theorem ti_73:tiP Try.prog 73=some ⟨false,1,[.nilFunc],.other⟩:=by kernel_rfl
theorem kd_73:kindP Try.prog 73=.other:=by kernel_rfl
theorem ti_74:tiP Try.prog 74=some ⟨false,1,[.nilFunc],.other⟩:=by kernel_rfl
theorem kd_74:kindP Try.prog 74=.other:=by kernel_rfl
theorem ti_75:tiP Try.prog 75=some ⟨false,1,[.nilFunc],.other⟩:=by kernel_rfl
theorem kd_75:kindP Try.prog 75=.other:=by kernel_rfl
theorem ti_76:tiP Try.prog 76=some ⟨false,1,[.slice none 0 0],.slice 9 1 16 [.string ⟨#[]⟩]⟩:=by kernel_rfl
theorem kd_76:kindP Try.prog 76=.slice 9 1 16 [.string ⟨#[]⟩]:=by kernel_rfl
theorem ti_78:tiP Try.prog 78=some ⟨false,1,[.slice none 0 0],.slice 27 1 8 [.int .i64 0]⟩:=by kernel_rfl
theorem kd_78:kindP Try.prog 78=.slice 27 1 8 [.int .i64 0]:=by kernel_rfl
theorem ti_79:tiP Try.prog 79=some ⟨false,1,[.pointer none],.ptr 5⟩:=by kernel_rfl
theorem kd_79:kindP Try.prog 79=.ptr 5:=by kernel_rfl
theorem ti_80:tiP Try.prog 80=some ⟨false,1,[.pointer none],.ptr 69⟩:=by kernel_rfl
theorem kd_80:kindP Try.prog 80=.ptr 69:=by kernel_rfl
theorem ti_82:tiP Try.prog 82=some ⟨true,2,[.int .u8 0,.int .i64 0],.struct [(0,1,false),(1,1,false)]⟩:=by kernel_rfl
theorem kd_82:kindP Try.prog 82=.struct [(0,1,false),(1,1,false)]:=by kernel_rfl
theorem ti_83:tiP Try.prog 83=some ⟨false,1,[.nilFunc],.other⟩:=by kernel_rfl
theorem kd_83:kindP Try.prog 83=.other:=by kernel_rfl
theorem ti_84:tiP Try.prog 84=some ⟨false,1,[.pointer none],.other⟩:=by kernel_rfl
theorem kd_84:kindP Try.prog 84=.other:=by kernel_rfl
theorem ti_90:tiP Try.prog 90=some ⟨true,0,[],.struct [(0,0,true)]⟩:=by kernel_rfl
theorem kd_90:kindP Try.prog 90=.struct [(0,0,true)]:=by kernel_rfl
theorem ti_92:tiP Try.prog 92=some ⟨false,1,[.nilFunc],.other⟩:=by kernel_rfl
theorem kd_92:kindP Try.prog 92=.other:=by kernel_rfl
theorem ti_94:tiP Try.prog 94=some ⟨false,1,[.int .u8 0],.int .u8⟩:=by kernel_rfl
theorem kd_94:kindP Try.prog 94=.int .u8:=by kernel_rfl
theorem ti_97:tiP Try.prog 97=some ⟨false,1,[.int .i32 0],.int .i32⟩:=by kernel_rfl
theorem kd_97:kindP Try.prog 97=.int .i32:=by kernel_rfl
theorem ti_98:tiP Try.prog 98=some ⟨false,1,[.int .i32 0],.int .i32⟩:=by kernel_rfl
theorem kd_98:kindP Try.prog 98=.int .i32:=by kernel_rfl
theorem ti_99:tiP Try.prog 99=some ⟨true,11,[.int .u64 0,.int .u64 0,.int .u32 0,.int .u8 0,.int .u8 0,.int .u8 0,.int .u8 0,.nilFunc,.pointer none,.int .i32 0,.int .i32 0],.struct [(0,1,false),(1,1,false),(2,1,false),(3,1,false),(4,1,false),(5,1,false),(6,1,false),(7,1,false),(8,1,false),(9,1,false),(10,1,false)]⟩:=by kernel_rfl
theorem kd_99:kindP Try.prog 99=.struct [(0,1,false),(1,1,false),(2,1,false),(3,1,false),(4,1,false),(5,1,false),(6,1,false),(7,1,false),(8,1,false),(9,1,false),(10,1,false)]:=by kernel_rfl
theorem ti_100:tiP Try.prog 100=some ⟨true,11,[.int .u64 0,.int .u64 0,.int .u32 0,.int .u8 0,.int .u8 0,.int .u8 0,.int .u8 0,.nilFunc,.pointer none,.int .i32 0,.int .i32 0],.struct [(0,1,false),(1,1,false),(2,1,false),(3,1,false),(4,1,false),(5,1,false),(6,1,false),(7,1,false),(8,1,false),(9,1,false),(10,1,false)]⟩:=by kernel_rfl
theorem kd_100:kindP Try.prog 100=.struct [(0,1,false),(1,1,false),(2,1,false),(3,1,false),(4,1,false),(5,1,false),(6,1,false),(7,1,false),(8,1,false),(9,1,false),(10,1,false)]:=by kernel_rfl
theorem zf_0:zfP Try.prog 0=false:=by kernel_rfl
theorem zf_1:zfP Try.prog 1=false:=by kernel_rfl
theorem zf_2:zfP Try.prog 2=false:=by kernel_rfl
theorem zf_3:zfP Try.prog 3=false:=by kernel_rfl
theorem zf_4:zfP Try.prog 4=false:=by kernel_rfl
theorem zf_5:zfP Try.prog 5=false:=by kernel_rfl
theorem zf_6:zfP Try.prog 6=false:=by kernel_rfl
theorem zf_7:zfP Try.prog 7=true:=by kernel_rfl
theorem zf_8:zfP Try.prog 8=true:=by kernel_rfl
theorem zf_9:zfP Try.prog 9=false:=by kernel_rfl
theorem zf_10:zfP Try.prog 10=false:=by kernel_rfl
theorem zf_11:zfP Try.prog 11=false:=by kernel_rfl
theorem zf_12:zfP Try.prog 12=false:=by kernel_rfl
theorem zf_13:zfP Try.prog 13=true:=by kernel_rfl
theorem zf_14:zfP Try.prog 14=true:=by kernel_rfl
theorem zf_15:zfP Try.prog 15=false:=by kernel_rfl
theorem zf_16:zfP Try.prog 16=false:=by kernel_rfl
theorem zf_17:zfP Try.prog 17=false:=by kernel_rfl
theorem zf_18:zfP Try.prog 18=true:=by kernel_rfl
theorem zf_19:zfP Try.prog 19=true:=by kernel_rfl
theorem zf_20:zfP Try.prog 20=false:=by kernel_rfl
theorem zf_21:zfP Try.prog 21=false:=by kernel_rfl
theorem zf_22:zfP Try.prog 22=false:=by kernel_rfl
theorem zf_23:zfP Try.prog 23=true:=by kernel_rfl
theorem zf_24:zfP Try.prog 24=true:=by kernel_rfl
theorem zf_25:zfP Try.prog 25=false:=by kernel_rfl
theorem zf_26:zfP Try.prog 26=false:=by kernel_rfl
theorem zf_27:zfP Try.prog 27=false:=by kernel_rfl
theorem zf_28:zfP Try.prog 28=false:=by kernel_rfl
theorem zf_29:zfP Try.prog 29=false:=by kernel_rfl
theorem zf_30:zfP Try.prog 30=false:=by kernel_rfl
theorem zf_31:zfP Try.prog 31=false:=by kernel_rfl
theorem zf_32:zfP Try.prog 32=false:=by kernel_rfl
theorem zf_33:zfP Try.prog 33=false:=by kernel_rfl
theorem zf_34:zfP Try.prog 34=false:=by kernel_rfl
theorem zf_35:zfP Try.prog 35=false:=by kernel_rfl
theorem zf_36:zfP Try.prog 36=false:=by kernel_rfl
theorem zf_37:zfP Try.prog 37=false:=by kernel_rfl
theorem zf_38:zfP Try.prog 38=false:=by kernel_rfl
theorem zf_39:zfP Try.prog 39=false:=by kernel_rfl
theorem zf_40:zfP Try.prog 40=false:=by kernel_rfl
theorem zf_41:zfP Try.prog 41=true:=by kernel_rfl
theorem zf_42:zfP Try.prog 42=true:=by kernel_rfl
theorem zf_43:zfP Try.prog 43=true:=by kernel_rfl
theorem zf_46:zfP Try.prog 46=false:=by kernel_rfl
theorem zf_47:zfP Try.prog 47=false:=by kernel_rfl
theorem zf_48:zfP Try.prog 48=false:=by kernel_rfl
theorem zf_49:zfP Try.prog 49=false:=by kernel_rfl
theorem zf_50:zfP Try.prog 50=false:=by kernel_rfl
theorem zf_51:zfP Try.prog 51=false:=by kernel_rfl
theorem zf_52:zfP Try.prog 52=false:=by kernel_rfl
theorem zf_53:zfP Try.prog 53=true:=by kernel_rfl
theorem zf_54:zfP Try.prog 54=true:=by kernel_rfl
theorem zf_55:zfP Try.prog 55=false:=by kernel_rfl
theorem zf_56:zfP Try.prog 56=false:=by kernel_rfl
theorem zf_57:zfP Try.prog 57=true:=by kernel_rfl
theorem zf_58:zfP Try.prog 58=true:=by kernel_rfl
theorem zf_59:zfP Try.prog 59=false:=by kernel_rfl
theorem zf_60:zfP Try.prog 60=false:=by kernel_rfl
theorem zf_61:zfP Try.prog 61=false:=by kernel_rfl
theorem zf_63:zfP Try.prog 63=false:=by kernel_rfl
theorem zf_65:zfP Try.prog 65=false:=by kernel_rfl
theorem zf_66:zfP Try.prog 66=false:=by kernel_rfl
theorem zf_67:zfP Try.prog 67=false:=by kernel_rfl
theorem zf_69:zfP Try.prog 69=true:=by kernel_rfl
theorem zf_70:zfP Try.prog 70=false:=by kernel_rfl
theorem zf_71:zfP Try.prog 71=true:=by kernel_rfl
theorem zf_72:zfP Try.prog 72=true:=by kernel_rfl
theorem zf_73:zfP Try.prog 73=false:=by kernel_rfl
theorem zf_74:zfP Try.prog 74=false:=by kernel_rfl
theorem zf_75:zfP Try.prog 75=false:=by kernel_rfl
theorem zf_76:zfP Try.prog 76=false:=by kernel_rfl
theorem zf_78:zfP Try.prog 78=false:=by kernel_rfl
theorem zf_79:zfP Try.prog 79=false:=by kernel_rfl
theorem zf_80:zfP Try.prog 80=false:=by kernel_rfl
theorem zf_82:zfP Try.prog 82=true:=by kernel_rfl
theorem zf_83:zfP Try.prog 83=false:=by kernel_rfl
theorem zf_84:zfP Try.prog 84=false:=by kernel_rfl
theorem zf_90:zfP Try.prog 90=true:=by kernel_rfl
theorem zf_92:zfP Try.prog 92=false:=by kernel_rfl
theorem zf_94:zfP Try.prog 94=false:=by kernel_rfl
theorem zf_97:zfP Try.prog 97=false:=by kernel_rfl
theorem zf_98:zfP Try.prog 98=false:=by kernel_rfl
theorem zf_99:zfP Try.prog 99=true:=by kernel_rfl
theorem zf_100:zfP Try.prog 100=true:=by kernel_rfl
theorem zf_101:zfP Try.prog 101=false:=by kernel_rfl
theorem zf_102:zfP Try.prog 102=false:=by kernel_rfl
theorem zf_103:zfP Try.prog 103=false:=by kernel_rfl
theorem zf_104:zfP Try.prog 104=false:=by kernel_rfl
theorem zf_105:zfP Try.prog 105=false:=by kernel_rfl
theorem zf_108:zfP Try.prog 108=false:=by kernel_rfl
theorem zf_110:zfP Try.prog 110=false:=by kernel_rfl
theorem zf_111:zfP Try.prog 111=false:=by kernel_rfl
theorem zf_112:zfP Try.prog 112=false:=by kernel_rfl
theorem zf_114:zfP Try.prog 114=false:=by kernel_rfl
theorem zf_115:zfP Try.prog 115=false:=by kernel_rfl
theorem zf_116:zfP Try.prog 116=false:=by kernel_rfl
theorem zf_117:zfP Try.prog 117=false:=by kernel_rfl
theorem zf_118:zfP Try.prog 118=false:=by kernel_rfl
theorem zf_119:zfP Try.prog 119=false:=by kernel_rfl
theorem zf_129:zfP Try.prog 129=false:=by kernel_rfl
theorem zf_130:zfP Try.prog 130=false:=by kernel_rfl
theorem zf_136:zfP Try.prog 136=false:=by kernel_rfl
theorem zf_150:zfP Try.prog 150=false:=by kernel_rfl
theorem zf_151:zfP Try.prog 151=false:=by kernel_rfl
theorem zf_170:zfP Try.prog 170=false:=by kernel_rfl
theorem zf_180:zfP Try.prog 180=false:=by kernel_rfl
theorem zf_188:zfP Try.prog 188=false:=by kernel_rfl
theorem zf_202:zfP Try.prog 202=false:=by kernel_rfl
theorem zf_226:zfP Try.prog 226=false:=by kernel_rfl
theorem zf_234:zfP Try.prog 234=false:=by kernel_rfl
theorem zf_242:zfP Try.prog 242=false:=by kernel_rfl
theorem eq_7:eqTyP Try.prog 7=some [.i .i64,.i .i64,.b,.i .u8]:=by kernel_rfl
theorem ag_7:aggP Try.prog 7=true:=by kernel_rfl
theorem eq_8:eqTyP Try.prog 8=some [.i .i64,.i .i64,.b,.i .u8]:=by kernel_rfl
theorem ag_8:aggP Try.prog 8=true:=by kernel_rfl
theorem eq_41:eqTyP Try.prog 41=some [.i .i64,.i .i64,.s]:=by kernel_rfl
theorem ag_41:aggP Try.prog 41=true:=by kernel_rfl
theorem eq_42:eqTyP Try.prog 42=some [.i .i64,.i .i64,.s]:=by kernel_rfl
theorem ag_42:aggP Try.prog 42=true:=by kernel_rfl
theorem eq_53:eqTyP Try.prog 53=some [.i .i64,.s]:=by kernel_rfl
theorem ag_53:aggP Try.prog 53=true:=by kernel_rfl
theorem eq_54:eqTyP Try.prog 54=some [.i .i64,.s]:=by kernel_rfl
theorem ag_54:aggP Try.prog 54=true:=by kernel_rfl
theorem eq_82:eqTyP Try.prog 82=some [.i .u8,.i .i64]:=by kernel_rfl
theorem ag_82:aggP Try.prog 82=true:=by kernel_rfl
attribute [go_sem] ti_0 kd_0 ti_1 kd_1 ti_2 kd_2 ti_3 kd_3 ti_4 kd_4 ti_5 kd_5 ti_6 kd_6 ti_7 kd_7 ti_8 kd_8 ti_9 kd_9 ti_10 kd_10 ti_11 kd_11 ti_12 kd_12 ti_13 kd_13 ti_14 kd_14 ti_15 kd_15 ti_16 kd_16 ti_17 kd_17 ti_18 kd_18 ti_19 kd_19
attribute [go_sem] ti_20 kd_20 ti_21 kd_21 ti_22 kd_22 ti_23 kd_23 ti_24 kd_24 ti_25 kd_25 ti_26 kd_26 ti_27 kd_27 ti_29 kd_29 ti_30 kd_30 ti_31 kd_31 ti_32 kd_32 ti_34 kd_34 ti_35 kd_35 ti_36 kd_36 ti_37 kd_37 ti_38 kd_38 ti_40 kd_40 ti_41 kd_41 ti_42 kd_42
attribute [go_sem] ti_43 kd_43 ti_46 kd_46 ti_48 kd_48 ti_49 kd_49 ti_50 kd_50 ti_51 kd_51 ti_52 kd_52 ti_53 kd_53 ti_54 kd_54 ti_55 kd_55 ti_56 kd_56 ti_57 kd_57 ti_58 kd_58 ti_59 kd_59 ti_60 kd_60 ti_63 kd_63
attribute [go_sem] ti_65 kd_65 ti_66 kd_66 ti_67 kd_67 ti_69 kd_69 ti_70 kd_70 ti_71 kd_71 ti_72 kd_72 ti_73 kd_73 ti_74 kd_74 ti_75 kd_75 ti_76 kd_76 ti_78 kd_78 ti_79 kd_79 ti_80 kd_80 ti_82 kd_82 ti_83 kd_83 ti_84 kd_84
attribute [go_sem] ti_90 kd_90 ti_92 kd_92 ti_94 kd_94 ti_97 kd_97 ti_98 kd_98 ti_99 kd_99 ti_100 kd_100 zf_0 zf_1 zf_2 zf_3 zf_4 zf_5 zf_6 zf_7
attribute [go_sem] zf_8 zf_9 zf_10 zf_11 zf_12 zf_13 zf_14 zf_15 zf_16 zf_17 zf_18 zf_19 zf_20 zf_21 zf_22 zf_23 zf_24 zf_25 zf_26 zf_27 zf_28 zf_29 zf_30 zf_31 zf_32 zf_33 zf_34 zf_35 zf_36 zf_37 zf_38 zf_39 zf_40 zf_41 zf_42 zf_43 zf_46 zf_47
attribute [go_sem] zf_48 zf_49 zf_50 zf_51 zf_52 zf_53 zf_54 zf_55 zf_56 zf_57 zf_58 zf_59 zf_60 zf_61 zf_63 zf_65 zf_66 zf_67 zf_69 zf_70 zf_71 zf_72 zf_73 zf_74 zf_75 zf_76 zf_78 zf_79 zf_80 zf_82 zf_83 zf_84
attribute [go_sem] zf_90 zf_92 zf_94 zf_97 zf_98 zf_99 zf_100 zf_101 zf_102 zf_103 zf_104 zf_105 zf_108 zf_110 zf_111 zf_112 zf_114 zf_115 zf_116 zf_117 zf_118 zf_119
attribute [go_sem] zf_129 zf_130 zf_136 zf_150 zf_151
attribute [go_sem] zf_170 zf_180 zf_188 zf_202
attribute [go_sem] zf_226 zf_234 zf_242
attribute [go_sem] eq_7 ag_7 eq_8 ag_8 eq_41 ag_41 eq_42 ag_42 eq_53 ag_53 eq_54 ag_54 eq_82 ag_82
end Go.Proofs.Ytkekfenkeeiigaa
