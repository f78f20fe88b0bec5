/- What the program's types are, as the machine reads them. -/
import Derived.Test.YtpcihjdidhpbbaaGreatDoorVc3
import Derived.Test.YtpcihjdidhpbbaaGreatDoorProg
import Derived.KernelRfl
open List
namespace Go.Proofs.YtpcihjdidhpbbaaGreatDoor
open Go.Vc
theorem Qp:eB Tryz.prog 0=some ⟨false,1,[.tuple #[]],.other⟩:=by kernel_rfl
theorem QP:zB Tryz.prog 0=.other:=by kernel_rfl
theorem Qo:eB Tryz.prog 1=some ⟨false,1,[.nilFunc],.other⟩:=by kernel_rfl
theorem QO:zB Tryz.prog 1=.other:=by kernel_rfl
theorem Qn:eB Tryz.prog 2=some ⟨false,1,[.int .i64 0],.int .i64⟩:=by kernel_rfl
theorem QN:zB Tryz.prog 2=.int .i64:=by kernel_rfl
theorem Qm:eB Tryz.prog 3=some ⟨false,1,[.int .i64 0],.int .i64⟩:=by kernel_rfl
theorem QM:zB Tryz.prog 3=.int .i64:=by kernel_rfl
theorem Ql:eB Tryz.prog 4=some ⟨false,1,[.bool false],.bool⟩:=by kernel_rfl
theorem QL:zB Tryz.prog 4=.bool:=by kernel_rfl
theorem Qk:eB Tryz.prog 5=some ⟨false,1,[.int .u8 0],.int .u8⟩:=by kernel_rfl
theorem QK:zB Tryz.prog 5=.int .u8:=by kernel_rfl
theorem Qj:eB Tryz.prog 6=some ⟨false,1,[.int .u8 0],.int .u8⟩:=by kernel_rfl
theorem QJ:zB Tryz.prog 6=.int .u8:=by kernel_rfl
theorem Qi:eB Tryz.prog 7=some ⟨true,4,[.int .i64 0,.int .i64 0,.bool false,.int .u8 0],.struct [(0,1,false),(1,1,false),(2,1,false),(3,1,false)]⟩:=by kernel_rfl
theorem QI:zB Tryz.prog 7=.struct [(0,1,false),(1,1,false),(2,1,false),(3,1,false)]:=by kernel_rfl
theorem Qh:eB Tryz.prog 8=some ⟨true,4,[.int .i64 0,.int .i64 0,.bool false,.int .u8 0],.struct [(0,1,false),(1,1,false),(2,1,false),(3,1,false)]⟩:=by kernel_rfl
theorem QH:zB Tryz.prog 8=.struct [(0,1,false),(1,1,false),(2,1,false),(3,1,false)]:=by kernel_rfl
theorem Qg:eB Tryz.prog 9=some ⟨false,1,[.string ⟨#[]⟩],.str⟩:=by kernel_rfl
theorem QG:zB Tryz.prog 9=.str:=by kernel_rfl
theorem J4:eB Tryz.prog 10=some ⟨false,1,[.string ⟨#[]⟩],.str⟩:=by kernel_rfl
theorem Ly:zB Tryz.prog 10=.str:=by kernel_rfl
theorem J3:eB Tryz.prog 11=some ⟨false,1,[.string ⟨#[]⟩],.str⟩:=by kernel_rfl
theorem Lx:zB Tryz.prog 11=.str:=by kernel_rfl
theorem J2:eB Tryz.prog 12=some ⟨false,1,[.int .u64 0],.int .u64⟩:=by kernel_rfl
theorem Lv:zB Tryz.prog 12=.int .u64:=by kernel_rfl
theorem J1:eB Tryz.prog 13=some ⟨true,2,[.string ⟨#[]⟩,.int .u64 0],.struct [(0,1,false),(1,1,false)]⟩:=by kernel_rfl
theorem Lu:zB Tryz.prog 13=.struct [(0,1,false),(1,1,false)]:=by kernel_rfl
theorem J0:eB Tryz.prog 16=some ⟨false,1,[.pointer none],.ptr 269⟩:=by kernel_rfl
theorem Lt:zB Tryz.prog 16=.ptr 269:=by kernel_rfl
theorem JZ:eB Tryz.prog 17=some ⟨false,1,[.pointer none],.ptr 276⟩:=by kernel_rfl
theorem Ls:zB Tryz.prog 17=.ptr 276:=by kernel_rfl
theorem JY:eB Tryz.prog 19=some ⟨true,1,[.pointer none],.struct [(0,1,false)]⟩:=by kernel_rfl
theorem Lr:zB Tryz.prog 19=.struct [(0,1,false)]:=by kernel_rfl
theorem JX:eB Tryz.prog 20=some ⟨false,1,[.nilIface],.other⟩:=by kernel_rfl
theorem Lq:zB Tryz.prog 20=.other:=by kernel_rfl
theorem JW:eB Tryz.prog 21=some ⟨false,1,[.int .i32 0],.int .i32⟩:=by kernel_rfl
theorem Lp:zB Tryz.prog 21=.int .i32:=by kernel_rfl
theorem JV:eB Tryz.prog 22=some ⟨false,1,[.slice none 0 0],.slice 84 5 72 [.string ⟨#[]⟩,.int .i64 0,.string ⟨#[]⟩,.string ⟨#[]⟩,.string ⟨#[]⟩]⟩:=by kernel_rfl
theorem Lo:zB Tryz.prog 22=.slice 84 5 72 [.string ⟨#[]⟩,.int .i64 0,.string ⟨#[]⟩,.string ⟨#[]⟩,.string ⟨#[]⟩]:=by kernel_rfl
theorem JU:eB Tryz.prog 23=some ⟨true,1,[.slice none 0 0],.struct [(0,1,false)]⟩:=by kernel_rfl
theorem Ln:zB Tryz.prog 23=.struct [(0,1,false)]:=by kernel_rfl
theorem JT:eB Tryz.prog 24=some ⟨true,1,[.slice none 0 0],.struct [(0,1,false)]⟩:=by kernel_rfl
theorem Lm:zB Tryz.prog 24=.struct [(0,1,false)]:=by kernel_rfl
theorem JS:eB Tryz.prog 25=some ⟨false,1,[.slice none 0 0],.slice 63 2 32 [.string ⟨#[]⟩,.string ⟨#[]⟩]⟩:=by kernel_rfl
theorem Ll:zB Tryz.prog 25=.slice 63 2 32 [.string ⟨#[]⟩,.string ⟨#[]⟩]:=by kernel_rfl
theorem JR:eB Tryz.prog 26=some ⟨false,1,[.slice none 0 0],.slice 61 3 40 [.string ⟨#[]⟩,.string ⟨#[]⟩,.bool false]⟩:=by kernel_rfl
theorem Lk:zB Tryz.prog 26=.slice 61 3 40 [.string ⟨#[]⟩,.string ⟨#[]⟩,.bool false]:=by kernel_rfl
theorem JQ:eB Tryz.prog 27=some ⟨false,1,[.slice none 0 0],.slice 65 4 40 [.string ⟨#[]⟩,.string ⟨#[]⟩,.bool false,.bool false]⟩:=by kernel_rfl
theorem Lj:zB Tryz.prog 27=.slice 65 4 40 [.string ⟨#[]⟩,.string ⟨#[]⟩,.bool false,.bool false]:=by kernel_rfl
theorem JP:eB Tryz.prog 28=some ⟨true,4,[.slice none 0 0,.slice none 0 0,.slice none 0 0,.slice none 0 0],.struct [(0,1,false),(1,1,false),(2,1,false),(3,1,false)]⟩:=by kernel_rfl
theorem Li:zB Tryz.prog 28=.struct [(0,1,false),(1,1,false),(2,1,false),(3,1,false)]:=by kernel_rfl
theorem JO:eB Tryz.prog 29=some ⟨true,4,[.slice none 0 0,.slice none 0 0,.slice none 0 0,.slice none 0 0],.struct [(0,1,false),(1,1,false),(2,1,false),(3,1,false)]⟩:=by kernel_rfl
theorem Lh:zB Tryz.prog 29=.struct [(0,1,false),(1,1,false),(2,1,false),(3,1,false)]:=by kernel_rfl
theorem JN:eB Tryz.prog 30=some ⟨false,1,[.slice none 0 0],.slice 53 6 80 [.int .i64 0,.string ⟨#[]⟩,.slice none 0 0,.bool false,.bool false,.slice none 0 0]⟩:=by kernel_rfl
theorem Lg:zB Tryz.prog 30=.slice 53 6 80 [.int .i64 0,.string ⟨#[]⟩,.slice none 0 0,.bool false,.bool false,.slice none 0 0]:=by kernel_rfl
theorem JM:eB Tryz.prog 31=some ⟨false,1,[.nilFunc],.other⟩:=by kernel_rfl
theorem Lf:zB Tryz.prog 31=.other:=by kernel_rfl
theorem JL:eB Tryz.prog 33=some ⟨false,1,[.nilFunc],.other⟩:=by kernel_rfl
theorem Le:zB Tryz.prog 33=.other:=by kernel_rfl
theorem JK:eB Tryz.prog 34=some ⟨false,1,[.nilFunc],.other⟩:=by kernel_rfl
theorem Ld:zB Tryz.prog 34=.other:=by kernel_rfl
theorem JJ:eB Tryz.prog 35=some ⟨false,1,[.slice none 0 0],.slice 24 1 24 [.slice none 0 0]⟩:=by kernel_rfl
theorem Lc:zB Tryz.prog 35=.slice 24 1 24 [.slice none 0 0]:=by kernel_rfl
theorem JI:eB Tryz.prog 36=some ⟨false,1,[.int .i64 0],.int .i64⟩:=by kernel_rfl
theorem Lb:zB Tryz.prog 36=.int .i64:=by kernel_rfl
theorem JH:eB Tryz.prog 42=some ⟨false,1,[.nilFunc],.other⟩:=by kernel_rfl
theorem La:zB Tryz.prog 42=.other:=by kernel_rfl
theorem JG:eB Tryz.prog 43=some ⟨false,1,[.nilFunc],.other⟩:=by kernel_rfl
theorem KZ:zB Tryz.prog 43=.other:=by kernel_rfl
theorem JF:eB Tryz.prog 44=some ⟨false,1,[.nilFunc],.other⟩:=by kernel_rfl
theorem KY:zB Tryz.prog 44=.other:=by kernel_rfl
theorem JE:eB Tryz.prog 45=some ⟨false,1,[.slice none 0 0],.slice 9 1 16 [.string ⟨#[]⟩]⟩:=by kernel_rfl
theorem KX:zB Tryz.prog 45=.slice 9 1 16 [.string ⟨#[]⟩]:=by kernel_rfl
theorem JD:eB Tryz.prog 46=some ⟨false,1,[.nilFunc],.other⟩:=by kernel_rfl
theorem KW:zB Tryz.prog 46=.other:=by kernel_rfl
theorem JC:eB Tryz.prog 47=some ⟨false,1,[.nilFunc],.other⟩:=by kernel_rfl
theorem KV:zB Tryz.prog 47=.other:=by kernel_rfl
theorem JB:eB Tryz.prog 48=some ⟨false,1,[.slice none 0 0],.slice 125 10 120 [.int .i64 0,.string ⟨#[]⟩,.string ⟨#[]⟩,.bool false,.string ⟨#[]⟩,.string ⟨#[]⟩,.string ⟨#[]⟩,.string ⟨#[]⟩,.bool false,.bool false]⟩:=by kernel_rfl
theorem KU:zB Tryz.prog 48=.slice 125 10 120 [.int .i64 0,.string ⟨#[]⟩,.string ⟨#[]⟩,.bool false,.string ⟨#[]⟩,.string ⟨#[]⟩,.string ⟨#[]⟩,.string ⟨#[]⟩,.bool false,.bool false]:=by kernel_rfl
theorem JA:eB Tryz.prog 49=some ⟨true,2,[.bool false,.bool false],.struct [(0,1,false),(1,1,false)]⟩:=by kernel_rfl
theorem KT:zB Tryz.prog 49=.struct [(0,1,false),(1,1,false)]:=by kernel_rfl
theorem Jz:eB Tryz.prog 50=some ⟨true,2,[.bool false,.bool false],.struct [(0,1,false),(1,1,false)]⟩:=by kernel_rfl
theorem KS:zB Tryz.prog 50=.struct [(0,1,false),(1,1,false)]:=by kernel_rfl
theorem Jy:eB Tryz.prog 51=some ⟨false,1,[.slice none 0 0],.slice 67 10 120 [.int .i64 0,.string ⟨#[]⟩,.string ⟨#[]⟩,.bool false,.string ⟨#[]⟩,.string ⟨#[]⟩,.string ⟨#[]⟩,.string ⟨#[]⟩,.bool false,.bool false]⟩:=by kernel_rfl
theorem KQ:zB Tryz.prog 51=.slice 67 10 120 [.int .i64 0,.string ⟨#[]⟩,.string ⟨#[]⟩,.bool false,.string ⟨#[]⟩,.string ⟨#[]⟩,.string ⟨#[]⟩,.string ⟨#[]⟩,.bool false,.bool false]:=by kernel_rfl
theorem Jx:eB Tryz.prog 52=some ⟨true,6,[.int .i64 0,.string ⟨#[]⟩,.slice none 0 0,.bool false,.bool false,.slice none 0 0],.struct [(0,1,false),(1,1,false),(2,1,false),(3,2,true),(5,1,false)]⟩:=by kernel_rfl
theorem KP:zB Tryz.prog 52=.struct [(0,1,false),(1,1,false),(2,1,false),(3,2,true),(5,1,false)]:=by kernel_rfl
theorem Jw:eB Tryz.prog 53=some ⟨true,6,[.int .i64 0,.string ⟨#[]⟩,.slice none 0 0,.bool false,.bool false,.slice none 0 0],.struct [(0,1,false),(1,1,false),(2,1,false),(3,2,true),(5,1,false)]⟩:=by kernel_rfl
theorem KN:zB Tryz.prog 53=.struct [(0,1,false),(1,1,false),(2,1,false),(3,2,true),(5,1,false)]:=by kernel_rfl
theorem Jv:eB Tryz.prog 54=some ⟨false,1,[.slice none 0 0],.slice 206 2 24 [.int .i64 0,.string ⟨#[]⟩]⟩:=by kernel_rfl
theorem KM:zB Tryz.prog 54=.slice 206 2 24 [.int .i64 0,.string ⟨#[]⟩]:=by kernel_rfl
theorem Ju:eB Tryz.prog 55=some ⟨true,3,[.slice none 0 0,.slice none 0 0,.slice none 0 0],.struct [(0,1,false),(1,1,true),(2,1,false)]⟩:=by kernel_rfl
theorem KL:zB Tryz.prog 55=.struct [(0,1,false),(1,1,true),(2,1,false)]:=by kernel_rfl
theorem Jt:eB Tryz.prog 56=some ⟨true,3,[.slice none 0 0,.slice none 0 0,.slice none 0 0],.struct [(0,1,false),(1,1,true),(2,1,false)]⟩:=by kernel_rfl
theorem KK:zB Tryz.prog 56=.struct [(0,1,false),(1,1,true),(2,1,false)]:=by kernel_rfl
theorem Js:eB Tryz.prog 58=some ⟨false,1,[.nilFunc],.other⟩:=by kernel_rfl
theorem KJ:zB Tryz.prog 58=.other:=by kernel_rfl
theorem Jr:eB Tryz.prog 61=some ⟨true,3,[.string ⟨#[]⟩,.string ⟨#[]⟩,.bool false],.struct [(0,1,false),(1,1,false),(2,1,false)]⟩:=by kernel_rfl
theorem KI:zB Tryz.prog 61=.struct [(0,1,false),(1,1,false),(2,1,false)]:=by kernel_rfl
theorem Jq:eB Tryz.prog 63=some ⟨true,2,[.string ⟨#[]⟩,.string ⟨#[]⟩],.struct [(0,1,false),(1,1,false)]⟩:=by kernel_rfl
theorem KH:zB Tryz.prog 63=.struct [(0,1,false),(1,1,false)]:=by kernel_rfl
theorem Jp:eB Tryz.prog 64=some ⟨true,4,[.string ⟨#[]⟩,.string ⟨#[]⟩,.bool false,.bool false],.struct [(0,1,false),(1,1,false),(2,1,false),(3,1,false)]⟩:=by kernel_rfl
theorem KG:zB Tryz.prog 64=.struct [(0,1,false),(1,1,false),(2,1,false),(3,1,false)]:=by kernel_rfl
theorem Jo:eB Tryz.prog 65=some ⟨true,4,[.string ⟨#[]⟩,.string ⟨#[]⟩,.bool false,.bool false],.struct [(0,1,false),(1,1,false),(2,1,false),(3,1,false)]⟩:=by kernel_rfl
theorem KF:zB Tryz.prog 65=.struct [(0,1,false),(1,1,false),(2,1,false),(3,1,false)]:=by kernel_rfl
theorem Jn:eB Tryz.prog 66=some ⟨true,10,[.int .i64 0,.string ⟨#[]⟩,.string ⟨#[]⟩,.bool false,.string ⟨#[]⟩,.string ⟨#[]⟩,.string ⟨#[]⟩,.string ⟨#[]⟩,.bool false,.bool false],.struct [(0,1,false),(1,3,true),(4,2,true),(6,4,true)]⟩:=by kernel_rfl
theorem KE:zB Tryz.prog 66=.struct [(0,1,false),(1,3,true),(4,2,true),(6,4,true)]:=by kernel_rfl
theorem Jm:eB Tryz.prog 67=some ⟨true,10,[.int .i64 0,.string ⟨#[]⟩,.string ⟨#[]⟩,.bool false,.string ⟨#[]⟩,.string ⟨#[]⟩,.string ⟨#[]⟩,.string ⟨#[]⟩,.bool false,.bool false],.struct [(0,1,false),(1,3,true),(4,2,true),(6,4,true)]⟩:=by kernel_rfl
theorem KD:zB Tryz.prog 67=.struct [(0,1,false),(1,3,true),(4,2,true),(6,4,true)]:=by kernel_rfl
theorem Jl:eB Tryz.prog 74=some ⟨false,1,[.nilFunc],.other⟩:=by kernel_rfl
theorem KC:zB Tryz.prog 74=.other:=by kernel_rfl
theorem Jk:eB Tryz.prog 75=some ⟨false,1,[.nilFunc],.other⟩:=by kernel_rfl
theorem KB:zB Tryz.prog 75=.other:=by kernel_rfl
theorem Jj:eB Tryz.prog 79=some ⟨false,1,[.pointer none],.ptr 82⟩:=by kernel_rfl
theorem KA:zB Tryz.prog 79=.ptr 82:=by kernel_rfl
theorem Ji:eB Tryz.prog 80=some ⟨false,1,[.slice none 0 0],.slice 5 1 1 [.int .u8 0]⟩:=by kernel_rfl
theorem Kz:zB Tryz.prog 80=.slice 5 1 1 [.int .u8 0]:=by kernel_rfl
theorem Jh:eB Tryz.prog 82=some ⟨true,2,[.pointer none,.slice none 0 0],.struct [(0,1,false),(1,1,false)]⟩:=by kernel_rfl
theorem Ky:zB Tryz.prog 82=.struct [(0,1,false),(1,1,false)]:=by kernel_rfl
theorem Jg:eB Tryz.prog 84=some ⟨true,5,[.string ⟨#[]⟩,.int .i64 0,.string ⟨#[]⟩,.string ⟨#[]⟩,.string ⟨#[]⟩],.struct [(0,1,false),(1,1,false),(2,1,false),(3,1,false),(4,1,false)]⟩:=by kernel_rfl
theorem Kx:zB Tryz.prog 84=.struct [(0,1,false),(1,1,false),(2,1,false),(3,1,false),(4,1,false)]:=by kernel_rfl
theorem Jf:eB Tryz.prog 88=some ⟨false,1,[.nilIface],.other⟩:=by kernel_rfl
theorem Kw:zB Tryz.prog 88=.other:=by kernel_rfl
theorem Je:eB Tryz.prog 92=some ⟨false,1,[.nilFunc],.other⟩:=by kernel_rfl
theorem Kv:zB Tryz.prog 92=.other:=by kernel_rfl
theorem Jd:eB Tryz.prog 97=some ⟨false,1,[.map none],.map 100 84⟩:=by kernel_rfl
theorem Ku:zB Tryz.prog 97=.map 100 84:=by kernel_rfl
theorem Jc:eB Tryz.prog 98=some ⟨false,1,[.nilFunc],.other⟩:=by kernel_rfl
theorem Kt:zB Tryz.prog 98=.other:=by kernel_rfl
theorem Jb:eB Tryz.prog 99=some ⟨true,2,[.int .i64 0,.string ⟨#[]⟩],.struct [(0,1,false),(1,1,false)]⟩:=by kernel_rfl
theorem Ks:zB Tryz.prog 99=.struct [(0,1,false),(1,1,false)]:=by kernel_rfl
theorem DZ:eB Tryz.prog 100=some ⟨true,2,[.int .i64 0,.string ⟨#[]⟩],.struct [(0,1,false),(1,1,false)]⟩:=by kernel_rfl
theorem E9:zB Tryz.prog 100=.struct [(0,1,false),(1,1,false)]:=by kernel_rfl
theorem DY:eB Tryz.prog 102=some ⟨false,1,[.nilFunc],.other⟩:=by kernel_rfl
theorem E8:zB Tryz.prog 102=.other:=by kernel_rfl
theorem DX:eB Tryz.prog 104=some ⟨false,1,[.nilFunc],.other⟩:=by kernel_rfl
theorem E7:zB Tryz.prog 104=.other:=by kernel_rfl
theorem DW:eB Tryz.prog 105=some ⟨false,1,[.nilFunc],.other⟩:=by kernel_rfl
theorem E6:zB Tryz.prog 105=.other:=by kernel_rfl
theorem DV:eB Tryz.prog 106=some ⟨false,1,[.nilFunc],.other⟩:=by kernel_rfl
theorem E5:zB Tryz.prog 106=.other:=by kernel_rfl
theorem DU:eB Tryz.prog 107=some ⟨false,1,[.nilFunc],.other⟩:=by kernel_rfl
theorem E4:zB Tryz.prog 107=.other:=by kernel_rfl
theorem DT:eB Tryz.prog 109=some ⟨false,1,[.nilFunc],.other⟩:=by kernel_rfl
theorem E3:zB Tryz.prog 109=.other:=by kernel_rfl
theorem DS:eB Tryz.prog 111=some ⟨false,1,[.nilFunc],.other⟩:=by kernel_rfl
theorem E1:zB Tryz.prog 111=.other:=by kernel_rfl
theorem DQ:eB Tryz.prog 112=some ⟨false,1,[.nilFunc],.other⟩:=by kernel_rfl
theorem E0:zB Tryz.prog 112=.other:=by kernel_rfl
theorem DP:eB Tryz.prog 114=some ⟨false,1,[.nilFunc],.other⟩:=by kernel_rfl
theorem EZ:zB Tryz.prog 114=.other:=by kernel_rfl
theorem DO:eB Tryz.prog 115=some ⟨false,1,[.nilFunc],.other⟩:=by kernel_rfl
theorem EY:zB Tryz.prog 115=.other:=by kernel_rfl
theorem DN:eB Tryz.prog 116=some ⟨false,1,[.nilFunc],.other⟩:=by kernel_rfl
theorem EX:zB Tryz.prog 116=.other:=by kernel_rfl
theorem DM:eB Tryz.prog 117=some ⟨false,1,[.nilFunc],.other⟩:=by kernel_rfl
theorem EW:zB Tryz.prog 117=.other:=by kernel_rfl
theorem DL:eB Tryz.prog 118=some ⟨false,1,[.nilFunc],.other⟩:=by kernel_rfl
theorem EV:zB Tryz.prog 118=.other:=by kernel_rfl
theorem DK:eB Tryz.prog 119=some ⟨false,1,[.nilFunc],.other⟩:=by kernel_rfl
theorem EU:zB Tryz.prog 119=.other:=by kernel_rfl
theorem DJ:eB Tryz.prog 120=some ⟨false,1,[.pointer none],.ptr 124⟩:=by kernel_rfl
theorem ET:zB Tryz.prog 120=.ptr 124:=by kernel_rfl
theorem DI:eB Tryz.prog 121=some ⟨false,1,[.pointer none],.ptr 175⟩:=by kernel_rfl
theorem DH:eB Tryz.prog 124=some ⟨true,6,[.pointer none,.slice none 0 0,.slice none 0 0,.slice none 0 0,.slice none 0 0,.int .i64 0],.struct [(0,1,false),(1,1,false),(2,3,true),(5,1,false)]⟩:=by kernel_rfl
theorem DG:eB Tryz.prog 125=some ⟨true,10,[.int .i64 0,.string ⟨#[]⟩,.string ⟨#[]⟩,.bool false,.string ⟨#[]⟩,.string ⟨#[]⟩,.string ⟨#[]⟩,.string ⟨#[]⟩,.bool false,.bool false],.struct [(0,1,false),(1,3,true),(4,2,true),(6,4,true)]⟩:=by kernel_rfl
theorem DF:eB Tryz.prog 135=some ⟨false,1,[.nilFunc],.other⟩:=by kernel_rfl
theorem ES:zB Tryz.prog 135=.other:=by kernel_rfl
theorem DE:eB Tryz.prog 143=some ⟨false,1,[.nilFunc],.other⟩:=by kernel_rfl
theorem ER:zB Tryz.prog 143=.other:=by kernel_rfl
theorem DD:eB Tryz.prog 149=some ⟨false,1,[.nilFunc],.other⟩:=by kernel_rfl
theorem EQ:zB Tryz.prog 149=.other:=by kernel_rfl
theorem EP:zB Tryz.prog 151=.map 153 84:=by kernel_rfl
theorem DB:eB Tryz.prog 153=some ⟨true,2,[.int .i64 0,.string ⟨#[]⟩],.struct [(0,1,false),(1,1,false)]⟩:=by kernel_rfl
theorem DA:eB Tryz.prog 155=some ⟨false,1,[.int .u64 0],.int .u64⟩:=by kernel_rfl
theorem EO:zB Tryz.prog 155=.int .u64:=by kernel_rfl
theorem EN:zB Tryz.prog 157=.int .u64:=by kernel_rfl
theorem Dz:eB Tryz.prog 161=some ⟨false,1,[.slice none 0 0],.slice 36 1 8 [.int .i64 0]⟩:=by kernel_rfl
theorem EM:zB Tryz.prog 161=.slice 36 1 8 [.int .i64 0]:=by kernel_rfl
theorem Dy:eB Tryz.prog 167=some ⟨false,1,[.map none],.map 9 4⟩:=by kernel_rfl
theorem EL:zB Tryz.prog 167=.map 9 4:=by kernel_rfl
theorem Dx:eB Tryz.prog 171=some ⟨false,1,[.map none],.map 9 61⟩:=by kernel_rfl
theorem EK:zB Tryz.prog 171=.map 9 61:=by kernel_rfl
theorem Dw:eB Tryz.prog 172=some ⟨false,1,[.map none],.map 9 9⟩:=by kernel_rfl
theorem EJ:zB Tryz.prog 172=.map 9 9:=by kernel_rfl
theorem Dv:eB Tryz.prog 173=some ⟨false,1,[.map none],.map 9 65⟩:=by kernel_rfl
theorem EI:zB Tryz.prog 173=.map 9 65:=by kernel_rfl
theorem Du:eB Tryz.prog 175=some ⟨true,4,[.slice none 0 0,.map none,.map none,.map none],.struct [(0,1,false),(1,1,false),(2,1,false),(3,1,false)]⟩:=by kernel_rfl
theorem Ds:eB Tryz.prog 188=some ⟨false,1,[.slice none 0 0],.slice 3 1 8 [.int .i64 0]⟩:=by kernel_rfl
theorem EH:zB Tryz.prog 188=.slice 3 1 8 [.int .i64 0]:=by kernel_rfl
theorem Dq:eB Tryz.prog 193=some ⟨false,1,[.pointer none],.other⟩:=by kernel_rfl
theorem EG:zB Tryz.prog 193=.other:=by kernel_rfl
theorem Dp:eB Tryz.prog 206=some ⟨true,2,[.int .i64 0,.string ⟨#[]⟩],.struct [(0,1,false),(1,1,false)]⟩:=by kernel_rfl
theorem EF:zB Tryz.prog 206=.struct [(0,1,false),(1,1,false)]:=by kernel_rfl
theorem Do:eB Tryz.prog 222=some ⟨true,24,[.int .u8 0,.int .u8 0,.int .u8 0,.int .u8 0,.int .u8 0,.int .u8 0,.int .u8 0,.int .u8 0,.int .u8 0,.int .u8 0,.int .u8 0,.int .u8 0,.int .u8 0,.int .u8 0,.int .u8 0,.int .u8 0,.int .u8 0,.int .u8 0,.int .u8 0,.int .u8 0,.int .u8 0,.int .u8 0,.int .u8 0,.int .u8 0],.arr 24 5 1 false⟩:=by kernel_rfl
theorem Dn:eB Tryz.prog 233=some ⟨false,1,[.slice none 0 0],.slice 236 2 16 [.int .i64 0,.int .i64 0]⟩:=by kernel_rfl
theorem EE:zB Tryz.prog 233=.slice 236 2 16 [.int .i64 0,.int .i64 0]:=by kernel_rfl
theorem Dm:eB Tryz.prog 236=some ⟨true,2,[.int .i64 0,.int .i64 0],.arr 2 3 1 false⟩:=by kernel_rfl
theorem ED:zB Tryz.prog 236=.arr 2 3 1 false:=by kernel_rfl
theorem Dl:eB Tryz.prog 248=some ⟨true,65,[.int .u8 0,.int .u8 0,.int .u8 0,.int .u8 0,.int .u8 0,.int .u8 0,.int .u8 0,.int .u8 0,.int .u8 0,.int .u8 0,.int .u8 0,.int .u8 0,.int .u8 0,.int .u8 0,.int .u8 0,.int .u8 0,.int .u8 0,.int .u8 0,.int .u8 0,.int .u8 0,.int .u8 0,.int .u8 0,.int .u8 0,.int .u8 0,.int .u8 0,.int .u8 0,.int .u8 0,.int .u8 0,.int .u8 0,.int .u8 0,.int .u8 0,.int .u8 0,.int .u8 0,.int .u8 0,.int .u8 0,.int .u8 0,.int .u8 0,.int .u8 0,.int .u8 0,.int .u8 0,.int .u8 0,.int .u8 0,.int .u8 0,.int .u8 0,.int .u8 0,.int .u8 0,.int .u8 0,.int .u8 0,.int .u8 0,.int .u8 0,.int .u8 0,.int .u8 0,.int .u8 0,.int .u8 0,.int .u8 0,.int .u8 0,.int .u8 0,.int .u8 0,.int .u8 0,.int .u8 0,.int .u8 0,.int .u8 0,.int .u8 0,.int .u8 0,.int .u8 0],.arr 65 5 1 false⟩:=by kernel_rfl
theorem Dk:eB Tryz.prog 249=some ⟨false,1,[.slice none 0 0],.slice 188 1 24 [.slice none 0 0]⟩:=by kernel_rfl
theorem EC:zB Tryz.prog 249=.slice 188 1 24 [.slice none 0 0]:=by kernel_rfl
theorem Dj:eB Tryz.prog 263=some ⟨true,64,[.int .u8 0,.int .u8 0,.int .u8 0,.int .u8 0,.int .u8 0,.int .u8 0,.int .u8 0,.int .u8 0,.int .u8 0,.int .u8 0,.int .u8 0,.int .u8 0,.int .u8 0,.int .u8 0,.int .u8 0,.int .u8 0,.int .u8 0,.int .u8 0,.int .u8 0,.int .u8 0,.int .u8 0,.int .u8 0,.int .u8 0,.int .u8 0,.int .u8 0,.int .u8 0,.int .u8 0,.int .u8 0,.int .u8 0,.int .u8 0,.int .u8 0,.int .u8 0,.int .u8 0,.int .u8 0,.int .u8 0,.int .u8 0,.int .u8 0,.int .u8 0,.int .u8 0,.int .u8 0,.int .u8 0,.int .u8 0,.int .u8 0,.int .u8 0,.int .u8 0,.int .u8 0,.int .u8 0,.int .u8 0,.int .u8 0,.int .u8 0,.int .u8 0,.int .u8 0,.int .u8 0,.int .u8 0,.int .u8 0,.int .u8 0,.int .u8 0,.int .u8 0,.int .u8 0,.int .u8 0,.int .u8 0,.int .u8 0,.int .u8 0,.int .u8 0],.arr 64 5 1 false⟩:=by kernel_rfl
theorem QF:mC Tryz.prog 9=.tk .str:=by kernel_rfl
theorem Ey:mC Tryz.prog 100=.ks [.i .i64,.s]:=by kernel_rfl
theorem Ex:mC Tryz.prog 153=.ks [.i .i64,.s]:=by kernel_rfl
theorem P4:uD Tryz.prog 3=false:=by kernel_rfl
theorem P3:uD Tryz.prog 4=false:=by kernel_rfl
theorem P0:uD Tryz.prog 9=false:=by kernel_rfl
theorem Ih:uD Tryz.prog 61=true:=by kernel_rfl
theorem Ig:uD Tryz.prog 63=true:=by kernel_rfl
theorem Ie:uD Tryz.prog 65=true:=by kernel_rfl
theorem Ic:uD Tryz.prog 84=true:=by kernel_rfl
theorem Q1:py Tryz.prog 7=some [.i .i64,.i .i64,.b,.i .u8]:=by kernel_rfl
theorem Q7:eV Tryz.prog 7=true:=by kernel_rfl
theorem Q0:py Tryz.prog 8=some [.i .i64,.i .i64,.b,.i .u8]:=by kernel_rfl
theorem Q6:eV Tryz.prog 8=true:=by kernel_rfl
theorem LM:py Tryz.prog 49=some [.b,.b]:=by kernel_rfl
theorem L7:eV Tryz.prog 49=true:=by kernel_rfl
theorem LL:py Tryz.prog 50=some [.b,.b]:=by kernel_rfl
theorem L6:eV Tryz.prog 50=true:=by kernel_rfl
theorem LK:py Tryz.prog 61=some [.s,.s,.b]:=by kernel_rfl
theorem L5:eV Tryz.prog 61=true:=by kernel_rfl
theorem LJ:py Tryz.prog 63=some [.s,.s]:=by kernel_rfl
theorem L4:eV Tryz.prog 63=true:=by kernel_rfl
theorem LI:py Tryz.prog 64=some [.s,.s,.b,.b]:=by kernel_rfl
theorem L3:eV Tryz.prog 64=true:=by kernel_rfl
theorem LH:py Tryz.prog 66=some [.i .i64,.s,.s,.b,.s,.s,.s,.s,.b,.b]:=by kernel_rfl
theorem L0:eV Tryz.prog 66=true:=by kernel_rfl
theorem LG:py Tryz.prog 67=some [.i .i64,.s,.s,.b,.s,.s,.s,.s,.b,.b]:=by kernel_rfl
theorem LZ:eV Tryz.prog 67=true:=by kernel_rfl
theorem LF:py Tryz.prog 84=some [.s,.i .i64,.s,.s,.s]:=by kernel_rfl
theorem LY:eV Tryz.prog 84=true:=by kernel_rfl
theorem LD:py Tryz.prog 99=some [.i .i64,.s]:=by kernel_rfl
theorem LX:eV Tryz.prog 99=true:=by kernel_rfl
theorem Fi:py Tryz.prog 100=some [.i .i64,.s]:=by kernel_rfl
theorem FH:eV Tryz.prog 100=true:=by kernel_rfl
attribute [go_sem] Qp QP Qo QO Qn QN Qm QM Ql QL Qk QK Qj QJ Qi QI Qh QH Qg QG J4 Ly J3 Lx J2 Lv J1 Lu J0 Lt JZ Ls JY Lr
attribute [go_sem] JX Lq JW Lp JV Lo JU Ln JT Lm JS Ll JR Lk JQ Lj JP Li JO Lh JN Lg JM Lf JL Le JK Ld JJ Lc JI Lb JH La
attribute [go_sem] JG KZ JF KY JE KX JD KW JC KV JB KU JA KT Jz KS Jy KQ Jx KP Jw KN Jv KM Ju KL Jt KK Js KJ Jr KI Jq KH
attribute [go_sem] Jp KG Jo KF Jn KE Jm KD Jl KC Jk KB Jj KA Ji Kz Jh Ky Jg Kx
attribute [go_sem] Jf Kw Je Kv Jd Ku Jc Kt Jb Ks DZ E9 DY E8 DX E7 DW E6 DV E5 DU E4 DT E3
attribute [go_sem] DS E1 DQ E0 DP EZ DO EY DN EX DM EW DL EV DK EU DJ ET DI DH DG
attribute [go_sem] DF ES DE ER DD EQ EP
attribute [go_sem] DB DA EO EN Dz EM Dy EL Dx EK
attribute [go_sem] Dw EJ Dv EI Du Ds EH Dq EG
attribute [go_sem] Dp EF
attribute [go_sem] Do Dn EE Dm ED
attribute [go_sem] Dl Dk EC Dj
attribute [go_sem] QF Ey Ex P4 P3 P0
attribute [go_sem] Ih Ig Ie Ic
attribute [go_sem] Q1 Q7 Q0 Q6 LM L7 LL L6 LK
attribute [go_sem] L5 LJ L4 LI L3 LH L0 LG LZ LF LY LD LX Fi FH
end Go.Proofs.YtpcihjdidhpbbaaGreatDoor
