/- What the program's types are, as the machine reads them. -/
import Derived.Test.YteofmaagnphonaaGreatDoorVc3
import Derived.Test.YteofmaagnphonaaGreatDoorProg
import Derived.KernelRfl
open List
namespace Go.Proofs.YteofmaagnphonaaGreatDoor
open Go.Vc
theorem XG:ex Tryz.prog 0=some ⟨false,1,[.tuple #[]],.other⟩:=by kernel_rfl
theorem X4:zo Tryz.prog 0=.other:=by kernel_rfl
theorem XF:ex Tryz.prog 1=some ⟨false,1,[.nilFunc],.other⟩:=by kernel_rfl
theorem X3:zo Tryz.prog 1=.other:=by kernel_rfl
theorem XE:ex Tryz.prog 2=some ⟨false,1,[.int .i64 0],.int .i64⟩:=by kernel_rfl
theorem X2:zo Tryz.prog 2=.int .i64:=by kernel_rfl
theorem XD:ex Tryz.prog 3=some ⟨false,1,[.int .i64 0],.int .i64⟩:=by kernel_rfl
theorem X1:zo Tryz.prog 3=.int .i64:=by kernel_rfl
theorem XC:ex Tryz.prog 4=some ⟨false,1,[.bool false],.bool⟩:=by kernel_rfl
theorem X0:zo Tryz.prog 4=.bool:=by kernel_rfl
theorem XB:ex Tryz.prog 5=some ⟨false,1,[.int .u8 0],.int .u8⟩:=by kernel_rfl
theorem XZ:zo Tryz.prog 5=.int .u8:=by kernel_rfl
theorem XA:ex Tryz.prog 6=some ⟨false,1,[.int .u8 0],.int .u8⟩:=by kernel_rfl
theorem XY:zo Tryz.prog 6=.int .u8:=by kernel_rfl
theorem Xz:ex Tryz.prog 7=some ⟨true,4,[.int .i64 0,.int .i64 0,.bool false,.int .u8 0],.struct [(0,1,false),(1,1,false),(2,1,false),(3,1,false)]⟩:=by kernel_rfl
theorem XX:zo Tryz.prog 7=.struct [(0,1,false),(1,1,false),(2,1,false),(3,1,false)]:=by kernel_rfl
theorem Xy:ex Tryz.prog 8=some ⟨true,4,[.int .i64 0,.int .i64 0,.bool false,.int .u8 0],.struct [(0,1,false),(1,1,false),(2,1,false),(3,1,false)]⟩:=by kernel_rfl
theorem XW:zo Tryz.prog 8=.struct [(0,1,false),(1,1,false),(2,1,false),(3,1,false)]:=by kernel_rfl
theorem Xx:ex Tryz.prog 9=some ⟨false,1,[.string ⟨#[]⟩],.str⟩:=by kernel_rfl
theorem XV:zo Tryz.prog 9=.str:=by kernel_rfl
theorem Q7:ex Tryz.prog 10=some ⟨false,1,[.string ⟨#[]⟩],.str⟩:=by kernel_rfl
theorem SW:zo Tryz.prog 10=.str:=by kernel_rfl
theorem Q6:ex Tryz.prog 11=some ⟨false,1,[.string ⟨#[]⟩],.str⟩:=by kernel_rfl
theorem SV:zo Tryz.prog 11=.str:=by kernel_rfl
theorem Q5:ex Tryz.prog 12=some ⟨false,1,[.int .u64 0],.int .u64⟩:=by kernel_rfl
theorem SU:zo Tryz.prog 12=.int .u64:=by kernel_rfl
theorem Q4:ex Tryz.prog 13=some ⟨true,2,[.string ⟨#[]⟩,.int .u64 0],.struct [(0,1,false),(1,1,false)]⟩:=by kernel_rfl
theorem SS:zo Tryz.prog 13=.struct [(0,1,false),(1,1,false)]:=by kernel_rfl
theorem Q3:ex Tryz.prog 14=some ⟨true,2,[.string ⟨#[]⟩,.int .u64 0],.struct [(0,1,false),(1,1,false)]⟩:=by kernel_rfl
theorem SR:zo Tryz.prog 14=.struct [(0,1,false),(1,1,false)]:=by kernel_rfl
theorem Q2:ex Tryz.prog 15=some ⟨false,1,[.pointer none],.ptr 275⟩:=by kernel_rfl
theorem SQ:zo Tryz.prog 15=.ptr 275:=by kernel_rfl
theorem Q1:ex Tryz.prog 16=some ⟨false,1,[.pointer none],.ptr 278⟩:=by kernel_rfl
theorem SP:zo Tryz.prog 16=.ptr 278:=by kernel_rfl
theorem Q0:ex Tryz.prog 17=some ⟨false,1,[.pointer none],.ptr 285⟩:=by kernel_rfl
theorem SO:zo Tryz.prog 17=.ptr 285:=by kernel_rfl
theorem QZ:ex Tryz.prog 18=some ⟨true,1,[.pointer none],.struct [(0,1,false)]⟩:=by kernel_rfl
theorem SN:zo Tryz.prog 18=.struct [(0,1,false)]:=by kernel_rfl
theorem QY:ex Tryz.prog 19=some ⟨true,1,[.pointer none],.struct [(0,1,false)]⟩:=by kernel_rfl
theorem SM:zo Tryz.prog 19=.struct [(0,1,false)]:=by kernel_rfl
theorem QX:ex Tryz.prog 20=some ⟨false,1,[.nilIface],.other⟩:=by kernel_rfl
theorem SL:zo Tryz.prog 20=.other:=by kernel_rfl
theorem QW:ex Tryz.prog 21=some ⟨false,1,[.int .i32 0],.int .i32⟩:=by kernel_rfl
theorem SK:zo Tryz.prog 21=.int .i32:=by kernel_rfl
theorem QV:ex Tryz.prog 22=some ⟨false,1,[.slice none 0 0],.slice 70 2 32 [.string ⟨#[]⟩,.string ⟨#[]⟩]⟩:=by kernel_rfl
theorem SJ:zo Tryz.prog 22=.slice 70 2 32 [.string ⟨#[]⟩,.string ⟨#[]⟩]:=by kernel_rfl
theorem QU:ex Tryz.prog 23=some ⟨false,1,[.slice none 0 0],.slice 68 3 40 [.string ⟨#[]⟩,.string ⟨#[]⟩,.bool false]⟩:=by kernel_rfl
theorem SI:zo Tryz.prog 23=.slice 68 3 40 [.string ⟨#[]⟩,.string ⟨#[]⟩,.bool false]:=by kernel_rfl
theorem QT:ex Tryz.prog 24=some ⟨false,1,[.slice none 0 0],.slice 72 4 40 [.string ⟨#[]⟩,.string ⟨#[]⟩,.bool false,.bool false]⟩:=by kernel_rfl
theorem SH:zo Tryz.prog 24=.slice 72 4 40 [.string ⟨#[]⟩,.string ⟨#[]⟩,.bool false,.bool false]:=by kernel_rfl
theorem QS:ex Tryz.prog 25=some ⟨true,4,[.slice none 0 0,.slice none 0 0,.slice none 0 0,.slice none 0 0],.struct [(0,1,false),(1,1,false),(2,1,false),(3,1,false)]⟩:=by kernel_rfl
theorem SG:zo Tryz.prog 25=.struct [(0,1,false),(1,1,false),(2,1,false),(3,1,false)]:=by kernel_rfl
theorem QR:ex Tryz.prog 26=some ⟨true,4,[.slice none 0 0,.slice none 0 0,.slice none 0 0,.slice none 0 0],.struct [(0,1,false),(1,1,false),(2,1,false),(3,1,false)]⟩:=by kernel_rfl
theorem SF:zo Tryz.prog 26=.struct [(0,1,false),(1,1,false),(2,1,false),(3,1,false)]:=by kernel_rfl
theorem QQ:ex Tryz.prog 27=some ⟨false,1,[.slice none 0 0],.slice 60 6 80 [.int .i64 0,.string ⟨#[]⟩,.slice none 0 0,.bool false,.bool false,.slice none 0 0]⟩:=by kernel_rfl
theorem SE:zo Tryz.prog 27=.slice 60 6 80 [.int .i64 0,.string ⟨#[]⟩,.slice none 0 0,.bool false,.bool false,.slice none 0 0]:=by kernel_rfl
theorem QP:ex Tryz.prog 28=some ⟨true,5,[.string ⟨#[]⟩,.int .i64 0,.string ⟨#[]⟩,.string ⟨#[]⟩,.string ⟨#[]⟩],.struct [(0,1,false),(1,1,false),(2,1,false),(3,1,false),(4,1,false)]⟩:=by kernel_rfl
theorem SD:zo Tryz.prog 28=.struct [(0,1,false),(1,1,false),(2,1,false),(3,1,false),(4,1,false)]:=by kernel_rfl
theorem QO:ex Tryz.prog 29=some ⟨true,5,[.string ⟨#[]⟩,.int .i64 0,.string ⟨#[]⟩,.string ⟨#[]⟩,.string ⟨#[]⟩],.struct [(0,1,false),(1,1,false),(2,1,false),(3,1,false),(4,1,false)]⟩:=by kernel_rfl
theorem SC:zo Tryz.prog 29=.struct [(0,1,false),(1,1,false),(2,1,false),(3,1,false),(4,1,false)]:=by kernel_rfl
theorem QN:ex Tryz.prog 30=some ⟨false,1,[.nilFunc],.other⟩:=by kernel_rfl
theorem SB:zo Tryz.prog 30=.other:=by kernel_rfl
theorem QM:ex Tryz.prog 31=some ⟨false,1,[.slice none 0 0],.slice 29 5 72 [.string ⟨#[]⟩,.int .i64 0,.string ⟨#[]⟩,.string ⟨#[]⟩,.string ⟨#[]⟩]⟩:=by kernel_rfl
theorem SA:zo Tryz.prog 31=.slice 29 5 72 [.string ⟨#[]⟩,.int .i64 0,.string ⟨#[]⟩,.string ⟨#[]⟩,.string ⟨#[]⟩]:=by kernel_rfl
theorem QL:ex Tryz.prog 32=some ⟨true,1,[.slice none 0 0],.struct [(0,1,false)]⟩:=by kernel_rfl
theorem Sy:zo Tryz.prog 32=.struct [(0,1,false)]:=by kernel_rfl
theorem QK:ex Tryz.prog 33=some ⟨true,1,[.slice none 0 0],.struct [(0,1,false)]⟩:=by kernel_rfl
theorem Sx:zo Tryz.prog 33=.struct [(0,1,false)]:=by kernel_rfl
theorem QJ:ex Tryz.prog 35=some ⟨false,1,[.nilFunc],.other⟩:=by kernel_rfl
theorem Sw:zo Tryz.prog 35=.other:=by kernel_rfl
theorem QI:ex Tryz.prog 36=some ⟨false,1,[.nilFunc],.other⟩:=by kernel_rfl
theorem Sv:zo Tryz.prog 36=.other:=by kernel_rfl
theorem QH:ex Tryz.prog 37=some ⟨false,1,[.nilFunc],.other⟩:=by kernel_rfl
theorem Su:zo Tryz.prog 37=.other:=by kernel_rfl
theorem QG:ex Tryz.prog 38=some ⟨false,1,[.int .i64 0],.int .i64⟩:=by kernel_rfl
theorem Ss:zo Tryz.prog 38=.int .i64:=by kernel_rfl
theorem QF:ex Tryz.prog 40=some ⟨false,1,[.nilFunc],.other⟩:=by kernel_rfl
theorem Sr:zo Tryz.prog 40=.other:=by kernel_rfl
theorem QE:ex Tryz.prog 41=some ⟨false,1,[.slice none 0 0],.slice 46 4 48 [.string ⟨#[]⟩,.string ⟨#[]⟩,.int .i64 0,.int .i64 0]⟩:=by kernel_rfl
theorem Sq:zo Tryz.prog 41=.slice 46 4 48 [.string ⟨#[]⟩,.string ⟨#[]⟩,.int .i64 0,.int .i64 0]:=by kernel_rfl
theorem QD:ex Tryz.prog 43=some ⟨false,1,[.nilFunc],.other⟩:=by kernel_rfl
theorem Sp:zo Tryz.prog 43=.other:=by kernel_rfl
theorem QC:ex Tryz.prog 44=some ⟨false,1,[.nilFunc],.other⟩:=by kernel_rfl
theorem So:zo Tryz.prog 44=.other:=by kernel_rfl
theorem QB:ex Tryz.prog 45=some ⟨true,4,[.string ⟨#[]⟩,.string ⟨#[]⟩,.int .i64 0,.int .i64 0],.struct [(0,1,false),(1,1,false),(2,1,false),(3,1,false)]⟩:=by kernel_rfl
theorem Sn:zo Tryz.prog 45=.struct [(0,1,false),(1,1,false),(2,1,false),(3,1,false)]:=by kernel_rfl
theorem QA:ex Tryz.prog 46=some ⟨true,4,[.string ⟨#[]⟩,.string ⟨#[]⟩,.int .i64 0,.int .i64 0],.struct [(0,1,false),(1,1,false),(2,1,false),(3,1,false)]⟩:=by kernel_rfl
theorem Sl:zo Tryz.prog 46=.struct [(0,1,false),(1,1,false),(2,1,false),(3,1,false)]:=by kernel_rfl
theorem Qz:ex Tryz.prog 47=some ⟨false,1,[.nilFunc],.other⟩:=by kernel_rfl
theorem Sk:zo Tryz.prog 47=.other:=by kernel_rfl
theorem Qy:ex Tryz.prog 48=some ⟨false,1,[.slice none 0 0],.slice 9 1 16 [.string ⟨#[]⟩]⟩:=by kernel_rfl
theorem Sj:zo Tryz.prog 48=.slice 9 1 16 [.string ⟨#[]⟩]:=by kernel_rfl
theorem Qx:ex Tryz.prog 50=some ⟨false,1,[.nilFunc],.other⟩:=by kernel_rfl
theorem Si:zo Tryz.prog 50=.other:=by kernel_rfl
theorem Qw:ex Tryz.prog 51=some ⟨false,1,[.nilFunc],.other⟩:=by kernel_rfl
theorem Sg:zo Tryz.prog 51=.other:=by kernel_rfl
theorem Qv:ex Tryz.prog 52=some ⟨false,1,[.nilFunc],.other⟩:=by kernel_rfl
theorem Sf:zo Tryz.prog 52=.other:=by kernel_rfl
theorem Qu:ex Tryz.prog 53=some ⟨false,1,[.nilFunc],.other⟩:=by kernel_rfl
theorem Se:zo Tryz.prog 53=.other:=by kernel_rfl
theorem Qs:ex Tryz.prog 54=some ⟨false,1,[.nilFunc],.other⟩:=by kernel_rfl
theorem Sd:zo Tryz.prog 54=.other:=by kernel_rfl
theorem Qr:ex Tryz.prog 55=some ⟨false,1,[.slice none 0 0],.slice 109 10 120 [.int .i64 0,.string ⟨#[]⟩,.string ⟨#[]⟩,.bool false,.string ⟨#[]⟩,.string ⟨#[]⟩,.string ⟨#[]⟩,.string ⟨#[]⟩,.bool false,.bool false]⟩:=by kernel_rfl
theorem Sb:zo Tryz.prog 55=.slice 109 10 120 [.int .i64 0,.string ⟨#[]⟩,.string ⟨#[]⟩,.bool false,.string ⟨#[]⟩,.string ⟨#[]⟩,.string ⟨#[]⟩,.string ⟨#[]⟩,.bool false,.bool false]:=by kernel_rfl
theorem Qq:ex Tryz.prog 56=some ⟨true,2,[.bool false,.bool false],.struct [(0,1,false),(1,1,false)]⟩:=by kernel_rfl
theorem Sa:zo Tryz.prog 56=.struct [(0,1,false),(1,1,false)]:=by kernel_rfl
theorem Qp:ex Tryz.prog 57=some ⟨true,2,[.bool false,.bool false],.struct [(0,1,false),(1,1,false)]⟩:=by kernel_rfl
theorem R9:zo Tryz.prog 57=.struct [(0,1,false),(1,1,false)]:=by kernel_rfl
theorem Qo:ex Tryz.prog 58=some ⟨false,1,[.slice none 0 0],.slice 74 10 120 [.int .i64 0,.string ⟨#[]⟩,.string ⟨#[]⟩,.bool false,.string ⟨#[]⟩,.string ⟨#[]⟩,.string ⟨#[]⟩,.string ⟨#[]⟩,.bool false,.bool false]⟩:=by kernel_rfl
theorem R8:zo Tryz.prog 58=.slice 74 10 120 [.int .i64 0,.string ⟨#[]⟩,.string ⟨#[]⟩,.bool false,.string ⟨#[]⟩,.string ⟨#[]⟩,.string ⟨#[]⟩,.string ⟨#[]⟩,.bool false,.bool false]:=by kernel_rfl
theorem Qn:ex Tryz.prog 59=some ⟨true,6,[.int .i64 0,.string ⟨#[]⟩,.slice none 0 0,.bool false,.bool false,.slice none 0 0],.struct [(0,1,false),(1,1,false),(2,1,false),(3,2,true),(5,1,false)]⟩:=by kernel_rfl
theorem R7:zo Tryz.prog 59=.struct [(0,1,false),(1,1,false),(2,1,false),(3,2,true),(5,1,false)]:=by kernel_rfl
theorem Qm:ex Tryz.prog 60=some ⟨true,6,[.int .i64 0,.string ⟨#[]⟩,.slice none 0 0,.bool false,.bool false,.slice none 0 0],.struct [(0,1,false),(1,1,false),(2,1,false),(3,2,true),(5,1,false)]⟩:=by kernel_rfl
theorem R6:zo Tryz.prog 60=.struct [(0,1,false),(1,1,false),(2,1,false),(3,2,true),(5,1,false)]:=by kernel_rfl
theorem Ql:ex Tryz.prog 61=some ⟨false,1,[.slice none 0 0],.slice 189 2 24 [.int .i64 0,.string ⟨#[]⟩]⟩:=by kernel_rfl
theorem R5:zo Tryz.prog 61=.slice 189 2 24 [.int .i64 0,.string ⟨#[]⟩]:=by kernel_rfl
theorem Qk:ex Tryz.prog 62=some ⟨true,3,[.slice none 0 0,.slice none 0 0,.slice none 0 0],.struct [(0,1,false),(1,1,true),(2,1,false)]⟩:=by kernel_rfl
theorem R4:zo Tryz.prog 62=.struct [(0,1,false),(1,1,true),(2,1,false)]:=by kernel_rfl
theorem Qj:ex Tryz.prog 63=some ⟨true,3,[.slice none 0 0,.slice none 0 0,.slice none 0 0],.struct [(0,1,false),(1,1,true),(2,1,false)]⟩:=by kernel_rfl
theorem R3:zo Tryz.prog 63=.struct [(0,1,false),(1,1,true),(2,1,false)]:=by kernel_rfl
theorem Qi:ex Tryz.prog 65=some ⟨false,1,[.nilFunc],.other⟩:=by kernel_rfl
theorem R2:zo Tryz.prog 65=.other:=by kernel_rfl
theorem Qh:ex Tryz.prog 66=some ⟨false,1,[.nilFunc],.other⟩:=by kernel_rfl
theorem R1:zo Tryz.prog 66=.other:=by kernel_rfl
theorem Qg:ex Tryz.prog 67=some ⟨true,3,[.string ⟨#[]⟩,.string ⟨#[]⟩,.bool false],.struct [(0,1,false),(1,1,false),(2,1,false)]⟩:=by kernel_rfl
theorem R0:zo Tryz.prog 67=.struct [(0,1,false),(1,1,false),(2,1,false)]:=by kernel_rfl
theorem Qf:ex Tryz.prog 68=some ⟨true,3,[.string ⟨#[]⟩,.string ⟨#[]⟩,.bool false],.struct [(0,1,false),(1,1,false),(2,1,false)]⟩:=by kernel_rfl
theorem RZ:zo Tryz.prog 68=.struct [(0,1,false),(1,1,false),(2,1,false)]:=by kernel_rfl
theorem Qe:ex Tryz.prog 69=some ⟨true,2,[.string ⟨#[]⟩,.string ⟨#[]⟩],.struct [(0,1,false),(1,1,false)]⟩:=by kernel_rfl
theorem RY:zo Tryz.prog 69=.struct [(0,1,false),(1,1,false)]:=by kernel_rfl
theorem Qd:ex Tryz.prog 70=some ⟨true,2,[.string ⟨#[]⟩,.string ⟨#[]⟩],.struct [(0,1,false),(1,1,false)]⟩:=by kernel_rfl
theorem RX:zo Tryz.prog 70=.struct [(0,1,false),(1,1,false)]:=by kernel_rfl
theorem Qc:ex Tryz.prog 71=some ⟨true,4,[.string ⟨#[]⟩,.string ⟨#[]⟩,.bool false,.bool false],.struct [(0,1,false),(1,1,false),(2,1,false),(3,1,false)]⟩:=by kernel_rfl
theorem RW:zo Tryz.prog 71=.struct [(0,1,false),(1,1,false),(2,1,false),(3,1,false)]:=by kernel_rfl
theorem Qb:ex Tryz.prog 72=some ⟨true,4,[.string ⟨#[]⟩,.string ⟨#[]⟩,.bool false,.bool false],.struct [(0,1,false),(1,1,false),(2,1,false),(3,1,false)]⟩:=by kernel_rfl
theorem RV:zo Tryz.prog 72=.struct [(0,1,false),(1,1,false),(2,1,false),(3,1,false)]:=by kernel_rfl
theorem Qa:ex Tryz.prog 73=some ⟨true,10,[.int .i64 0,.string ⟨#[]⟩,.string ⟨#[]⟩,.bool false,.string ⟨#[]⟩,.string ⟨#[]⟩,.string ⟨#[]⟩,.string ⟨#[]⟩,.bool false,.bool false],.struct [(0,1,false),(1,3,true),(4,2,true),(6,4,true)]⟩:=by kernel_rfl
theorem RU:zo Tryz.prog 73=.struct [(0,1,false),(1,3,true),(4,2,true),(6,4,true)]:=by kernel_rfl
theorem P9:ex Tryz.prog 74=some ⟨true,10,[.int .i64 0,.string ⟨#[]⟩,.string ⟨#[]⟩,.bool false,.string ⟨#[]⟩,.string ⟨#[]⟩,.string ⟨#[]⟩,.string ⟨#[]⟩,.bool false,.bool false],.struct [(0,1,false),(1,3,true),(4,2,true),(6,4,true)]⟩:=by kernel_rfl
theorem RT:zo Tryz.prog 74=.struct [(0,1,false),(1,3,true),(4,2,true),(6,4,true)]:=by kernel_rfl
theorem P8:ex Tryz.prog 76=some ⟨false,1,[.nilFunc],.other⟩:=by kernel_rfl
theorem RS:zo Tryz.prog 76=.other:=by kernel_rfl
theorem P7:ex Tryz.prog 77=some ⟨false,1,[.nilFunc],.other⟩:=by kernel_rfl
theorem RR:zo Tryz.prog 77=.other:=by kernel_rfl
theorem P6:ex Tryz.prog 79=some ⟨false,1,[.nilFunc],.other⟩:=by kernel_rfl
theorem RQ:zo Tryz.prog 79=.other:=by kernel_rfl
theorem P5:ex Tryz.prog 80=some ⟨false,1,[.nilFunc],.other⟩:=by kernel_rfl
theorem RP:zo Tryz.prog 80=.other:=by kernel_rfl
theorem P4:ex Tryz.prog 81=some ⟨false,1,[.nilFunc],.other⟩:=by kernel_rfl
theorem RN:zo Tryz.prog 81=.other:=by kernel_rfl
theorem P3:ex Tryz.prog 82=some ⟨false,1,[.nilFunc],.other⟩:=by kernel_rfl
theorem RM:zo Tryz.prog 82=.other:=by kernel_rfl
theorem P0:ex Tryz.prog 83=some ⟨false,1,[.nilFunc],.other⟩:=by kernel_rfl
theorem RL:zo Tryz.prog 83=.other:=by kernel_rfl
theorem PZ:ex Tryz.prog 84=some ⟨false,1,[.nilFunc],.other⟩:=by kernel_rfl
theorem RK:zo Tryz.prog 84=.other:=by kernel_rfl
theorem PY:ex Tryz.prog 85=some ⟨false,1,[.nilFunc],.other⟩:=by kernel_rfl
theorem RJ:zo Tryz.prog 85=.other:=by kernel_rfl
theorem PX:ex Tryz.prog 86=some ⟨false,1,[.nilFunc],.other⟩:=by kernel_rfl
theorem RI:zo Tryz.prog 86=.other:=by kernel_rfl
theorem PW:ex Tryz.prog 87=some ⟨false,1,[.nilFunc],.other⟩:=by kernel_rfl
theorem RH:zo Tryz.prog 87=.other:=by kernel_rfl
theorem PV:ex Tryz.prog 88=some ⟨false,1,[.pointer none],.ptr 150⟩:=by kernel_rfl
theorem RG:zo Tryz.prog 88=.ptr 150:=by kernel_rfl
theorem PU:ex Tryz.prog 89=some ⟨false,1,[.nilFunc],.other⟩:=by kernel_rfl
theorem RF:zo Tryz.prog 89=.other:=by kernel_rfl
theorem PT:ex Tryz.prog 90=some ⟨false,1,[.nilFunc],.other⟩:=by kernel_rfl
theorem RE:zo Tryz.prog 90=.other:=by kernel_rfl
theorem PS:ex Tryz.prog 91=some ⟨false,1,[.nilFunc],.other⟩:=by kernel_rfl
theorem RD:zo Tryz.prog 91=.other:=by kernel_rfl
theorem PR:ex Tryz.prog 92=some ⟨false,1,[.pointer none],.ptr 163⟩:=by kernel_rfl
theorem RC:zo Tryz.prog 92=.ptr 163:=by kernel_rfl
theorem PQ:ex Tryz.prog 93=some ⟨false,1,[.nilFunc],.other⟩:=by kernel_rfl
theorem RB:zo Tryz.prog 93=.other:=by kernel_rfl
theorem PP:ex Tryz.prog 94=some ⟨false,1,[.nilFunc],.other⟩:=by kernel_rfl
theorem Rz:zo Tryz.prog 94=.other:=by kernel_rfl
theorem PO:ex Tryz.prog 95=some ⟨false,1,[.nilFunc],.other⟩:=by kernel_rfl
theorem Ry:zo Tryz.prog 95=.other:=by kernel_rfl
theorem PN:ex Tryz.prog 96=some ⟨false,1,[.map none],.map 9 4⟩:=by kernel_rfl
theorem Rx:zo Tryz.prog 96=.map 9 4:=by kernel_rfl
theorem PM:ex Tryz.prog 97=some ⟨false,1,[.nilFunc],.other⟩:=by kernel_rfl
theorem Rw:zo Tryz.prog 97=.other:=by kernel_rfl
theorem PL:ex Tryz.prog 98=some ⟨false,1,[.nilFunc],.other⟩:=by kernel_rfl
theorem Rv:zo Tryz.prog 98=.other:=by kernel_rfl
theorem PK:ex Tryz.prog 99=some ⟨false,1,[.nilFunc],.other⟩:=by kernel_rfl
theorem Ru:zo Tryz.prog 99=.other:=by kernel_rfl
theorem G6:ex Tryz.prog 100=some ⟨false,1,[.nilFunc],.other⟩:=by kernel_rfl
theorem JN:zo Tryz.prog 100=.other:=by kernel_rfl
theorem G5:ex Tryz.prog 101=some ⟨false,1,[.nilFunc],.other⟩:=by kernel_rfl
theorem JM:zo Tryz.prog 101=.other:=by kernel_rfl
theorem G4:ex Tryz.prog 102=some ⟨false,1,[.nilFunc],.other⟩:=by kernel_rfl
theorem JL:zo Tryz.prog 102=.other:=by kernel_rfl
theorem G3:ex Tryz.prog 103=some ⟨false,1,[.nilFunc],.other⟩:=by kernel_rfl
theorem JK:zo Tryz.prog 103=.other:=by kernel_rfl
theorem GZ:ex Tryz.prog 104=some ⟨false,1,[.nilFunc],.other⟩:=by kernel_rfl
theorem JJ:zo Tryz.prog 104=.other:=by kernel_rfl
theorem GY:ex Tryz.prog 105=some ⟨false,1,[.nilFunc],.other⟩:=by kernel_rfl
theorem JI:zo Tryz.prog 105=.other:=by kernel_rfl
theorem GX:ex Tryz.prog 106=some ⟨false,1,[.pointer none],.ptr 108⟩:=by kernel_rfl
theorem JH:zo Tryz.prog 106=.ptr 108:=by kernel_rfl
theorem GW:ex Tryz.prog 107=some ⟨true,6,[.pointer none,.slice none 0 0,.slice none 0 0,.slice none 0 0,.slice none 0 0,.int .i64 0],.struct [(0,1,false),(1,1,false),(2,3,true),(5,1,false)]⟩:=by kernel_rfl
theorem JG:zo Tryz.prog 107=.struct [(0,1,false),(1,1,false),(2,3,true),(5,1,false)]:=by kernel_rfl
theorem GV:ex Tryz.prog 108=some ⟨true,6,[.pointer none,.slice none 0 0,.slice none 0 0,.slice none 0 0,.slice none 0 0,.int .i64 0],.struct [(0,1,false),(1,1,false),(2,3,true),(5,1,false)]⟩:=by kernel_rfl
theorem JF:zo Tryz.prog 108=.struct [(0,1,false),(1,1,false),(2,3,true),(5,1,false)]:=by kernel_rfl
theorem GU:ex Tryz.prog 109=some ⟨true,10,[.int .i64 0,.string ⟨#[]⟩,.string ⟨#[]⟩,.bool false,.string ⟨#[]⟩,.string ⟨#[]⟩,.string ⟨#[]⟩,.string ⟨#[]⟩,.bool false,.bool false],.struct [(0,1,false),(1,3,true),(4,2,true),(6,4,true)]⟩:=by kernel_rfl
theorem JE:zo Tryz.prog 109=.struct [(0,1,false),(1,3,true),(4,2,true),(6,4,true)]:=by kernel_rfl
theorem GS:ex Tryz.prog 110=some ⟨false,1,[.nilFunc],.other⟩:=by kernel_rfl
theorem JD:zo Tryz.prog 110=.other:=by kernel_rfl
theorem GR:ex Tryz.prog 111=some ⟨false,1,[.nilFunc],.other⟩:=by kernel_rfl
theorem JC:zo Tryz.prog 111=.other:=by kernel_rfl
theorem GQ:ex Tryz.prog 112=some ⟨false,1,[.nilFunc],.other⟩:=by kernel_rfl
theorem JB:zo Tryz.prog 112=.other:=by kernel_rfl
theorem GP:ex Tryz.prog 113=some ⟨false,1,[.nilFunc],.other⟩:=by kernel_rfl
theorem JA:zo Tryz.prog 113=.other:=by kernel_rfl
theorem GO:ex Tryz.prog 114=some ⟨false,1,[.nilFunc],.other⟩:=by kernel_rfl
theorem Jz:zo Tryz.prog 114=.other:=by kernel_rfl
theorem GN:ex Tryz.prog 115=some ⟨false,1,[.nilFunc],.other⟩:=by kernel_rfl
theorem Jy:zo Tryz.prog 115=.other:=by kernel_rfl
theorem GM:ex Tryz.prog 116=some ⟨false,1,[.nilFunc],.other⟩:=by kernel_rfl
theorem Jx:zo Tryz.prog 116=.other:=by kernel_rfl
theorem GL:ex Tryz.prog 117=some ⟨false,1,[.nilFunc],.other⟩:=by kernel_rfl
theorem Jw:zo Tryz.prog 117=.other:=by kernel_rfl
theorem GK:ex Tryz.prog 119=some ⟨false,1,[.nilFunc],.other⟩:=by kernel_rfl
theorem Jv:zo Tryz.prog 119=.other:=by kernel_rfl
theorem GJ:ex Tryz.prog 120=some ⟨false,1,[.nilFunc],.other⟩:=by kernel_rfl
theorem Ju:zo Tryz.prog 120=.other:=by kernel_rfl
theorem GI:ex Tryz.prog 121=some ⟨false,1,[.nilFunc],.other⟩:=by kernel_rfl
theorem Jt:zo Tryz.prog 121=.other:=by kernel_rfl
theorem GH:ex Tryz.prog 122=some ⟨false,1,[.nilFunc],.other⟩:=by kernel_rfl
theorem Js:zo Tryz.prog 122=.other:=by kernel_rfl
theorem GG:ex Tryz.prog 123=some ⟨false,1,[.nilFunc],.other⟩:=by kernel_rfl
theorem Jr:zo Tryz.prog 123=.other:=by kernel_rfl
theorem GF:ex Tryz.prog 125=some ⟨false,1,[.nilFunc],.other⟩:=by kernel_rfl
theorem Jq:zo Tryz.prog 125=.other:=by kernel_rfl
theorem GD:ex Tryz.prog 126=some ⟨false,1,[.nilFunc],.other⟩:=by kernel_rfl
theorem Jp:zo Tryz.prog 126=.other:=by kernel_rfl
theorem GC:ex Tryz.prog 127=some ⟨false,1,[.nilFunc],.other⟩:=by kernel_rfl
theorem Jo:zo Tryz.prog 127=.other:=by kernel_rfl
theorem GB:ex Tryz.prog 128=some ⟨false,1,[.nilFunc],.other⟩:=by kernel_rfl
theorem Jn:zo Tryz.prog 128=.other:=by kernel_rfl
theorem GA:ex Tryz.prog 129=some ⟨false,1,[.nilFunc],.other⟩:=by kernel_rfl
theorem Jm:zo Tryz.prog 129=.other:=by kernel_rfl
theorem Gz:ex Tryz.prog 130=some ⟨false,1,[.nilFunc],.other⟩:=by kernel_rfl
theorem Jl:zo Tryz.prog 130=.other:=by kernel_rfl
theorem Gy:ex Tryz.prog 131=some ⟨false,1,[.nilFunc],.other⟩:=by kernel_rfl
theorem Jk:zo Tryz.prog 131=.other:=by kernel_rfl
theorem Gx:ex Tryz.prog 132=some ⟨false,1,[.nilFunc],.other⟩:=by kernel_rfl
theorem Jj:zo Tryz.prog 132=.other:=by kernel_rfl
theorem Gw:ex Tryz.prog 133=some ⟨false,1,[.nilFunc],.other⟩:=by kernel_rfl
theorem Ji:zo Tryz.prog 133=.other:=by kernel_rfl
theorem Gv:ex Tryz.prog 134=some ⟨false,1,[.nilFunc],.other⟩:=by kernel_rfl
theorem Jh:zo Tryz.prog 134=.other:=by kernel_rfl
theorem Gu:ex Tryz.prog 135=some ⟨false,1,[.nilFunc],.other⟩:=by kernel_rfl
theorem Jg:zo Tryz.prog 135=.other:=by kernel_rfl
theorem Gr:ex Tryz.prog 136=some ⟨false,1,[.nilFunc],.other⟩:=by kernel_rfl
theorem Jf:zo Tryz.prog 136=.other:=by kernel_rfl
theorem Gq:ex Tryz.prog 137=some ⟨false,1,[.nilFunc],.other⟩:=by kernel_rfl
theorem Je:zo Tryz.prog 137=.other:=by kernel_rfl
theorem Gp:ex Tryz.prog 138=some ⟨false,1,[.nilFunc],.other⟩:=by kernel_rfl
theorem Jd:zo Tryz.prog 138=.other:=by kernel_rfl
theorem Gn:ex Tryz.prog 139=some ⟨false,1,[.nilFunc],.other⟩:=by kernel_rfl
theorem Jc:zo Tryz.prog 139=.other:=by kernel_rfl
theorem Gm:ex Tryz.prog 140=some ⟨false,1,[.nilFunc],.other⟩:=by kernel_rfl
theorem Jb:zo Tryz.prog 140=.other:=by kernel_rfl
theorem Gl:ex Tryz.prog 141=some ⟨false,1,[.map none],.map 143 29⟩:=by kernel_rfl
theorem Ja:zo Tryz.prog 141=.map 143 29:=by kernel_rfl
theorem Gk:ex Tryz.prog 142=some ⟨true,2,[.int .i64 0,.string ⟨#[]⟩],.struct [(0,1,false),(1,1,false)]⟩:=by kernel_rfl
theorem I9:zo Tryz.prog 142=.struct [(0,1,false),(1,1,false)]:=by kernel_rfl
theorem Gj:ex Tryz.prog 143=some ⟨true,2,[.int .i64 0,.string ⟨#[]⟩],.struct [(0,1,false),(1,1,false)]⟩:=by kernel_rfl
theorem I8:zo Tryz.prog 143=.struct [(0,1,false),(1,1,false)]:=by kernel_rfl
theorem Gi:ex Tryz.prog 144=some ⟨false,1,[.nilFunc],.other⟩:=by kernel_rfl
theorem I7:zo Tryz.prog 144=.other:=by kernel_rfl
theorem Gg:ex Tryz.prog 145=some ⟨false,1,[.map none],.map 9 68⟩:=by kernel_rfl
theorem I6:zo Tryz.prog 145=.map 9 68:=by kernel_rfl
theorem Gf:ex Tryz.prog 146=some ⟨false,1,[.map none],.map 9 3⟩:=by kernel_rfl
theorem I5:zo Tryz.prog 146=.map 9 3:=by kernel_rfl
theorem Ge:ex Tryz.prog 147=some ⟨false,1,[.map none],.map 9 70⟩:=by kernel_rfl
theorem I4:zo Tryz.prog 147=.map 9 70:=by kernel_rfl
theorem Gd:ex Tryz.prog 148=some ⟨false,1,[.map none],.map 9 72⟩:=by kernel_rfl
theorem I3:zo Tryz.prog 148=.map 9 72:=by kernel_rfl
theorem Gc:ex Tryz.prog 150=some ⟨true,6,[.map none,.map none,.map none,.map none,.slice none 0 0,.slice none 0 0],.struct [(0,1,false),(1,1,false),(2,1,false),(3,1,false),(4,1,false),(5,1,false)]⟩:=by kernel_rfl
theorem I2:zo Tryz.prog 150=.struct [(0,1,false),(1,1,false),(2,1,false),(3,1,false),(4,1,false),(5,1,false)]:=by kernel_rfl
theorem Gb:ex Tryz.prog 152=some ⟨false,1,[.nilFunc],.other⟩:=by kernel_rfl
theorem I1:zo Tryz.prog 152=.other:=by kernel_rfl
theorem Ga:ex Tryz.prog 155=some ⟨false,1,[.slice none 0 0],.slice 38 1 8 [.int .i64 0]⟩:=by kernel_rfl
theorem I0:zo Tryz.prog 155=.slice 38 1 8 [.int .i64 0]:=by kernel_rfl
theorem F9:ex Tryz.prog 156=some ⟨false,1,[.nilFunc],.other⟩:=by kernel_rfl
theorem IZ:zo Tryz.prog 156=.other:=by kernel_rfl
theorem F8:ex Tryz.prog 157=some ⟨false,1,[.nilFunc],.other⟩:=by kernel_rfl
theorem IY:zo Tryz.prog 157=.other:=by kernel_rfl
theorem F7:ex Tryz.prog 158=some ⟨false,1,[.map none],.map 160 29⟩:=by kernel_rfl
theorem IX:zo Tryz.prog 158=.map 160 29:=by kernel_rfl
theorem F6:ex Tryz.prog 159=some ⟨true,2,[.int .i64 0,.string ⟨#[]⟩],.struct [(0,1,false),(1,1,false)]⟩:=by kernel_rfl
theorem IW:zo Tryz.prog 159=.struct [(0,1,false),(1,1,false)]:=by kernel_rfl
theorem F5:ex Tryz.prog 160=some ⟨true,2,[.int .i64 0,.string ⟨#[]⟩],.struct [(0,1,false),(1,1,false)]⟩:=by kernel_rfl
theorem IV:zo Tryz.prog 160=.struct [(0,1,false),(1,1,false)]:=by kernel_rfl
theorem F4:ex Tryz.prog 161=some ⟨false,1,[.map none],.map 9 9⟩:=by kernel_rfl
theorem IU:zo Tryz.prog 161=.map 9 9:=by kernel_rfl
theorem F3:ex Tryz.prog 162=some ⟨true,4,[.slice none 0 0,.map none,.map none,.map none],.struct [(0,1,false),(1,1,false),(2,1,false),(3,1,false)]⟩:=by kernel_rfl
theorem IR:zo Tryz.prog 162=.struct [(0,1,false),(1,1,false),(2,1,false),(3,1,false)]:=by kernel_rfl
theorem F2:ex Tryz.prog 163=some ⟨true,4,[.slice none 0 0,.map none,.map none,.map none],.struct [(0,1,false),(1,1,false),(2,1,false),(3,1,false)]⟩:=by kernel_rfl
theorem IQ:zo Tryz.prog 163=.struct [(0,1,false),(1,1,false),(2,1,false),(3,1,false)]:=by kernel_rfl
theorem F1:ex Tryz.prog 164=some ⟨false,1,[.nilFunc],.other⟩:=by kernel_rfl
theorem IP:zo Tryz.prog 164=.other:=by kernel_rfl
theorem F0:ex Tryz.prog 165=some ⟨false,1,[.nilFunc],.other⟩:=by kernel_rfl
theorem IM:zo Tryz.prog 165=.other:=by kernel_rfl
theorem FZ:ex Tryz.prog 166=some ⟨false,1,[.nilFunc],.other⟩:=by kernel_rfl
theorem IL:zo Tryz.prog 166=.other:=by kernel_rfl
theorem FY:ex Tryz.prog 168=some ⟨false,1,[.nilFunc],.other⟩:=by kernel_rfl
theorem IK:zo Tryz.prog 168=.other:=by kernel_rfl
theorem FX:ex Tryz.prog 171=some ⟨false,1,[.nilFunc],.other⟩:=by kernel_rfl
theorem IJ:zo Tryz.prog 171=.other:=by kernel_rfl
theorem FW:ex Tryz.prog 172=some ⟨false,1,[.nilFunc],.other⟩:=by kernel_rfl
theorem II:zo Tryz.prog 172=.other:=by kernel_rfl
theorem FV:ex Tryz.prog 173=some ⟨false,1,[.nilFunc],.other⟩:=by kernel_rfl
theorem IH:zo Tryz.prog 173=.other:=by kernel_rfl
theorem FU:ex Tryz.prog 174=some ⟨false,1,[.nilFunc],.other⟩:=by kernel_rfl
theorem IG:zo Tryz.prog 174=.other:=by kernel_rfl
theorem FT:ex Tryz.prog 175=some ⟨false,1,[.slice none 0 0],.slice 3 1 8 [.int .i64 0]⟩:=by kernel_rfl
theorem IF:zo Tryz.prog 175=.slice 3 1 8 [.int .i64 0]:=by kernel_rfl
theorem FS:ex Tryz.prog 176=some ⟨false,1,[.nilFunc],.other⟩:=by kernel_rfl
theorem IE:zo Tryz.prog 176=.other:=by kernel_rfl
theorem FR:ex Tryz.prog 177=some ⟨false,1,[.nilFunc],.other⟩:=by kernel_rfl
theorem ID:zo Tryz.prog 177=.other:=by kernel_rfl
theorem FQ:ex Tryz.prog 178=some ⟨false,1,[.int .u64 0],.int .u64⟩:=by kernel_rfl
theorem IC:zo Tryz.prog 178=.int .u64:=by kernel_rfl
theorem FP:ex Tryz.prog 179=some ⟨false,1,[.nilFunc],.other⟩:=by kernel_rfl
theorem IB:zo Tryz.prog 179=.other:=by kernel_rfl
theorem FO:ex Tryz.prog 181=some ⟨false,1,[.nilFunc],.other⟩:=by kernel_rfl
theorem IA:zo Tryz.prog 181=.other:=by kernel_rfl
theorem FN:ex Tryz.prog 183=some ⟨false,1,[.nilFunc],.other⟩:=by kernel_rfl
theorem Iz:zo Tryz.prog 183=.other:=by kernel_rfl
theorem FM:ex Tryz.prog 184=some ⟨false,1,[.int .u64 0],.int .u64⟩:=by kernel_rfl
theorem Iy:zo Tryz.prog 184=.int .u64:=by kernel_rfl
theorem FL:ex Tryz.prog 186=some ⟨false,1,[.nilFunc],.other⟩:=by kernel_rfl
theorem Ix:zo Tryz.prog 186=.other:=by kernel_rfl
theorem FK:ex Tryz.prog 187=some ⟨false,1,[.nilFunc],.other⟩:=by kernel_rfl
theorem Iw:zo Tryz.prog 187=.other:=by kernel_rfl
theorem FJ:ex Tryz.prog 188=some ⟨true,2,[.int .i64 0,.string ⟨#[]⟩],.struct [(0,1,false),(1,1,false)]⟩:=by kernel_rfl
theorem Iu:zo Tryz.prog 188=.struct [(0,1,false),(1,1,false)]:=by kernel_rfl
theorem FI:ex Tryz.prog 189=some ⟨true,2,[.int .i64 0,.string ⟨#[]⟩],.struct [(0,1,false),(1,1,false)]⟩:=by kernel_rfl
theorem Ir:zo Tryz.prog 189=.struct [(0,1,false),(1,1,false)]:=by kernel_rfl
theorem FH:ex Tryz.prog 191=some ⟨false,1,[.nilFunc],.other⟩:=by kernel_rfl
theorem Iq:zo Tryz.prog 191=.other:=by kernel_rfl
theorem FG:ex Tryz.prog 192=some ⟨false,1,[.nilFunc],.other⟩:=by kernel_rfl
theorem Ip:zo Tryz.prog 192=.other:=by kernel_rfl
theorem FF:ex Tryz.prog 193=some ⟨false,1,[.nilFunc],.other⟩:=by kernel_rfl
theorem Im:zo Tryz.prog 193=.other:=by kernel_rfl
theorem FE:ex Tryz.prog 196=some ⟨false,1,[.nilFunc],.other⟩:=by kernel_rfl
theorem Il:zo Tryz.prog 196=.other:=by kernel_rfl
theorem FD:ex Tryz.prog 197=some ⟨false,1,[.nilFunc],.other⟩:=by kernel_rfl
theorem Ik:zo Tryz.prog 197=.other:=by kernel_rfl
theorem FC:ex Tryz.prog 198=some ⟨false,1,[.nilFunc],.other⟩:=by kernel_rfl
theorem Ij:zo Tryz.prog 198=.other:=by kernel_rfl
theorem FB:ex Tryz.prog 200=some ⟨false,1,[.nilFunc],.other⟩:=by kernel_rfl
theorem Ii:zo Tryz.prog 200=.other:=by kernel_rfl
theorem FA:ex Tryz.prog 201=some ⟨false,1,[.nilFunc],.other⟩:=by kernel_rfl
theorem Ih:zo Tryz.prog 201=.other:=by kernel_rfl
theorem Fz:ex Tryz.prog 202=some ⟨false,1,[.int .u32 0],.int .u32⟩:=by kernel_rfl
theorem Ig:zo Tryz.prog 202=.int .u32:=by kernel_rfl
theorem Fy:ex Tryz.prog 204=some ⟨false,1,[.slice none 0 0],.slice 5 1 1 [.int .u8 0]⟩:=by kernel_rfl
theorem Ie:zo Tryz.prog 204=.slice 5 1 1 [.int .u8 0]:=by kernel_rfl
theorem Fx:ex Tryz.prog 207=some ⟨false,1,[.pointer none],.ptr 209⟩:=by kernel_rfl
theorem Ic:zo Tryz.prog 207=.ptr 209:=by kernel_rfl
theorem Fv:ex Tryz.prog 208=some ⟨true,2,[.pointer none,.slice none 0 0],.struct [(0,1,false),(1,1,false)]⟩:=by kernel_rfl
theorem Ib:zo Tryz.prog 208=.struct [(0,1,false),(1,1,false)]:=by kernel_rfl
theorem Fu:ex Tryz.prog 209=some ⟨true,2,[.pointer none,.slice none 0 0],.struct [(0,1,false),(1,1,false)]⟩:=by kernel_rfl
theorem Ia:zo Tryz.prog 209=.struct [(0,1,false),(1,1,false)]:=by kernel_rfl
theorem Fs:ex Tryz.prog 211=some ⟨false,1,[.nilIface],.other⟩:=by kernel_rfl
theorem H9:zo Tryz.prog 211=.other:=by kernel_rfl
theorem Fr:ex Tryz.prog 212=some ⟨false,1,[.nilIface],.other⟩:=by kernel_rfl
theorem H8:zo Tryz.prog 212=.other:=by kernel_rfl
theorem Fq:ex Tryz.prog 215=some ⟨false,1,[.nilFunc],.other⟩:=by kernel_rfl
theorem H7:zo Tryz.prog 215=.other:=by kernel_rfl
theorem Fp:ex Tryz.prog 216=some ⟨false,1,[.nilFunc],.other⟩:=by kernel_rfl
theorem H6:zo Tryz.prog 216=.other:=by kernel_rfl
theorem Fo:ex Tryz.prog 217=some ⟨false,1,[.nilFunc],.other⟩:=by kernel_rfl
theorem H5:zo Tryz.prog 217=.other:=by kernel_rfl
theorem Fm:ex Tryz.prog 219=some ⟨false,1,[.nilFunc],.other⟩:=by kernel_rfl
theorem H4:zo Tryz.prog 219=.other:=by kernel_rfl
theorem Fl:ex Tryz.prog 223=some ⟨false,1,[.slice none 0 0],.slice 227 2 16 [.int .i64 0,.int .i64 0]⟩:=by kernel_rfl
theorem H3:zo Tryz.prog 223=.slice 227 2 16 [.int .i64 0,.int .i64 0]:=by kernel_rfl
theorem Fk:ex Tryz.prog 225=some ⟨false,1,[.nilFunc],.other⟩:=by kernel_rfl
theorem H0:zo Tryz.prog 225=.other:=by kernel_rfl
theorem Fj:ex Tryz.prog 226=some ⟨false,1,[.nilFunc],.other⟩:=by kernel_rfl
theorem HZ:zo Tryz.prog 226=.other:=by kernel_rfl
theorem Fi:ex Tryz.prog 227=some ⟨true,2,[.int .i64 0,.int .i64 0],.arr 2 3 1 false⟩:=by kernel_rfl
theorem HY:zo Tryz.prog 227=.arr 2 3 1 false:=by kernel_rfl
theorem Fh:ex Tryz.prog 228=some ⟨false,1,[.nilFunc],.other⟩:=by kernel_rfl
theorem HX:zo Tryz.prog 228=.other:=by kernel_rfl
theorem Fg:ex Tryz.prog 229=some ⟨false,1,[.nilFunc],.other⟩:=by kernel_rfl
theorem HW:zo Tryz.prog 229=.other:=by kernel_rfl
theorem Ff:ex Tryz.prog 238=some ⟨true,24,[.int .u8 0,.int .u8 0,.int .u8 0,.int .u8 0,.int .u8 0,.int .u8 0,.int .u8 0,.int .u8 0,.int .u8 0,.int .u8 0,.int .u8 0,.int .u8 0,.int .u8 0,.int .u8 0,.int .u8 0,.int .u8 0,.int .u8 0,.int .u8 0,.int .u8 0,.int .u8 0,.int .u8 0,.int .u8 0,.int .u8 0,.int .u8 0],.arr 24 5 1 false⟩:=by kernel_rfl
theorem HV:zo Tryz.prog 238=.arr 24 5 1 false:=by kernel_rfl
theorem Fe:ex Tryz.prog 243=some ⟨false,1,[.nilFunc],.other⟩:=by kernel_rfl
theorem HU:zo Tryz.prog 243=.other:=by kernel_rfl
theorem Fc:ex Tryz.prog 246=some ⟨false,1,[.pointer none],.ptr 5⟩:=by kernel_rfl
theorem HT:zo Tryz.prog 246=.ptr 5:=by kernel_rfl
theorem Fb:ex Tryz.prog 247=some ⟨false,1,[.slice none 0 0],.slice 175 1 24 [.slice none 0 0]⟩:=by kernel_rfl
theorem HS:zo Tryz.prog 247=.slice 175 1 24 [.slice none 0 0]:=by kernel_rfl
theorem Fa:ex Tryz.prog 249=some ⟨false,1,[.nilFunc],.other⟩:=by kernel_rfl
theorem HR:zo Tryz.prog 249=.other:=by kernel_rfl
theorem E9:ex Tryz.prog 254=some ⟨false,1,[.nilFunc],.other⟩:=by kernel_rfl
theorem HQ:zo Tryz.prog 254=.other:=by kernel_rfl
theorem E8:ex Tryz.prog 255=some ⟨false,1,[.pointer none],.ptr 231⟩:=by kernel_rfl
theorem HP:zo Tryz.prog 255=.ptr 231:=by kernel_rfl
theorem E7:ex Tryz.prog 260=some ⟨true,65,[.int .u8 0,.int .u8 0,.int .u8 0,.int .u8 0,.int .u8 0,.int .u8 0,.int .u8 0,.int .u8 0,.int .u8 0,.int .u8 0,.int .u8 0,.int .u8 0,.int .u8 0,.int .u8 0,.int .u8 0,.int .u8 0,.int .u8 0,.int .u8 0,.int .u8 0,.int .u8 0,.int .u8 0,.int .u8 0,.int .u8 0,.int .u8 0,.int .u8 0,.int .u8 0,.int .u8 0,.int .u8 0,.int .u8 0,.int .u8 0,.int .u8 0,.int .u8 0,.int .u8 0,.int .u8 0,.int .u8 0,.int .u8 0,.int .u8 0,.int .u8 0,.int .u8 0,.int .u8 0,.int .u8 0,.int .u8 0,.int .u8 0,.int .u8 0,.int .u8 0,.int .u8 0,.int .u8 0,.int .u8 0,.int .u8 0,.int .u8 0,.int .u8 0,.int .u8 0,.int .u8 0,.int .u8 0,.int .u8 0,.int .u8 0,.int .u8 0,.int .u8 0,.int .u8 0,.int .u8 0,.int .u8 0,.int .u8 0,.int .u8 0,.int .u8 0,.int .u8 0],.arr 65 5 1 false⟩:=by kernel_rfl
theorem HO:zo Tryz.prog 260=.arr 65 5 1 false:=by kernel_rfl
theorem E6:ex Tryz.prog 261=some ⟨false,1,[.pointer none],.other⟩:=by kernel_rfl
theorem HN:zo Tryz.prog 261=.other:=by kernel_rfl
theorem E5:ex Tryz.prog 263=some ⟨false,1,[.nilFunc],.other⟩:=by kernel_rfl
theorem HM:zo Tryz.prog 263=.other:=by kernel_rfl
theorem E4:ex Tryz.prog 265=some ⟨true,2,[.int .u8 0,.int .u8 0],.struct [(0,1,false),(1,1,false)]⟩:=by kernel_rfl
theorem HL:zo Tryz.prog 265=.struct [(0,1,false),(1,1,false)]:=by kernel_rfl
theorem E3:ex Tryz.prog 270=some ⟨false,1,[.nilFunc],.other⟩:=by kernel_rfl
theorem HK:zo Tryz.prog 270=.other:=by kernel_rfl
theorem E1:ex Tryz.prog 273=some ⟨true,64,[.int .u8 0,.int .u8 0,.int .u8 0,.int .u8 0,.int .u8 0,.int .u8 0,.int .u8 0,.int .u8 0,.int .u8 0,.int .u8 0,.int .u8 0,.int .u8 0,.int .u8 0,.int .u8 0,.int .u8 0,.int .u8 0,.int .u8 0,.int .u8 0,.int .u8 0,.int .u8 0,.int .u8 0,.int .u8 0,.int .u8 0,.int .u8 0,.int .u8 0,.int .u8 0,.int .u8 0,.int .u8 0,.int .u8 0,.int .u8 0,.int .u8 0,.int .u8 0,.int .u8 0,.int .u8 0,.int .u8 0,.int .u8 0,.int .u8 0,.int .u8 0,.int .u8 0,.int .u8 0,.int .u8 0,.int .u8 0,.int .u8 0,.int .u8 0,.int .u8 0,.int .u8 0,.int .u8 0,.int .u8 0,.int .u8 0,.int .u8 0,.int .u8 0,.int .u8 0,.int .u8 0,.int .u8 0,.int .u8 0,.int .u8 0,.int .u8 0,.int .u8 0,.int .u8 0,.int .u8 0,.int .u8 0,.int .u8 0,.int .u8 0,.int .u8 0],.arr 64 5 1 false⟩:=by kernel_rfl
theorem HJ:zo Tryz.prog 273=.arr 64 5 1 false:=by kernel_rfl
theorem E0:ex Tryz.prog 278=some ⟨true,0,[],.struct [(0,0,true)]⟩:=by kernel_rfl
theorem HI:zo Tryz.prog 278=.struct [(0,0,true)]:=by kernel_rfl
theorem XU:jk Tryz.prog 9=.tk .str:=by kernel_rfl
theorem HE:jk Tryz.prog 143=.ks [.i .i64,.s]:=by kernel_rfl
theorem HD:jk Tryz.prog 160=.ks [.i .i64,.s]:=by kernel_rfl
theorem Xk:ev Tryz.prog 0=false:=by kernel_rfl
theorem Xj:ev Tryz.prog 1=false:=by kernel_rfl
theorem Xi:ev Tryz.prog 2=false:=by kernel_rfl
theorem Xh:ev Tryz.prog 3=false:=by kernel_rfl
theorem Xg:ev Tryz.prog 4=false:=by kernel_rfl
theorem Xf:ev Tryz.prog 5=false:=by kernel_rfl
theorem Xe:ev Tryz.prog 6=false:=by kernel_rfl
theorem Xd:ev Tryz.prog 7=true:=by kernel_rfl
theorem Xc:ev Tryz.prog 8=true:=by kernel_rfl
theorem Xb:ev Tryz.prog 9=false:=by kernel_rfl
theorem OZ:ev Tryz.prog 10=false:=by kernel_rfl
theorem OY:ev Tryz.prog 11=false:=by kernel_rfl
theorem OX:ev Tryz.prog 12=false:=by kernel_rfl
theorem OW:ev Tryz.prog 13=true:=by kernel_rfl
theorem OV:ev Tryz.prog 14=true:=by kernel_rfl
theorem OU:ev Tryz.prog 15=false:=by kernel_rfl
theorem OT:ev Tryz.prog 16=false:=by kernel_rfl
theorem OS:ev Tryz.prog 17=false:=by kernel_rfl
theorem OR:ev Tryz.prog 18=true:=by kernel_rfl
theorem OQ:ev Tryz.prog 19=true:=by kernel_rfl
theorem OP:ev Tryz.prog 20=false:=by kernel_rfl
theorem OO:ev Tryz.prog 21=false:=by kernel_rfl
theorem ON:ev Tryz.prog 22=false:=by kernel_rfl
theorem OM:ev Tryz.prog 23=false:=by kernel_rfl
theorem OL:ev Tryz.prog 24=false:=by kernel_rfl
theorem OK:ev Tryz.prog 25=true:=by kernel_rfl
theorem OJ:ev Tryz.prog 26=true:=by kernel_rfl
theorem OI:ev Tryz.prog 27=false:=by kernel_rfl
theorem OH:ev Tryz.prog 28=true:=by kernel_rfl
theorem OG:ev Tryz.prog 29=true:=by kernel_rfl
theorem OE:ev Tryz.prog 30=false:=by kernel_rfl
theorem OD:ev Tryz.prog 31=false:=by kernel_rfl
theorem OC:ev Tryz.prog 32=true:=by kernel_rfl
theorem OB:ev Tryz.prog 33=true:=by kernel_rfl
theorem OA:ev Tryz.prog 34=false:=by kernel_rfl
theorem Oz:ev Tryz.prog 35=false:=by kernel_rfl
theorem Oy:ev Tryz.prog 36=false:=by kernel_rfl
theorem Ox:ev Tryz.prog 37=false:=by kernel_rfl
theorem Ow:ev Tryz.prog 38=false:=by kernel_rfl
theorem Ov:ev Tryz.prog 39=false:=by kernel_rfl
theorem Ou:ev Tryz.prog 40=false:=by kernel_rfl
theorem Ot:ev Tryz.prog 41=false:=by kernel_rfl
theorem Oq:ev Tryz.prog 42=false:=by kernel_rfl
theorem Oo:ev Tryz.prog 43=false:=by kernel_rfl
theorem On:ev Tryz.prog 44=false:=by kernel_rfl
theorem Om:ev Tryz.prog 45=true:=by kernel_rfl
theorem Ol:ev Tryz.prog 46=true:=by kernel_rfl
theorem Oj:ev Tryz.prog 47=false:=by kernel_rfl
theorem Oi:ev Tryz.prog 48=false:=by kernel_rfl
theorem Oh:ev Tryz.prog 49=false:=by kernel_rfl
theorem Og:ev Tryz.prog 50=false:=by kernel_rfl
theorem Of:ev Tryz.prog 51=false:=by kernel_rfl
theorem Oe:ev Tryz.prog 52=false:=by kernel_rfl
theorem Od:ev Tryz.prog 53=false:=by kernel_rfl
theorem Oc:ev Tryz.prog 54=false:=by kernel_rfl
theorem Oa:ev Tryz.prog 55=false:=by kernel_rfl
theorem N9:ev Tryz.prog 56=true:=by kernel_rfl
theorem N8:ev Tryz.prog 57=true:=by kernel_rfl
theorem N7:ev Tryz.prog 58=false:=by kernel_rfl
theorem N6:ev Tryz.prog 59=true:=by kernel_rfl
theorem N5:ev Tryz.prog 60=true:=by kernel_rfl
theorem N4:ev Tryz.prog 61=false:=by kernel_rfl
theorem N3:ev Tryz.prog 62=true:=by kernel_rfl
theorem N2:ev Tryz.prog 63=true:=by kernel_rfl
theorem N1:ev Tryz.prog 64=false:=by kernel_rfl
theorem N0:ev Tryz.prog 65=false:=by kernel_rfl
theorem NZ:ev Tryz.prog 66=false:=by kernel_rfl
theorem NY:ev Tryz.prog 67=true:=by kernel_rfl
theorem NX:ev Tryz.prog 68=true:=by kernel_rfl
theorem NW:ev Tryz.prog 69=true:=by kernel_rfl
theorem NV:ev Tryz.prog 70=true:=by kernel_rfl
theorem NU:ev Tryz.prog 71=true:=by kernel_rfl
theorem NT:ev Tryz.prog 72=true:=by kernel_rfl
theorem NS:ev Tryz.prog 73=true:=by kernel_rfl
theorem NR:ev Tryz.prog 74=true:=by kernel_rfl
theorem NQ:ev Tryz.prog 75=false:=by kernel_rfl
theorem NP:ev Tryz.prog 76=false:=by kernel_rfl
theorem NO:ev Tryz.prog 77=false:=by kernel_rfl
theorem NN:ev Tryz.prog 78=false:=by kernel_rfl
theorem NM:ev Tryz.prog 79=false:=by kernel_rfl
theorem NL:ev Tryz.prog 80=false:=by kernel_rfl
theorem NK:ev Tryz.prog 81=false:=by kernel_rfl
theorem NJ:ev Tryz.prog 82=false:=by kernel_rfl
theorem NI:ev Tryz.prog 83=false:=by kernel_rfl
theorem NH:ev Tryz.prog 84=false:=by kernel_rfl
theorem NG:ev Tryz.prog 85=false:=by kernel_rfl
theorem NF:ev Tryz.prog 86=false:=by kernel_rfl
theorem NE:ev Tryz.prog 87=false:=by kernel_rfl
theorem ND:ev Tryz.prog 88=false:=by kernel_rfl
theorem NC:ev Tryz.prog 89=false:=by kernel_rfl
theorem NB:ev Tryz.prog 90=false:=by kernel_rfl
theorem NA:ev Tryz.prog 91=false:=by kernel_rfl
theorem Nz:ev Tryz.prog 92=false:=by kernel_rfl
theorem Ny:ev Tryz.prog 93=false:=by kernel_rfl
theorem Nx:ev Tryz.prog 94=false:=by kernel_rfl
theorem Nw:ev Tryz.prog 95=false:=by kernel_rfl
theorem Nu:ev Tryz.prog 96=false:=by kernel_rfl
theorem Nt:ev Tryz.prog 97=false:=by kernel_rfl
theorem Ns:ev Tryz.prog 98=false:=by kernel_rfl
theorem Nr:ev Tryz.prog 99=false:=by kernel_rfl
theorem EF:ev Tryz.prog 100=false:=by kernel_rfl
theorem EE:ev Tryz.prog 101=false:=by kernel_rfl
theorem ED:ev Tryz.prog 102=false:=by kernel_rfl
theorem EC:ev Tryz.prog 103=false:=by kernel_rfl
theorem EB:ev Tryz.prog 104=false:=by kernel_rfl
theorem EA:ev Tryz.prog 105=false:=by kernel_rfl
theorem Ez:ev Tryz.prog 106=false:=by kernel_rfl
theorem Ey:ev Tryz.prog 107=true:=by kernel_rfl
theorem Ex:ev Tryz.prog 108=true:=by kernel_rfl
theorem Ew:ev Tryz.prog 109=true:=by kernel_rfl
theorem Eu:ev Tryz.prog 110=false:=by kernel_rfl
theorem Et:ev Tryz.prog 111=false:=by kernel_rfl
theorem Es:ev Tryz.prog 112=false:=by kernel_rfl
theorem Er:ev Tryz.prog 113=false:=by kernel_rfl
theorem Ep:ev Tryz.prog 114=false:=by kernel_rfl
theorem Eo:ev Tryz.prog 115=false:=by kernel_rfl
theorem Em:ev Tryz.prog 116=false:=by kernel_rfl
theorem El:ev Tryz.prog 117=false:=by kernel_rfl
theorem Ek:ev Tryz.prog 118=false:=by kernel_rfl
theorem Ej:ev Tryz.prog 119=false:=by kernel_rfl
theorem Ei:ev Tryz.prog 120=false:=by kernel_rfl
theorem Eh:ev Tryz.prog 121=false:=by kernel_rfl
theorem Eg:ev Tryz.prog 122=false:=by kernel_rfl
theorem Ef:ev Tryz.prog 123=false:=by kernel_rfl
theorem Ee:ev Tryz.prog 124=false:=by kernel_rfl
theorem Ed:ev Tryz.prog 125=false:=by kernel_rfl
theorem Ec:ev Tryz.prog 126=false:=by kernel_rfl
theorem Eb:ev Tryz.prog 127=false:=by kernel_rfl
theorem Ea:ev Tryz.prog 128=false:=by kernel_rfl
theorem D9:ev Tryz.prog 129=false:=by kernel_rfl
theorem D8:ev Tryz.prog 130=false:=by kernel_rfl
theorem D7:ev Tryz.prog 131=false:=by kernel_rfl
theorem D6:ev Tryz.prog 132=false:=by kernel_rfl
theorem D5:ev Tryz.prog 133=false:=by kernel_rfl
theorem D4:ev Tryz.prog 134=false:=by kernel_rfl
theorem D3:ev Tryz.prog 135=false:=by kernel_rfl
theorem D2:ev Tryz.prog 136=false:=by kernel_rfl
theorem D1:ev Tryz.prog 137=false:=by kernel_rfl
theorem D0:ev Tryz.prog 138=false:=by kernel_rfl
theorem DZ:ev Tryz.prog 139=false:=by kernel_rfl
theorem DY:ev Tryz.prog 140=false:=by kernel_rfl
theorem DX:ev Tryz.prog 141=false:=by kernel_rfl
theorem DW:ev Tryz.prog 142=true:=by kernel_rfl
theorem DV:ev Tryz.prog 143=true:=by kernel_rfl
theorem DU:ev Tryz.prog 144=false:=by kernel_rfl
theorem DT:ev Tryz.prog 145=false:=by kernel_rfl
theorem DS:ev Tryz.prog 146=false:=by kernel_rfl
theorem DQ:ev Tryz.prog 147=false:=by kernel_rfl
theorem DP:ev Tryz.prog 148=false:=by kernel_rfl
theorem DO:ev Tryz.prog 150=true:=by kernel_rfl
theorem DN:ev Tryz.prog 152=false:=by kernel_rfl
theorem DM:ev Tryz.prog 153=false:=by kernel_rfl
theorem DL:ev Tryz.prog 155=false:=by kernel_rfl
theorem DK:ev Tryz.prog 156=false:=by kernel_rfl
theorem DJ:ev Tryz.prog 157=false:=by kernel_rfl
theorem DI:ev Tryz.prog 158=false:=by kernel_rfl
theorem DH:ev Tryz.prog 159=true:=by kernel_rfl
theorem DG:ev Tryz.prog 160=true:=by kernel_rfl
theorem DF:ev Tryz.prog 161=false:=by kernel_rfl
theorem DE:ev Tryz.prog 162=true:=by kernel_rfl
theorem DD:ev Tryz.prog 163=true:=by kernel_rfl
theorem DB:ev Tryz.prog 164=false:=by kernel_rfl
theorem DA:ev Tryz.prog 165=false:=by kernel_rfl
theorem Dz:ev Tryz.prog 166=false:=by kernel_rfl
theorem Dy:ev Tryz.prog 168=false:=by kernel_rfl
theorem Dx:ev Tryz.prog 169=false:=by kernel_rfl
theorem Dw:ev Tryz.prog 170=false:=by kernel_rfl
theorem Dv:ev Tryz.prog 171=false:=by kernel_rfl
theorem Du:ev Tryz.prog 172=false:=by kernel_rfl
theorem Ds:ev Tryz.prog 173=false:=by kernel_rfl
theorem Dq:ev Tryz.prog 174=false:=by kernel_rfl
theorem Dp:ev Tryz.prog 175=false:=by kernel_rfl
theorem Do:ev Tryz.prog 176=false:=by kernel_rfl
theorem Dn:ev Tryz.prog 177=false:=by kernel_rfl
theorem Dm:ev Tryz.prog 178=false:=by kernel_rfl
theorem Dl:ev Tryz.prog 179=false:=by kernel_rfl
theorem Dk:ev Tryz.prog 181=false:=by kernel_rfl
theorem Dj:ev Tryz.prog 182=false:=by kernel_rfl
theorem Di:ev Tryz.prog 183=false:=by kernel_rfl
theorem Dh:ev Tryz.prog 184=false:=by kernel_rfl
theorem Dg:ev Tryz.prog 186=false:=by kernel_rfl
theorem Df:ev Tryz.prog 187=false:=by kernel_rfl
theorem De:ev Tryz.prog 188=true:=by kernel_rfl
theorem Dd:ev Tryz.prog 189=true:=by kernel_rfl
theorem Dc:ev Tryz.prog 190=false:=by kernel_rfl
theorem Db:ev Tryz.prog 191=false:=by kernel_rfl
theorem Da:ev Tryz.prog 192=false:=by kernel_rfl
theorem C9:ev Tryz.prog 193=false:=by kernel_rfl
theorem C8:ev Tryz.prog 195=false:=by kernel_rfl
theorem C7:ev Tryz.prog 196=false:=by kernel_rfl
theorem C6:ev Tryz.prog 197=false:=by kernel_rfl
theorem C5:ev Tryz.prog 198=false:=by kernel_rfl
theorem C4:ev Tryz.prog 199=false:=by kernel_rfl
theorem C3:ev Tryz.prog 200=false:=by kernel_rfl
theorem C2:ev Tryz.prog 201=false:=by kernel_rfl
theorem C1:ev Tryz.prog 202=false:=by kernel_rfl
theorem C0:ev Tryz.prog 204=false:=by kernel_rfl
theorem CZ:ev Tryz.prog 205=false:=by kernel_rfl
theorem CY:ev Tryz.prog 207=false:=by kernel_rfl
theorem CX:ev Tryz.prog 208=true:=by kernel_rfl
theorem CW:ev Tryz.prog 209=true:=by kernel_rfl
theorem CV:ev Tryz.prog 211=false:=by kernel_rfl
theorem CU:ev Tryz.prog 212=false:=by kernel_rfl
theorem CT:ev Tryz.prog 213=false:=by kernel_rfl
theorem CS:ev Tryz.prog 215=false:=by kernel_rfl
theorem CR:ev Tryz.prog 216=false:=by kernel_rfl
theorem CQ:ev Tryz.prog 217=false:=by kernel_rfl
theorem CP:ev Tryz.prog 218=false:=by kernel_rfl
theorem CO:ev Tryz.prog 219=false:=by kernel_rfl
theorem CN:ev Tryz.prog 223=false:=by kernel_rfl
theorem CM:ev Tryz.prog 225=false:=by kernel_rfl
theorem CL:ev Tryz.prog 226=false:=by kernel_rfl
theorem CK:ev Tryz.prog 227=true:=by kernel_rfl
theorem CJ:ev Tryz.prog 228=false:=by kernel_rfl
theorem CI:ev Tryz.prog 229=false:=by kernel_rfl
theorem CH:ev Tryz.prog 238=true:=by kernel_rfl
theorem CG:ev Tryz.prog 240=false:=by kernel_rfl
theorem CF:ev Tryz.prog 242=false:=by kernel_rfl
theorem CE:ev Tryz.prog 243=false:=by kernel_rfl
theorem CD:ev Tryz.prog 244=false:=by kernel_rfl
theorem CC:ev Tryz.prog 246=false:=by kernel_rfl
theorem CB:ev Tryz.prog 247=false:=by kernel_rfl
theorem CA:ev Tryz.prog 249=false:=by kernel_rfl
theorem Cz:ev Tryz.prog 254=false:=by kernel_rfl
theorem Cy:ev Tryz.prog 255=false:=by kernel_rfl
theorem Cw:ev Tryz.prog 260=true:=by kernel_rfl
theorem Cv:ev Tryz.prog 261=false:=by kernel_rfl
theorem Cu:ev Tryz.prog 263=false:=by kernel_rfl
theorem Ct:ev Tryz.prog 265=true:=by kernel_rfl
theorem Cs:ev Tryz.prog 270=false:=by kernel_rfl
theorem Cr:ev Tryz.prog 273=true:=by kernel_rfl
theorem Cq:ev Tryz.prog 278=true:=by kernel_rfl
theorem Cp:ev Tryz.prog 287=false:=by kernel_rfl
theorem Co:ev Tryz.prog 292=false:=by kernel_rfl
theorem Cn:ev Tryz.prog 294=false:=by kernel_rfl
theorem Cm:ev Tryz.prog 297=false:=by kernel_rfl
theorem Ck:ev Tryz.prog 299=false:=by kernel_rfl
theorem Cj:ev Tryz.prog 300=false:=by kernel_rfl
theorem Ci:ev Tryz.prog 311=false:=by kernel_rfl
theorem Ch:ev Tryz.prog 319=false:=by kernel_rfl
theorem Cg:ev Tryz.prog 329=false:=by kernel_rfl
theorem Cf:ev Tryz.prog 342=false:=by kernel_rfl
theorem Ce:ev Tryz.prog 351=false:=by kernel_rfl
theorem Cd:ev Tryz.prog 356=false:=by kernel_rfl
theorem Cc:ev Tryz.prog 357=false:=by kernel_rfl
theorem Cb:ev Tryz.prog 360=false:=by kernel_rfl
theorem Ca:ev Tryz.prog 363=false:=by kernel_rfl
theorem B9:ev Tryz.prog 370=false:=by kernel_rfl
theorem B8:ev Tryz.prog 382=false:=by kernel_rfl
theorem B7:ev Tryz.prog 387=false:=by kernel_rfl
theorem Yg:gy Tryz.prog 7=some [.i .i64,.i .i64,.b,.i .u8]:=by kernel_rfl
theorem Ym:eH Tryz.prog 7=true:=by kernel_rfl
theorem Yf:gy Tryz.prog 8=some [.i .i64,.i .i64,.b,.i .u8]:=by kernel_rfl
theorem Yl:eH Tryz.prog 8=true:=by kernel_rfl
theorem Tf:gy Tryz.prog 28=some [.s,.i .i64,.s,.s,.s]:=by kernel_rfl
theorem TH:eH Tryz.prog 28=true:=by kernel_rfl
theorem Td:gy Tryz.prog 29=some [.s,.i .i64,.s,.s,.s]:=by kernel_rfl
theorem TG:eH Tryz.prog 29=true:=by kernel_rfl
theorem Tc:gy Tryz.prog 45=some [.s,.s,.i .i64,.i .i64]:=by kernel_rfl
theorem TF:eH Tryz.prog 45=true:=by kernel_rfl
theorem Tb:gy Tryz.prog 46=some [.s,.s,.i .i64,.i .i64]:=by kernel_rfl
theorem TE:eH Tryz.prog 46=true:=by kernel_rfl
theorem Ta:gy Tryz.prog 56=some [.b,.b]:=by kernel_rfl
theorem TD:eH Tryz.prog 56=true:=by kernel_rfl
theorem S9:gy Tryz.prog 57=some [.b,.b]:=by kernel_rfl
theorem TC:eH Tryz.prog 57=true:=by kernel_rfl
theorem S8:gy Tryz.prog 67=some [.s,.s,.b]:=by kernel_rfl
theorem TB:eH Tryz.prog 67=true:=by kernel_rfl
theorem S7:gy Tryz.prog 68=some [.s,.s,.b]:=by kernel_rfl
theorem TA:eH Tryz.prog 68=true:=by kernel_rfl
theorem S6:gy Tryz.prog 69=some [.s,.s]:=by kernel_rfl
theorem Tz:eH Tryz.prog 69=true:=by kernel_rfl
theorem S5:gy Tryz.prog 70=some [.s,.s]:=by kernel_rfl
theorem Ty:eH Tryz.prog 70=true:=by kernel_rfl
theorem S4:gy Tryz.prog 71=some [.s,.s,.b,.b]:=by kernel_rfl
theorem Tx:eH Tryz.prog 71=true:=by kernel_rfl
theorem S3:gy Tryz.prog 72=some [.s,.s,.b,.b]:=by kernel_rfl
theorem Tw:eH Tryz.prog 72=true:=by kernel_rfl
theorem S2:gy Tryz.prog 73=some [.i .i64,.s,.s,.b,.s,.s,.s,.s,.b,.b]:=by kernel_rfl
theorem Tv:eH Tryz.prog 73=true:=by kernel_rfl
theorem S1:gy Tryz.prog 74=some [.i .i64,.s,.s,.b,.s,.s,.s,.s,.b,.b]:=by kernel_rfl
theorem Tu:eH Tryz.prog 74=true:=by kernel_rfl
theorem J5:gy Tryz.prog 109=some [.i .i64,.s,.s,.b,.s,.s,.s,.s,.b,.b]:=by kernel_rfl
theorem KB:eH Tryz.prog 109=true:=by kernel_rfl
theorem J4:gy Tryz.prog 142=some [.i .i64,.s]:=by kernel_rfl
theorem KA:eH Tryz.prog 142=true:=by kernel_rfl
theorem J3:gy Tryz.prog 143=some [.i .i64,.s]:=by kernel_rfl
theorem Kz:eH Tryz.prog 143=true:=by kernel_rfl
theorem J2:gy Tryz.prog 159=some [.i .i64,.s]:=by kernel_rfl
theorem Ky:eH Tryz.prog 159=true:=by kernel_rfl
theorem J1:gy Tryz.prog 160=some [.i .i64,.s]:=by kernel_rfl
theorem Kx:eH Tryz.prog 160=true:=by kernel_rfl
theorem J0:gy Tryz.prog 188=some [.i .i64,.s]:=by kernel_rfl
theorem Kw:eH Tryz.prog 188=true:=by kernel_rfl
theorem JZ:gy Tryz.prog 189=some [.i .i64,.s]:=by kernel_rfl
theorem Kv:eH Tryz.prog 189=true:=by kernel_rfl
theorem JY:gy Tryz.prog 227=some [.i .i64,.i .i64]:=by kernel_rfl
theorem Ku:eH Tryz.prog 227=true:=by kernel_rfl
theorem JX:gy Tryz.prog 238=some [.i .u8,.i .u8,.i .u8,.i .u8,.i .u8,.i .u8,.i .u8,.i .u8,.i .u8,.i .u8,.i .u8,.i .u8,.i .u8,.i .u8,.i .u8,.i .u8,.i .u8,.i .u8,.i .u8,.i .u8,.i .u8,.i .u8,.i .u8,.i .u8]:=by kernel_rfl
theorem Kt:eH Tryz.prog 238=true:=by kernel_rfl
theorem JW:gy Tryz.prog 265=some [.i .u8,.i .u8]:=by kernel_rfl
theorem Ks:eH Tryz.prog 265=true:=by kernel_rfl
attribute [go_sem] XG X4 XF X3 XE X2 XD X1 XC X0 XB XZ XA XY Xz XX Xy XW Xx XV Q7 SW Q6 SV Q5 SU Q4 SS Q3 SR Q2 SQ Q1 SP Q0 SO QZ SN QY SM
attribute [go_sem] QX SL QW SK QV SJ QU SI QT SH QS SG QR SF QQ SE QP SD QO SC QN SB QM SA QL Sy QK Sx QJ Sw QI Sv QH Su QG Ss QF Sr QE Sq
attribute [go_sem] QD Sp QC So QB Sn QA Sl Qz Sk Qy Sj Qx Si Qw Sg Qv Sf Qu Se Qs Sd Qr Sb Qq Sa Qp R9 Qo R8 Qn R7 Qm R6 Ql R5 Qk R4 Qj R3
attribute [go_sem] Qi R2 Qh R1 Qg R0 Qf RZ Qe RY Qd RX Qc RW Qb RV Qa RU P9 RT P8 RS P7 RR P6 RQ P5 RP P4 RN P3 RM P0 RL PZ RK PY RJ PX RI
attribute [go_sem] PW RH PV RG PU RF PT RE PS RD PR RC PQ RB PP Rz PO Ry PN Rx PM Rw PL Rv PK Ru G6 JN G5 JM G4 JL G3 JK GZ JJ GY JI GX JH
attribute [go_sem] GW JG GV JF GU JE GS JD GR JC GQ JB GP JA GO Jz GN Jy GM Jx GL Jw GK Jv GJ Ju GI Jt GH Js GG Jr GF Jq GD Jp GC Jo GB Jn
attribute [go_sem] GA Jm Gz Jl Gy Jk Gx Jj Gw Ji Gv Jh Gu Jg Gr Jf Gq Je Gp Jd Gn Jc Gm Jb Gl Ja Gk I9 Gj I8 Gi I7 Gg I6 Gf I5 Ge I4 Gd I3
attribute [go_sem] Gc I2 Gb I1 Ga I0 F9 IZ F8 IY F7 IX F6 IW F5 IV F4 IU F3 IR F2 IQ F1 IP F0 IM FZ IL FY IK FX IJ
attribute [go_sem] FW II FV IH FU IG FT IF FS IE FR ID FQ IC FP IB FO IA FN Iz FM Iy FL Ix FK Iw FJ Iu FI Ir FH Iq FG Ip FF Im
attribute [go_sem] FE Il FD Ik FC Ij FB Ii FA Ih Fz Ig Fy Ie Fx Ic Fv Ib Fu Ia Fs H9 Fr H8 Fq H7 Fp H6 Fo H5
attribute [go_sem] Fm H4 Fl H3 Fk H0 Fj HZ Fi HY Fh HX Fg HW Ff HV
attribute [go_sem] Fe HU Fc HT Fb HS Fa HR E9 HQ E8 HP E7 HO E6 HN
attribute [go_sem] E5 HM E4 HL E3 HK E1 HJ E0 HI
attribute [go_sem] XU HE HD Xk Xj Xi Xh Xg Xf Xe Xd Xc Xb OZ OY OX OW OV OU OT OS OR OQ OP OO ON OM OL OK OJ OI OH OG OE
attribute [go_sem] OD OC OB OA Oz Oy Ox Ow Ov Ou Ot Oq Oo On Om Ol Oj Oi Oh Og Of Oe Od Oc Oa N9 N8 N7 N6 N5 N4 N3 N2 N1 N0 NZ NY NX NW NV
attribute [go_sem] NU NT NS NR NQ NP NO NN NM NL NK NJ NI NH NG NF NE ND NC NB NA Nz Ny Nx Nw Nu Nt Ns Nr EF EE ED EC EB EA Ez Ey Ex Ew Eu
attribute [go_sem] Et Es Er Ep Eo Em El Ek Ej Ei Eh Eg Ef Ee Ed Ec Eb Ea D9 D8 D7 D6 D5 D4 D3 D2 D1 D0 DZ DY DX DW DV DU DT DS DQ DP DO
attribute [go_sem] DN DM DL DK DJ DI DH DG DF DE DD DB DA Dz Dy Dx Dw Dv Du Ds Dq Dp Do Dn Dm Dl Dk Dj Di Dh Dg Df De Dd Dc
attribute [go_sem] Db Da C9 C8 C7 C6 C5 C4 C3 C2 C1 C0 CZ CY CX CW CV CU CT CS CR CQ CP CO CN CM CL CK CJ CI
attribute [go_sem] CH CG CF CE CD CC CB CA Cz Cy Cw Cv Cu Ct Cs
attribute [go_sem] Cr Cq Cp Co Cn Cm Ck Cj
attribute [go_sem] Ci Ch Cg Cf
attribute [go_sem] Ce Cd Cc Cb Ca B9 B8 B7
attribute [go_sem] Yg Ym Yf Yl Tf TH Td TG Tc TF Tb TE Ta TD S9 TC S8 TB S7 TA S6 Tz S5 Ty S4 Tx S3 Tw S2 Tv S1
attribute [go_sem] Tu J5 KB J4 KA J3 Kz J2 Ky J1 Kx J0 Kw JZ Kv JY Ku JX Kt JW Ks
end Go.Proofs.YteofmaagnphonaaGreatDoor
