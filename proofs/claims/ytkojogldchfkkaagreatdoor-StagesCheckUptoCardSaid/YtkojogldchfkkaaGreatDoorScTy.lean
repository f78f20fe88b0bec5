/- What the program's types are, as the machine reads them. -/
import Derived.Test.YtkojogldchfkkaaGreatDoorVc3
import Derived.Test.YtkojogldchfkkaaGreatDoorProg
import Derived.KernelRfl
open List
namespace Go.Proofs.YtkojogldchfkkaaGreatDoor
open Go.Vc
theorem NK:eP Tryz.prog 3=some ⟨false,1,[.int .i64 0],.int .i64⟩:=by kernel_rfl
theorem N0:eN Tryz.prog 3=.int .i64:=by kernel_rfl
theorem NJ:eP Tryz.prog 4=some ⟨false,1,[.bool false],.bool⟩:=by kernel_rfl
theorem NZ:eN Tryz.prog 4=.bool:=by kernel_rfl
theorem NI:eP Tryz.prog 5=some ⟨false,1,[.int .u8 0],.int .u8⟩:=by kernel_rfl
theorem NY:eN Tryz.prog 5=.int .u8:=by kernel_rfl
theorem NH:eP Tryz.prog 9=some ⟨false,1,[.string ⟨#[]⟩],.str⟩:=by kernel_rfl
theorem NX:eN Tryz.prog 9=.str:=by kernel_rfl
theorem IJ:eP Tryz.prog 22=some ⟨false,1,[.slice none 0 0],.slice 46 2 32 [.string ⟨#[]⟩,.string ⟨#[]⟩]⟩:=by kernel_rfl
theorem Jh:eN Tryz.prog 22=.slice 46 2 32 [.string ⟨#[]⟩,.string ⟨#[]⟩]:=by kernel_rfl
theorem II:eP Tryz.prog 23=some ⟨false,1,[.slice none 0 0],.slice 44 3 40 [.string ⟨#[]⟩,.string ⟨#[]⟩,.bool false]⟩:=by kernel_rfl
theorem Jg:eN Tryz.prog 23=.slice 44 3 40 [.string ⟨#[]⟩,.string ⟨#[]⟩,.bool false]:=by kernel_rfl
theorem IH:eP Tryz.prog 24=some ⟨false,1,[.slice none 0 0],.slice 48 4 40 [.string ⟨#[]⟩,.string ⟨#[]⟩,.bool false,.bool false]⟩:=by kernel_rfl
theorem Jf:eN Tryz.prog 24=.slice 48 4 40 [.string ⟨#[]⟩,.string ⟨#[]⟩,.bool false,.bool false]:=by kernel_rfl
theorem IG:eP Tryz.prog 26=some ⟨true,4,[.slice none 0 0,.slice none 0 0,.slice none 0 0,.slice none 0 0],.struct [(0,1,false),(1,1,false),(2,1,false),(3,1,false)]⟩:=by kernel_rfl
theorem IF:eP Tryz.prog 27=some ⟨false,1,[.slice none 0 0],.slice 50 10 120 [.int .i64 0,.string ⟨#[]⟩,.string ⟨#[]⟩,.bool false,.string ⟨#[]⟩,.string ⟨#[]⟩,.string ⟨#[]⟩,.string ⟨#[]⟩,.bool false,.bool false]⟩:=by kernel_rfl
theorem Je:eN Tryz.prog 27=.slice 50 10 120 [.int .i64 0,.string ⟨#[]⟩,.string ⟨#[]⟩,.bool false,.string ⟨#[]⟩,.string ⟨#[]⟩,.string ⟨#[]⟩,.string ⟨#[]⟩,.bool false,.bool false]:=by kernel_rfl
theorem IE:eP Tryz.prog 31=some ⟨false,1,[.int .i64 0],.int .i64⟩:=by kernel_rfl
theorem Jd:eN Tryz.prog 31=.int .i64:=by kernel_rfl
theorem ID:eP Tryz.prog 44=some ⟨true,3,[.string ⟨#[]⟩,.string ⟨#[]⟩,.bool false],.struct [(0,1,false),(1,1,false),(2,1,false)]⟩:=by kernel_rfl
theorem Jc:eN Tryz.prog 44=.struct [(0,1,false),(1,1,false),(2,1,false)]:=by kernel_rfl
theorem IC:eP Tryz.prog 46=some ⟨true,2,[.string ⟨#[]⟩,.string ⟨#[]⟩],.struct [(0,1,false),(1,1,false)]⟩:=by kernel_rfl
theorem Jb:eN Tryz.prog 46=.struct [(0,1,false),(1,1,false)]:=by kernel_rfl
theorem IB:eP Tryz.prog 48=some ⟨true,4,[.string ⟨#[]⟩,.string ⟨#[]⟩,.bool false,.bool false],.struct [(0,1,false),(1,1,false),(2,1,false),(3,1,false)]⟩:=by kernel_rfl
theorem Ja:eN Tryz.prog 48=.struct [(0,1,false),(1,1,false),(2,1,false),(3,1,false)]:=by kernel_rfl
theorem IA:eP Tryz.prog 50=some ⟨true,10,[.int .i64 0,.string ⟨#[]⟩,.string ⟨#[]⟩,.bool false,.string ⟨#[]⟩,.string ⟨#[]⟩,.string ⟨#[]⟩,.string ⟨#[]⟩,.bool false,.bool false],.struct [(0,1,false),(1,3,true),(4,2,true),(6,4,true)]⟩:=by kernel_rfl
theorem I9:eN Tryz.prog 50=.struct [(0,1,false),(1,3,true),(4,2,true),(6,4,true)]:=by kernel_rfl
theorem Iz:eP Tryz.prog 63=some ⟨false,1,[.map none],.map 9 44⟩:=by kernel_rfl
theorem I8:eN Tryz.prog 63=.map 9 44:=by kernel_rfl
theorem Iy:eP Tryz.prog 64=some ⟨false,1,[.map none],.map 9 9⟩:=by kernel_rfl
theorem I7:eN Tryz.prog 64=.map 9 9:=by kernel_rfl
theorem Ix:eP Tryz.prog 65=some ⟨false,1,[.map none],.map 9 48⟩:=by kernel_rfl
theorem I6:eN Tryz.prog 65=.map 9 48:=by kernel_rfl
theorem Iw:eP Tryz.prog 67=some ⟨true,4,[.slice none 0 0,.map none,.map none,.map none],.struct [(0,1,false),(1,1,false),(2,1,false),(3,1,false)]⟩:=by kernel_rfl
theorem Iv:eP Tryz.prog 70=some ⟨false,1,[.map none],.map 9 4⟩:=by kernel_rfl
theorem I5:eN Tryz.prog 70=.map 9 4:=by kernel_rfl
theorem Iu:eP Tryz.prog 75=some ⟨true,2,[.int .i64 0,.string ⟨#[]⟩],.struct [(0,1,false),(1,1,false)]⟩:=by kernel_rfl
theorem I4:eN Tryz.prog 77=.map 75 4:=by kernel_rfl
theorem It:eP Tryz.prog 83=some ⟨true,3,[.string ⟨#[]⟩,.slice none 0 0,.slice none 0 0],.struct [(0,1,false),(1,1,false),(2,1,false)]⟩:=by kernel_rfl
theorem Dp:eP Tryz.prog 114=some ⟨false,1,[.slice none 0 0],.slice 9 1 16 [.string ⟨#[]⟩]⟩:=by kernel_rfl
theorem Ec:eN Tryz.prog 114=.slice 9 1 16 [.string ⟨#[]⟩]:=by kernel_rfl
theorem Do:eP Tryz.prog 122=some ⟨true,2,[.string ⟨#[]⟩,.slice none 0 0],.struct [(0,1,false),(1,1,false)]⟩:=by kernel_rfl
theorem Eb:eN Tryz.prog 122=.struct [(0,1,false),(1,1,false)]:=by kernel_rfl
theorem Dn:eP Tryz.prog 123=some ⟨false,1,[.slice none 0 0],.slice 122 2 40 [.string ⟨#[]⟩,.slice none 0 0]⟩:=by kernel_rfl
theorem Ea:eN Tryz.prog 123=.slice 122 2 40 [.string ⟨#[]⟩,.slice none 0 0]:=by kernel_rfl
theorem Dm:eP Tryz.prog 133=some ⟨false,1,[.slice none 0 0],.slice 31 1 8 [.int .i64 0]⟩:=by kernel_rfl
theorem D9:eN Tryz.prog 133=.slice 31 1 8 [.int .i64 0]:=by kernel_rfl
theorem Dl:eP Tryz.prog 135=some ⟨false,1,[.pointer none],.ptr 181⟩:=by kernel_rfl
theorem Dk:eP Tryz.prog 142=some ⟨true,2,[.slice none 0 0,.bool false],.struct [(0,1,false),(1,1,false)]⟩:=by kernel_rfl
theorem Dj:eP Tryz.prog 151=some ⟨false,1,[.pointer none],.ptr 154⟩:=by kernel_rfl
theorem D8:eN Tryz.prog 151=.ptr 154:=by kernel_rfl
theorem Di:eP Tryz.prog 152=some ⟨false,1,[.slice none 0 0],.slice 5 1 1 [.int .u8 0]⟩:=by kernel_rfl
theorem D7:eN Tryz.prog 152=.slice 5 1 1 [.int .u8 0]:=by kernel_rfl
theorem Dh:eP Tryz.prog 154=some ⟨true,2,[.pointer none,.slice none 0 0],.struct [(0,1,false),(1,1,false)]⟩:=by kernel_rfl
theorem D6:eN Tryz.prog 156=.other:=by kernel_rfl
theorem D5:eN Tryz.prog 163=.int .u64:=by kernel_rfl
theorem Dg:eP Tryz.prog 176=some ⟨false,1,[.int .u64 0],.int .u64⟩:=by kernel_rfl
theorem D4:eN Tryz.prog 176=.int .u64:=by kernel_rfl
theorem Df:eP Tryz.prog 178=some ⟨false,1,[.map none],.map 9 3⟩:=by kernel_rfl
theorem D3:eN Tryz.prog 178=.map 9 3:=by kernel_rfl
theorem De:eP Tryz.prog 179=some ⟨false,1,[.map none],.map 9 46⟩:=by kernel_rfl
theorem D2:eN Tryz.prog 179=.map 9 46:=by kernel_rfl
theorem Dd:eP Tryz.prog 181=some ⟨true,5,[.slice none 0 0,.map none,.map none,.map none,.map none],.struct [(0,1,false),(1,1,false),(2,1,false),(3,1,false),(4,1,false)]⟩:=by kernel_rfl
theorem Dc:eP Tryz.prog 228=some ⟨true,10,[.string ⟨#[]⟩,.string ⟨#[]⟩,.string ⟨#[]⟩,.bool false,.string ⟨#[]⟩,.string ⟨#[]⟩,.string ⟨#[]⟩,.string ⟨#[]⟩,.bool false,.bool false],.struct [(0,1,false),(1,3,true),(4,2,true),(6,4,true)]⟩:=by kernel_rfl
theorem Db:eP Tryz.prog 231=some ⟨false,1,[.pointer none],.other⟩:=by kernel_rfl
theorem D1:eN Tryz.prog 231=.other:=by kernel_rfl
theorem Da:eP Tryz.prog 233=some ⟨true,24,[.int .u8 0,.int .u8 0,.int .u8 0,.int .u8 0,.int .u8 0,.int .u8 0,.int .u8 0,.int .u8 0,.int .u8 0,.int .u8 0,.int .u8 0,.int .u8 0,.int .u8 0,.int .u8 0,.int .u8 0,.int .u8 0,.int .u8 0,.int .u8 0,.int .u8 0,.int .u8 0,.int .u8 0,.int .u8 0,.int .u8 0,.int .u8 0],.arr 24 5 1 false⟩:=by kernel_rfl
theorem C9:eP Tryz.prog 262=some ⟨true,65,[.int .u8 0,.int .u8 0,.int .u8 0,.int .u8 0,.int .u8 0,.int .u8 0,.int .u8 0,.int .u8 0,.int .u8 0,.int .u8 0,.int .u8 0,.int .u8 0,.int .u8 0,.int .u8 0,.int .u8 0,.int .u8 0,.int .u8 0,.int .u8 0,.int .u8 0,.int .u8 0,.int .u8 0,.int .u8 0,.int .u8 0,.int .u8 0,.int .u8 0,.int .u8 0,.int .u8 0,.int .u8 0,.int .u8 0,.int .u8 0,.int .u8 0,.int .u8 0,.int .u8 0,.int .u8 0,.int .u8 0,.int .u8 0,.int .u8 0,.int .u8 0,.int .u8 0,.int .u8 0,.int .u8 0,.int .u8 0,.int .u8 0,.int .u8 0,.int .u8 0,.int .u8 0,.int .u8 0,.int .u8 0,.int .u8 0,.int .u8 0,.int .u8 0,.int .u8 0,.int .u8 0,.int .u8 0,.int .u8 0,.int .u8 0,.int .u8 0,.int .u8 0,.int .u8 0,.int .u8 0,.int .u8 0,.int .u8 0,.int .u8 0,.int .u8 0,.int .u8 0],.arr 65 5 1 false⟩:=by kernel_rfl
theorem C8:eP Tryz.prog 286=some ⟨true,64,[.int .u8 0,.int .u8 0,.int .u8 0,.int .u8 0,.int .u8 0,.int .u8 0,.int .u8 0,.int .u8 0,.int .u8 0,.int .u8 0,.int .u8 0,.int .u8 0,.int .u8 0,.int .u8 0,.int .u8 0,.int .u8 0,.int .u8 0,.int .u8 0,.int .u8 0,.int .u8 0,.int .u8 0,.int .u8 0,.int .u8 0,.int .u8 0,.int .u8 0,.int .u8 0,.int .u8 0,.int .u8 0,.int .u8 0,.int .u8 0,.int .u8 0,.int .u8 0,.int .u8 0,.int .u8 0,.int .u8 0,.int .u8 0,.int .u8 0,.int .u8 0,.int .u8 0,.int .u8 0,.int .u8 0,.int .u8 0,.int .u8 0,.int .u8 0,.int .u8 0,.int .u8 0,.int .u8 0,.int .u8 0,.int .u8 0,.int .u8 0,.int .u8 0,.int .u8 0,.int .u8 0,.int .u8 0,.int .u8 0,.int .u8 0,.int .u8 0,.int .u8 0,.int .u8 0,.int .u8 0,.int .u8 0,.int .u8 0,.int .u8 0,.int .u8 0],.arr 64 5 1 false⟩:=by kernel_rfl
theorem NW:nT Tryz.prog 9=.tk .str:=by kernel_rfl
theorem I2:nT Tryz.prog 75=.ks [.i .i64,.s]:=by kernel_rfl
theorem Nq:xV Tryz.prog 3=false:=by kernel_rfl
theorem Np:xV Tryz.prog 4=false:=by kernel_rfl
theorem Nn:xV Tryz.prog 9=false:=by kernel_rfl
theorem HD:xV Tryz.prog 44=true:=by kernel_rfl
theorem HC:xV Tryz.prog 46=true:=by kernel_rfl
theorem HB:xV Tryz.prog 48=true:=by kernel_rfl
theorem N4:ym Tryz.prog 7=some [.i .i64,.i .i64,.b,.i .u8]:=by kernel_rfl
theorem N3:ym Tryz.prog 8=some [.i .i64,.i .i64,.b,.i .u8]:=by kernel_rfl
theorem Jo:ym Tryz.prog 44=some [.s,.s,.b]:=by kernel_rfl
theorem JA:ft Tryz.prog 44=true:=by kernel_rfl
theorem Jn:ym Tryz.prog 46=some [.s,.s]:=by kernel_rfl
theorem Jz:ft Tryz.prog 46=true:=by kernel_rfl
theorem Jm:ym Tryz.prog 48=some [.s,.s,.b,.b]:=by kernel_rfl
theorem Jy:ft Tryz.prog 48=true:=by kernel_rfl
theorem Jl:ym Tryz.prog 50=some [.i .i64,.s,.s,.b,.s,.s,.s,.s,.b,.b]:=by kernel_rfl
theorem Jx:ft Tryz.prog 50=true:=by kernel_rfl
attribute [go_sem] NK N0 NJ NZ NI NY NH NX
attribute [go_sem] IJ Jh II Jg IH Jf IG IF Je IE Jd
attribute [go_sem] ID Jc IC Jb IB Ja IA I9 Iz I8 Iy I7
attribute [go_sem] Ix I6 Iw Iv I5 Iu I4 It
attribute [go_sem] Dp Ec Do Eb Dn Ea
attribute [go_sem] Dm D9 Dl Dk Dj D8 Di D7
attribute [go_sem] Dh D6 D5 Dg D4
attribute [go_sem] Df D3 De D2 Dd
attribute [go_sem] Dc Db D1 Da
attribute [go_sem] C9
attribute [go_sem] C8
attribute [go_sem] NW I2 Nq Np Nn
attribute [go_sem] HD HC HB
attribute [go_sem] N4 N3 Jo JA Jn Jz Jm Jy Jl Jx
end Go.Proofs.YtkojogldchfkkaaGreatDoor
