/- What the program's types are, as the machine reads them. -/
import Derived.Test.YtbcjkdopkcbblaaGreatDoorVc3
import Derived.Test.YtbcjkdopkcbblaaGreatDoorProg
import Derived.KernelRfl
open List
namespace Go.Proofs.YtbcjkdopkcbblaaGreatDoor
open Go.Vc
theorem Pq:dM Tryz.prog 3=some ⟨false,1,[.int .i64 0],.int .i64⟩:=by kernel_rfl
theorem PE:dL Tryz.prog 3=.int .i64:=by kernel_rfl
theorem Pp:dM Tryz.prog 4=some ⟨false,1,[.bool false],.bool⟩:=by kernel_rfl
theorem Po:dM Tryz.prog 5=some ⟨false,1,[.int .u8 0],.int .u8⟩:=by kernel_rfl
theorem PD:dL Tryz.prog 5=.int .u8:=by kernel_rfl
theorem Pn:dM Tryz.prog 9=some ⟨false,1,[.string ⟨#[]⟩],.str⟩:=by kernel_rfl
theorem PC:dL Tryz.prog 9=.str:=by kernel_rfl
theorem JG:dM Tryz.prog 22=some ⟨false,1,[.slice none 0 0],.slice 50 2 32 [.string ⟨#[]⟩,.string ⟨#[]⟩]⟩:=by kernel_rfl
theorem Kc:dL Tryz.prog 22=.slice 50 2 32 [.string ⟨#[]⟩,.string ⟨#[]⟩]:=by kernel_rfl
theorem JF:dM Tryz.prog 23=some ⟨false,1,[.slice none 0 0],.slice 57 3 40 [.string ⟨#[]⟩,.string ⟨#[]⟩,.bool false]⟩:=by kernel_rfl
theorem Kb:dL Tryz.prog 23=.slice 57 3 40 [.string ⟨#[]⟩,.string ⟨#[]⟩,.bool false]:=by kernel_rfl
theorem JE:dM Tryz.prog 24=some ⟨false,1,[.slice none 0 0],.slice 59 4 40 [.string ⟨#[]⟩,.string ⟨#[]⟩,.bool false,.bool false]⟩:=by kernel_rfl
theorem Ka:dL Tryz.prog 24=.slice 59 4 40 [.string ⟨#[]⟩,.string ⟨#[]⟩,.bool false,.bool false]:=by kernel_rfl
theorem JD:dM Tryz.prog 26=some ⟨true,4,[.slice none 0 0,.slice none 0 0,.slice none 0 0,.slice none 0 0],.struct [(0,1,false),(1,1,false),(2,1,false),(3,1,false)]⟩:=by kernel_rfl
theorem JC:dM Tryz.prog 27=some ⟨false,1,[.slice none 0 0],.slice 61 10 120 [.int .i64 0,.string ⟨#[]⟩,.string ⟨#[]⟩,.bool false,.string ⟨#[]⟩,.string ⟨#[]⟩,.string ⟨#[]⟩,.string ⟨#[]⟩,.bool false,.bool false]⟩:=by kernel_rfl
theorem J9:dL Tryz.prog 27=.slice 61 10 120 [.int .i64 0,.string ⟨#[]⟩,.string ⟨#[]⟩,.bool false,.string ⟨#[]⟩,.string ⟨#[]⟩,.string ⟨#[]⟩,.string ⟨#[]⟩,.bool false,.bool false]:=by kernel_rfl
theorem JB:dM Tryz.prog 28=some ⟨false,1,[.slice none 0 0],.slice 74 2 16 [.int .i64 0,.bool false]⟩:=by kernel_rfl
theorem J8:dL Tryz.prog 28=.slice 74 2 16 [.int .i64 0,.bool false]:=by kernel_rfl
theorem JA:dM Tryz.prog 33=some ⟨false,1,[.slice none 0 0],.slice 3 1 8 [.int .i64 0]⟩:=by kernel_rfl
theorem J7:dL Tryz.prog 33=.slice 3 1 8 [.int .i64 0]:=by kernel_rfl
theorem Jz:dM Tryz.prog 34=some ⟨false,1,[.int .i64 0],.int .i64⟩:=by kernel_rfl
theorem J6:dL Tryz.prog 34=.int .i64:=by kernel_rfl
theorem Jy:dM Tryz.prog 43=some ⟨false,1,[.map none],.map 9 57⟩:=by kernel_rfl
theorem J5:dL Tryz.prog 43=.map 9 57:=by kernel_rfl
theorem Jx:dM Tryz.prog 44=some ⟨false,1,[.map none],.map 9 9⟩:=by kernel_rfl
theorem J4:dL Tryz.prog 44=.map 9 9:=by kernel_rfl
theorem Jw:dM Tryz.prog 45=some ⟨false,1,[.map none],.map 9 59⟩:=by kernel_rfl
theorem J3:dL Tryz.prog 45=.map 9 59:=by kernel_rfl
theorem Jv:dM Tryz.prog 47=some ⟨true,4,[.slice none 0 0,.map none,.map none,.map none],.struct [(0,1,false),(1,1,false),(2,1,false),(3,1,false)]⟩:=by kernel_rfl
theorem Ju:dM Tryz.prog 50=some ⟨true,2,[.string ⟨#[]⟩,.string ⟨#[]⟩],.struct [(0,1,false),(1,1,false)]⟩:=by kernel_rfl
theorem J2:dL Tryz.prog 50=.struct [(0,1,false),(1,1,false)]:=by kernel_rfl
theorem Jt:dM Tryz.prog 57=some ⟨true,3,[.string ⟨#[]⟩,.string ⟨#[]⟩,.bool false],.struct [(0,1,false),(1,1,false),(2,1,false)]⟩:=by kernel_rfl
theorem J1:dL Tryz.prog 57=.struct [(0,1,false),(1,1,false),(2,1,false)]:=by kernel_rfl
theorem Js:dM Tryz.prog 59=some ⟨true,4,[.string ⟨#[]⟩,.string ⟨#[]⟩,.bool false,.bool false],.struct [(0,1,false),(1,1,false),(2,1,false),(3,1,false)]⟩:=by kernel_rfl
theorem J0:dL Tryz.prog 59=.struct [(0,1,false),(1,1,false),(2,1,false),(3,1,false)]:=by kernel_rfl
theorem Jr:dM Tryz.prog 61=some ⟨true,10,[.int .i64 0,.string ⟨#[]⟩,.string ⟨#[]⟩,.bool false,.string ⟨#[]⟩,.string ⟨#[]⟩,.string ⟨#[]⟩,.string ⟨#[]⟩,.bool false,.bool false],.struct [(0,1,false),(1,3,true),(4,2,true),(6,4,true)]⟩:=by kernel_rfl
theorem JZ:dL Tryz.prog 61=.struct [(0,1,false),(1,3,true),(4,2,true),(6,4,true)]:=by kernel_rfl
theorem JY:dL Tryz.prog 68=.ptr 111:=by kernel_rfl
theorem Jq:dM Tryz.prog 74=some ⟨true,2,[.int .i64 0,.bool false],.struct [(0,1,false),(1,1,false)]⟩:=by kernel_rfl
theorem Jp:dM Tryz.prog 88=some ⟨false,1,[.slice none 0 0],.slice 9 1 16 [.string ⟨#[]⟩]⟩:=by kernel_rfl
theorem JX:dL Tryz.prog 88=.slice 9 1 16 [.string ⟨#[]⟩]:=by kernel_rfl
theorem Jo:dM Tryz.prog 95=some ⟨false,1,[.map none],.map 9 4⟩:=by kernel_rfl
theorem JW:dL Tryz.prog 95=.map 9 4:=by kernel_rfl
theorem Jn:dM Tryz.prog 98=some ⟨true,3,[.string ⟨#[]⟩,.slice none 0 0,.slice none 0 0],.struct [(0,1,false),(1,1,false),(2,1,false)]⟩:=by kernel_rfl
theorem Ep:dM Tryz.prog 108=some ⟨false,1,[.pointer none],.ptr 151⟩:=by kernel_rfl
theorem Eo:dM Tryz.prog 111=some ⟨true,6,[.pointer none,.bool false,.bool false,.int .i64 0,.bool false,.int .i64 0],.struct [(0,1,false),(1,1,false),(2,1,false),(3,1,false),(4,1,false),(5,1,false)]⟩:=by kernel_rfl
theorem Em:dM Tryz.prog 135=some ⟨true,2,[.int .i64 0,.string ⟨#[]⟩],.struct [(0,1,false),(1,1,false)]⟩:=by kernel_rfl
theorem Fa:dL Tryz.prog 137=.map 135 4:=by kernel_rfl
theorem El:dM Tryz.prog 143=some ⟨true,2,[.string ⟨#[]⟩,.slice none 0 0],.struct [(0,1,false),(1,1,false)]⟩:=by kernel_rfl
theorem E9:dL Tryz.prog 143=.struct [(0,1,false),(1,1,false)]:=by kernel_rfl
theorem Ek:dM Tryz.prog 144=some ⟨false,1,[.slice none 0 0],.slice 143 2 40 [.string ⟨#[]⟩,.slice none 0 0]⟩:=by kernel_rfl
theorem E8:dL Tryz.prog 144=.slice 143 2 40 [.string ⟨#[]⟩,.slice none 0 0]:=by kernel_rfl
theorem Ej:dM Tryz.prog 148=some ⟨false,1,[.map none],.map 9 3⟩:=by kernel_rfl
theorem E7:dL Tryz.prog 148=.map 9 3:=by kernel_rfl
theorem Ei:dM Tryz.prog 149=some ⟨false,1,[.map none],.map 9 50⟩:=by kernel_rfl
theorem E6:dL Tryz.prog 149=.map 9 50:=by kernel_rfl
theorem Eh:dM Tryz.prog 151=some ⟨true,5,[.slice none 0 0,.map none,.map none,.map none,.map none],.struct [(0,1,false),(1,1,false),(2,1,false),(3,1,false),(4,1,false)]⟩:=by kernel_rfl
theorem Eg:dM Tryz.prog 163=some ⟨false,1,[.slice none 0 0],.slice 34 1 8 [.int .i64 0]⟩:=by kernel_rfl
theorem E5:dL Tryz.prog 163=.slice 34 1 8 [.int .i64 0]:=by kernel_rfl
theorem Ef:dM Tryz.prog 167=some ⟨true,2,[.slice none 0 0,.bool false],.struct [(0,1,false),(1,1,false)]⟩:=by kernel_rfl
theorem Ee:dM Tryz.prog 178=some ⟨false,1,[.pointer none],.ptr 181⟩:=by kernel_rfl
theorem E4:dL Tryz.prog 178=.ptr 181:=by kernel_rfl
theorem Ed:dM Tryz.prog 179=some ⟨false,1,[.slice none 0 0],.slice 5 1 1 [.int .u8 0]⟩:=by kernel_rfl
theorem E3:dL Tryz.prog 179=.slice 5 1 1 [.int .u8 0]:=by kernel_rfl
theorem Ec:dM Tryz.prog 181=some ⟨true,2,[.pointer none,.slice none 0 0],.struct [(0,1,false),(1,1,false)]⟩:=by kernel_rfl
theorem E1:dL Tryz.prog 183=.other:=by kernel_rfl
theorem E0:dL Tryz.prog 190=.int .u64:=by kernel_rfl
theorem Eb:dM Tryz.prog 239=some ⟨true,10,[.string ⟨#[]⟩,.string ⟨#[]⟩,.string ⟨#[]⟩,.bool false,.string ⟨#[]⟩,.string ⟨#[]⟩,.string ⟨#[]⟩,.string ⟨#[]⟩,.bool false,.bool false],.struct [(0,1,false),(1,3,true),(4,2,true),(6,4,true)]⟩:=by kernel_rfl
theorem Ea:dM Tryz.prog 243=some ⟨false,1,[.pointer none],.other⟩:=by kernel_rfl
theorem EZ:dL Tryz.prog 243=.other:=by kernel_rfl
theorem PB:ol Tryz.prog 9=.tk .str:=by kernel_rfl
theorem EV:ol Tryz.prog 135=.ks [.i .i64,.s]:=by kernel_rfl
theorem O8:yO Tryz.prog 3=false:=by kernel_rfl
theorem O7:yO Tryz.prog 4=false:=by kernel_rfl
theorem O6:yO Tryz.prog 9=false:=by kernel_rfl
theorem ID:yO Tryz.prog 50=true:=by kernel_rfl
theorem IC:yO Tryz.prog 57=true:=by kernel_rfl
theorem IB:yO Tryz.prog 59=true:=by kernel_rfl
theorem PO:y5 Tryz.prog 7=some [.i .i64,.i .i64,.b,.i .u8]:=by kernel_rfl
theorem PN:y5 Tryz.prog 8=some [.i .i64,.i .i64,.b,.i .u8]:=by kernel_rfl
theorem Kl:y5 Tryz.prog 50=some [.s,.s]:=by kernel_rfl
theorem Kx:eG Tryz.prog 50=true:=by kernel_rfl
theorem Kj:y5 Tryz.prog 57=some [.s,.s,.b]:=by kernel_rfl
theorem Kw:eG Tryz.prog 57=true:=by kernel_rfl
theorem Ki:y5 Tryz.prog 59=some [.s,.s,.b,.b]:=by kernel_rfl
theorem Kv:eG Tryz.prog 59=true:=by kernel_rfl
theorem Kh:y5 Tryz.prog 61=some [.i .i64,.s,.s,.b,.s,.s,.s,.s,.b,.b]:=by kernel_rfl
theorem Ku:eG Tryz.prog 61=true:=by kernel_rfl
attribute [go_sem] Pq PE Pp Po PD Pn PC
attribute [go_sem] JG Kc JF Kb JE Ka JD JC J9 JB J8 JA J7 Jz J6
attribute [go_sem] Jy J5 Jx J4 Jw J3 Jv Ju J2 Jt J1 Js J0 Jr JZ
attribute [go_sem] JY Jq
attribute [go_sem] Jp JX Jo JW Jn
attribute [go_sem] Ep Eo
attribute [go_sem] Em Fa El E9 Ek E8 Ej E7 Ei E6
attribute [go_sem] Eh Eg E5 Ef
attribute [go_sem] Ee E4 Ed E3 Ec E1 E0
attribute [go_sem] Eb
attribute [go_sem] Ea EZ
attribute [go_sem] PB EV O8 O7 O6
attribute [go_sem] ID
attribute [go_sem] IC IB
attribute [go_sem] PO PN Kl Kx Kj Kw Ki Kv Kh Ku
end Go.Proofs.YtbcjkdopkcbblaaGreatDoor
