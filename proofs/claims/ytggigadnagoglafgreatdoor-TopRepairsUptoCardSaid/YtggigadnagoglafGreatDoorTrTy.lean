/- What the program's types are, as the machine reads them. -/
import Derived.Test.YtggigadnagoglafGreatDoorVc3
import Derived.Test.YtggigadnagoglafGreatDoorProg
import Derived.KernelRfl
open List
namespace Go.Proofs.YtggigadnagoglafGreatDoor
open Go.Vc
theorem Jh:ej Tryz.prog 3=some ⟨false,1,[.int .i64 0],.int .i64⟩:=by kernel_rfl
theorem Jx:z7 Tryz.prog 3=.int .i64:=by kernel_rfl
theorem Jg:ej Tryz.prog 4=some ⟨false,1,[.bool false],.bool⟩:=by kernel_rfl
theorem Jf:ej Tryz.prog 5=some ⟨false,1,[.int .u8 0],.int .u8⟩:=by kernel_rfl
theorem Jw:z7 Tryz.prog 5=.int .u8:=by kernel_rfl
theorem Je:ej Tryz.prog 9=some ⟨false,1,[.string ⟨#[]⟩],.str⟩:=by kernel_rfl
theorem Jv:z7 Tryz.prog 9=.str:=by kernel_rfl
theorem Ey:ej Tryz.prog 22=some ⟨false,1,[.slice none 0 0],.slice 47 2 32 [.string ⟨#[]⟩,.string ⟨#[]⟩]⟩:=by kernel_rfl
theorem E9:z7 Tryz.prog 22=.slice 47 2 32 [.string ⟨#[]⟩,.string ⟨#[]⟩]:=by kernel_rfl
theorem Ex:ej Tryz.prog 23=some ⟨false,1,[.slice none 0 0],.slice 45 3 40 [.string ⟨#[]⟩,.string ⟨#[]⟩,.bool false]⟩:=by kernel_rfl
theorem E8:z7 Tryz.prog 23=.slice 45 3 40 [.string ⟨#[]⟩,.string ⟨#[]⟩,.bool false]:=by kernel_rfl
theorem Ew:ej Tryz.prog 24=some ⟨false,1,[.slice none 0 0],.slice 49 4 40 [.string ⟨#[]⟩,.string ⟨#[]⟩,.bool false,.bool false]⟩:=by kernel_rfl
theorem E7:z7 Tryz.prog 24=.slice 49 4 40 [.string ⟨#[]⟩,.string ⟨#[]⟩,.bool false,.bool false]:=by kernel_rfl
theorem Eu:ej Tryz.prog 26=some ⟨true,4,[.slice none 0 0,.slice none 0 0,.slice none 0 0,.slice none 0 0],.struct [(0,1,false),(1,1,false),(2,1,false),(3,1,false)]⟩:=by kernel_rfl
theorem Et:ej Tryz.prog 27=some ⟨false,1,[.slice none 0 0],.slice 56 10 120 [.int .i64 0,.string ⟨#[]⟩,.string ⟨#[]⟩,.bool false,.string ⟨#[]⟩,.string ⟨#[]⟩,.string ⟨#[]⟩,.string ⟨#[]⟩,.bool false,.bool false]⟩:=by kernel_rfl
theorem E6:z7 Tryz.prog 27=.slice 56 10 120 [.int .i64 0,.string ⟨#[]⟩,.string ⟨#[]⟩,.bool false,.string ⟨#[]⟩,.string ⟨#[]⟩,.string ⟨#[]⟩,.string ⟨#[]⟩,.bool false,.bool false]:=by kernel_rfl
theorem Es:ej Tryz.prog 28=some ⟨false,1,[.slice none 0 0],.slice 51 10 120 [.int .i64 0,.string ⟨#[]⟩,.string ⟨#[]⟩,.bool false,.string ⟨#[]⟩,.string ⟨#[]⟩,.string ⟨#[]⟩,.string ⟨#[]⟩,.bool false,.bool false]⟩:=by kernel_rfl
theorem E5:z7 Tryz.prog 28=.slice 51 10 120 [.int .i64 0,.string ⟨#[]⟩,.string ⟨#[]⟩,.bool false,.string ⟨#[]⟩,.string ⟨#[]⟩,.string ⟨#[]⟩,.string ⟨#[]⟩,.bool false,.bool false]:=by kernel_rfl
theorem Er:ej Tryz.prog 31=some ⟨false,1,[.slice none 0 0],.slice 76 5 72 [.string ⟨#[]⟩,.int .i64 0,.string ⟨#[]⟩,.string ⟨#[]⟩,.string ⟨#[]⟩]⟩:=by kernel_rfl
theorem E4:z7 Tryz.prog 31=.slice 76 5 72 [.string ⟨#[]⟩,.int .i64 0,.string ⟨#[]⟩,.string ⟨#[]⟩,.string ⟨#[]⟩]:=by kernel_rfl
theorem Ep:ej Tryz.prog 33=some ⟨true,1,[.slice none 0 0],.struct [(0,1,false)]⟩:=by kernel_rfl
theorem Eo:ej Tryz.prog 34=some ⟨false,1,[.slice none 0 0],.slice 148 2 24 [.int .i64 0,.string ⟨#[]⟩]⟩:=by kernel_rfl
theorem E3:z7 Tryz.prog 34=.slice 148 2 24 [.int .i64 0,.string ⟨#[]⟩]:=by kernel_rfl
theorem Em:ej Tryz.prog 36=some ⟨true,3,[.slice none 0 0,.slice none 0 0,.slice none 0 0],.struct [(0,1,false),(1,1,true),(2,1,false)]⟩:=by kernel_rfl
theorem E1:z7 Tryz.prog 37=.int .i64:=by kernel_rfl
theorem El:ej Tryz.prog 41=some ⟨true,2,[.bool false,.bool false],.struct [(0,1,false),(1,1,false)]⟩:=by kernel_rfl
theorem Ek:ej Tryz.prog 45=some ⟨true,3,[.string ⟨#[]⟩,.string ⟨#[]⟩,.bool false],.struct [(0,1,false),(1,1,false),(2,1,false)]⟩:=by kernel_rfl
theorem E0:z7 Tryz.prog 45=.struct [(0,1,false),(1,1,false),(2,1,false)]:=by kernel_rfl
theorem Ej:ej Tryz.prog 47=some ⟨true,2,[.string ⟨#[]⟩,.string ⟨#[]⟩],.struct [(0,1,false),(1,1,false)]⟩:=by kernel_rfl
theorem EZ:z7 Tryz.prog 47=.struct [(0,1,false),(1,1,false)]:=by kernel_rfl
theorem Ei:ej Tryz.prog 49=some ⟨true,4,[.string ⟨#[]⟩,.string ⟨#[]⟩,.bool false,.bool false],.struct [(0,1,false),(1,1,false),(2,1,false),(3,1,false)]⟩:=by kernel_rfl
theorem EY:z7 Tryz.prog 49=.struct [(0,1,false),(1,1,false),(2,1,false),(3,1,false)]:=by kernel_rfl
theorem Eh:ej Tryz.prog 51=some ⟨true,10,[.int .i64 0,.string ⟨#[]⟩,.string ⟨#[]⟩,.bool false,.string ⟨#[]⟩,.string ⟨#[]⟩,.string ⟨#[]⟩,.string ⟨#[]⟩,.bool false,.bool false],.struct [(0,1,false),(1,3,true),(4,2,true),(6,4,true)]⟩:=by kernel_rfl
theorem EX:z7 Tryz.prog 51=.struct [(0,1,false),(1,3,true),(4,2,true),(6,4,true)]:=by kernel_rfl
theorem EW:z7 Tryz.prog 53=.slice 94 4 48 [.string ⟨#[]⟩,.string ⟨#[]⟩,.int .i64 0,.int .i64 0]:=by kernel_rfl
theorem Eg:ej Tryz.prog 56=some ⟨true,10,[.int .i64 0,.string ⟨#[]⟩,.string ⟨#[]⟩,.bool false,.string ⟨#[]⟩,.string ⟨#[]⟩,.string ⟨#[]⟩,.string ⟨#[]⟩,.bool false,.bool false],.struct [(0,1,false),(1,3,true),(4,2,true),(6,4,true)]⟩:=by kernel_rfl
theorem EV:z7 Tryz.prog 56=.struct [(0,1,false),(1,3,true),(4,2,true),(6,4,true)]:=by kernel_rfl
theorem Ef:ej Tryz.prog 64=some ⟨false,1,[.pointer none],.ptr 108⟩:=by kernel_rfl
theorem EU:z7 Tryz.prog 67=.map 73 76:=by kernel_rfl
theorem ET:z7 Tryz.prog 70=.map 73 3:=by kernel_rfl
theorem ES:z7 Tryz.prog 71=.map 73 4:=by kernel_rfl
theorem Ee:ej Tryz.prog 73=some ⟨true,2,[.int .i64 0,.string ⟨#[]⟩],.struct [(0,1,false),(1,1,false)]⟩:=by kernel_rfl
theorem ER:z7 Tryz.prog 73=.struct [(0,1,false),(1,1,false)]:=by kernel_rfl
theorem Ed:ej Tryz.prog 76=some ⟨true,5,[.string ⟨#[]⟩,.int .i64 0,.string ⟨#[]⟩,.string ⟨#[]⟩,.string ⟨#[]⟩],.struct [(0,1,false),(1,1,false),(2,1,false),(3,1,false),(4,1,false)]⟩:=by kernel_rfl
theorem EQ:z7 Tryz.prog 76=.struct [(0,1,false),(1,1,false),(2,1,false),(3,1,false),(4,1,false)]:=by kernel_rfl
theorem Ec:ej Tryz.prog 94=some ⟨true,4,[.string ⟨#[]⟩,.string ⟨#[]⟩,.int .i64 0,.int .i64 0],.struct [(0,1,false),(1,1,false),(2,1,false),(3,1,false)]⟩:=by kernel_rfl
theorem EP:z7 Tryz.prog 94=.struct [(0,1,false),(1,1,false),(2,1,false),(3,1,false)]:=by kernel_rfl
theorem Eb:ej Tryz.prog 96=some ⟨false,1,[.nilFunc],.other⟩:=by kernel_rfl
theorem y8:ej Tryz.prog 103=some ⟨false,1,[.map none],.map 9 45⟩:=by kernel_rfl
theorem AO:z7 Tryz.prog 103=.map 9 45:=by kernel_rfl
theorem y7:ej Tryz.prog 104=some ⟨false,1,[.map none],.map 9 3⟩:=by kernel_rfl
theorem AN:z7 Tryz.prog 104=.map 9 3:=by kernel_rfl
theorem y6:ej Tryz.prog 105=some ⟨false,1,[.map none],.map 9 47⟩:=by kernel_rfl
theorem AM:z7 Tryz.prog 105=.map 9 47:=by kernel_rfl
theorem y5:ej Tryz.prog 106=some ⟨false,1,[.map none],.map 9 49⟩:=by kernel_rfl
theorem AL:z7 Tryz.prog 106=.map 9 49:=by kernel_rfl
theorem y4:ej Tryz.prog 108=some ⟨true,6,[.map none,.map none,.map none,.map none,.slice none 0 0,.slice none 0 0],.struct [(0,1,false),(1,1,false),(2,1,false),(3,1,false),(4,1,false),(5,1,false)]⟩:=by kernel_rfl
theorem y3:ej Tryz.prog 125=some ⟨false,1,[.map none],.map 9 4⟩:=by kernel_rfl
theorem AK:z7 Tryz.prog 125=.map 9 4:=by kernel_rfl
theorem y2:ej Tryz.prog 131=some ⟨false,1,[.pointer none],.ptr 161⟩:=by kernel_rfl
theorem y1:ej Tryz.prog 138=some ⟨false,1,[.slice none 0 0],.slice 9 1 16 [.string ⟨#[]⟩]⟩:=by kernel_rfl
theorem AJ:z7 Tryz.prog 138=.slice 9 1 16 [.string ⟨#[]⟩]:=by kernel_rfl
theorem yZ:ej Tryz.prog 148=some ⟨true,2,[.int .i64 0,.string ⟨#[]⟩],.struct [(0,1,false),(1,1,false)]⟩:=by kernel_rfl
theorem AH:z7 Tryz.prog 148=.struct [(0,1,false),(1,1,false)]:=by kernel_rfl
theorem yY:ej Tryz.prog 157=some ⟨false,1,[.int .u64 0],.int .u64⟩:=by kernel_rfl
theorem AG:z7 Tryz.prog 157=.int .u64:=by kernel_rfl
theorem yX:ej Tryz.prog 161=some ⟨true,5,[.slice none 0 0,.map none,.map none,.map none,.map none],.struct [(0,1,false),(1,1,false),(2,1,false),(3,1,false),(4,1,false)]⟩:=by kernel_rfl
theorem yW:ej Tryz.prog 181=some ⟨false,1,[.slice none 0 0],.slice 5 1 1 [.int .u8 0]⟩:=by kernel_rfl
theorem AF:z7 Tryz.prog 181=.slice 5 1 1 [.int .u8 0]:=by kernel_rfl
theorem AE:z7 Tryz.prog 203=.int .u64:=by kernel_rfl
theorem Ju:i6 Tryz.prog 9=.tk .str:=by kernel_rfl
theorem EO:i6 Tryz.prog 73=.ks [.i .i64,.s]:=by kernel_rfl
theorem IJ:oM Tryz.prog 3=false:=by kernel_rfl
theorem II:oM Tryz.prog 4=false:=by kernel_rfl
theorem Dh:oM Tryz.prog 45=true:=by kernel_rfl
theorem Dg:oM Tryz.prog 47=true:=by kernel_rfl
theorem Df:oM Tryz.prog 49=true:=by kernel_rfl
theorem De:oM Tryz.prog 76=true:=by kernel_rfl
theorem JC:vC Tryz.prog 7=some [.i .i64,.i .i64,.b,.i .u8]:=by kernel_rfl
theorem JB:vC Tryz.prog 8=some [.i .i64,.i .i64,.b,.i .u8]:=by kernel_rfl
theorem Fi:vC Tryz.prog 45=some [.s,.s,.b]:=by kernel_rfl
theorem FD:eM Tryz.prog 45=true:=by kernel_rfl
theorem Fh:vC Tryz.prog 51=some [.i .i64,.s,.s,.b,.s,.s,.s,.s,.b,.b]:=by kernel_rfl
theorem FC:eM Tryz.prog 51=true:=by kernel_rfl
theorem Fg:vC Tryz.prog 56=some [.i .i64,.s,.s,.b,.s,.s,.s,.s,.b,.b]:=by kernel_rfl
theorem FB:eM Tryz.prog 56=true:=by kernel_rfl
theorem Ff:vC Tryz.prog 73=some [.i .i64,.s]:=by kernel_rfl
theorem FA:eM Tryz.prog 73=true:=by kernel_rfl
attribute [go_sem] Jh Jx Jg Jf Jw Je Jv
attribute [go_sem] Ey E9 Ex E8 Ew E7 Eu Et E6 Es E5 Er E4 Ep Eo E3 Em E1
attribute [go_sem] El Ek E0 Ej EZ Ei EY Eh EX EW Eg EV
attribute [go_sem] Ef EU ET ES Ee ER Ed EQ
attribute [go_sem] Ec EP Eb y8 AO y7 AN
attribute [go_sem] y6 AM y5 AL y4 y3 AK
attribute [go_sem] y2 y1 AJ
attribute [go_sem] yZ AH yY AG yX
attribute [go_sem] yW AF
attribute [go_sem] AE
attribute [go_sem] Ju EO IJ II
attribute [go_sem] Dh Dg Df
attribute [go_sem] De
attribute [go_sem] JC JB Fi FD Fh FC Fg FB Ff FA
end Go.Proofs.YtggigadnagoglafGreatDoor
