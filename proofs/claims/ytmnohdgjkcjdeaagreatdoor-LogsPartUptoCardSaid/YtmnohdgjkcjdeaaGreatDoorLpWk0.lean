/- Facts that the walks use. -/
import Derived.Test.YtmnohdgjkcjdeaaGreatDoorLpMd
import Derived.Test.YtmnohdgjkcjdeaaGreatDoorLpTy
import Derived.Test.YtmnohdgjkcjdeaaGreatDoorSh
import Derived.Test.YtmnohdgjkcjdeaaGreatDoorGr
set_option linter.unusedSimpArgs false
set_option linter.unusedVariables false
open Go.Proofs Go.Shelf
namespace Go.Proofs.YtmnohdgjkcjdeaaGreatDoor
open Go.Vc Go.Md
def growRen:Go.Shelf.Ren:=⟨fun | 165=>84 | 240=>83 | 241=>118 | 276=>117 | 277=>158 | n=>n,fun | 0=>0 | 3=>3 | 4=>4 | 5=>5 | 9=>9 | 20=>20 | 37=>43 | 70=>73 | 72=>75 | 164=>153 | n=>n,fun n=>n⟩
theorem growLay:Lays.n165 Tryz.prog growRen:={
  mixed:=by kernel_rfl
  f165:=Tryz.func84.trans (congrArg some (by kernel_rfl))
  f240:=Tryz.func83.trans (congrArg some (by kernel_rfl))
  f241:=Tryz.func118.trans (congrArg some (by kernel_rfl))
  f276:=Tryz.func117.trans (congrArg some (by kernel_rfl))
  f277:=Tryz.func158.trans (congrArg some (by kernel_rfl))
  t0:=Tryz.underlying0
  a0:=Tryz.isAgg0
  z0:=Tryz.sizeOf0
  v0:=Tryz.zeroValue0
  t3:=Tryz.underlying3
  a3:=Tryz.isAgg3
  z3:=Tryz.sizeOf3
  v3:=Tryz.zeroValue3
  t4:=Tryz.underlying4
  a4:=Tryz.isAgg4
  z4:=Tryz.sizeOf4
  v4:=Tryz.zeroValue4
  t9:=Tryz.underlying9
  a9:=Tryz.isAgg9
  z9:=Tryz.sizeOf9
  v9:=Tryz.zeroValue9
  t20:=Tryz.underlying20
  a20:=Tryz.isAgg20
  z20:=Tryz.sizeOf20
  v20:=Tryz.zeroValue20
  t37:=Tryz.underlying43
  a37:=Tryz.isAgg43
  z37:=Tryz.sizeOf43
  v37:=Tryz.zeroValue43
  t70:=Tryz.underlying73
  a70:=Tryz.isAgg73
  z70:=Tryz.sizeOf73
  v70:=Tryz.zeroValue73
  t72:=Tryz.underlying75
  a72:=Tryz.isAgg75
  z72:=Tryz.sizeOf75
  v72:=Tryz.zeroValue75
  t164:=Tryz.underlying153
  a164:=Tryz.isAgg153
  z164:=Tryz.sizeOf153
  v164:=Tryz.zeroValue153 }
theorem growExt:Builder.Extra Tryz.prog growRen:={
  t5:=Tryz.underlying5
  a5:=Tryz.isAgg5
  z5:=Tryz.sizeOf5
  v5:=Tryz.zeroValue5
  sizeBuilder:=by kernel_rfl
  liesBuilder:=by kernel_rfl
  infoByte:=by kernel_rfl
  cellsByte:=by kernel_rfl
  sizeByte:=by kernel_rfl
  neB5:=by decide }
theorem zjP:cvP Tryz.prog 153 73 75 2=true:=by kernel_rfl
attribute [go_sem] zjP
theorem zjO:cvP Tryz.prog 73 153 75 2=true:=by kernel_rfl
attribute [go_sem] zjO
theorem if_77:ifP Tryz.prog 77=true:=by kernel_rfl
attribute [go_sem] if_77
theorem nvi_117:NvI Tryz.prog 117:=NvI.noEscape Tryz.func117 (by kernel_rfl) (by kernel_rfl) (by kernel_rfl) (by kernel_rfl)
theorem pi_75:(Tryz.prog.info? 75).isSome=true:=by kernel_rfl
attribute [go_sem] pi_75
theorem sb_122_5:sbP Tryz.prog 122 5=true:=by kernel_rfl
attribute [go_sem] sb_122_5
theorem nv_145 (s:List UInt8) (c:List UInt8):Nv Tryz.prog 145 [.p (.s s),.p (.s c)] (.p (.i .i64 (zks s c))):=Nv.compare Tryz.func145 (by kernel_rfl) (by kernel_rfl) (by kernel_rfl) (by kernel_rfl) s c
theorem nv_170 (s:List UInt8) (c:Int):Nv Tryz.prog 170 [.p (.s s),.p (.i .u8 c)] (.p (.i .i64 (zeW s c))):=Nv.countByte Tryz.func170 (by kernel_rfl) (by kernel_rfl) (by kernel_rfl) (by kernel_rfl) s c
theorem nv_182 (s:List UInt8) (c:Int):Nv Tryz.prog 182 [.p (.s s),.p (.i .u8 c)] (.p (.i .i64 (zf6 s c))):=Nv.indexByte Tryz.func182 (by kernel_rfl) (by kernel_rfl) (by kernel_rfl) (by kernel_rfl) s c
theorem sg {p:Prop} (h:p:=by simp only [go_sem,simprocAttr]):p:=h
theorem si {p:Prop} (h:p:=by first | (simp only [go_sem,simprocAttr]; exact Is.mk) | (simp only [go_sem,simprocAttr,List.map_append,ecB,zaK,zab,ecS,za,zo]; exact Is.mk)):p:=h
theorem qS {P:Program} {kl:List Bool} {n:Nat} {B:Bs} {Q:Qt} {E E':Env} {H H':List Ob} {id:Nat} {l:List Oper} {y:Code} (h:Wp P kl n B y Q E' H') (h1:∀ K:Env→List Ob→Prop,K E' H'→zfy P kl n B l.toArray K (zj0 P kl n l l ⟨E,H,True⟩):=by (intro K hK; simp only [go_sem,simprocAttr]; first | exact hK | exact ⟨sd,hK⟩)):Wp P kl n B (.seq (.region id l.toArray false) y) Q E H:=Wp.seqR fun K hK=>h1 K (hK _ _ h)
theorem qR {P:Program} {kl:List Bool} {n:Nat} {B:Bs} {Q:Qt} {E E':Env} {H H':List Ob} {id:Nat} {l:List Oper} (h:Q .normal E' H') (h1:∀ K:Env→List Ob→Prop,K E' H'→zfy P kl n B l.toArray K (zj0 P kl n l l ⟨E,H,True⟩):=by (intro K hK; simp only [go_sem,simprocAttr]; first | exact hK | exact ⟨sd,hK⟩)):Wp P kl n B (.region id l.toArray false) Q E H:=Wp.region fun K hK=>h1 K (hK _ _ h)
theorem sb {p q:Prop} (hp:p) (h:p→q:=by first | exact fun h=>h | (intro h; simpa using h)):q:=h hp
theorem iw1:IntKind.i64.wrap 1=1:=by decide
theorem iw2:IntKind.i64.wrap 2=2:=by decide
theorem iw3:IntKind.i64.wrap 3=3:=by decide
theorem iw4:IntKind.i64.wrap 4=4:=by decide
theorem iw5:IntKind.i64.wrap 5=5:=by decide
theorem iw6:IntKind.i64.wrap 6=6:=by decide
theorem iw7:IntKind.i64.wrap 7=7:=by decide
theorem iw8:IntKind.i64.wrap 8=8:=by decide
theorem iw9:IntKind.i64.wrap 9=9:=by decide
attribute [go_sem] iw1 iw2 iw3 iw4 iw5 iw6 iw7 iw8 iw9
theorem se1 {p:Prop} (h:p:=by simp [ecB,zaK,zab,ecS,za,zo,List.map_set,List.map_replicate]):p:=h
theorem fse1 {p:Prop} (h:p:=by (simp only [go_sem,simprocAttr] <;> simp [ecB,zaK,zab,ecS,za,zo,List.map_set,List.map_replicate])):p:=h
theorem se2 {p:Prop} (h:p:=by simp [ecB,zaK,zab,ecS,za,zo,zm,List.map_set,List.map_replicate]):p:=h
theorem zb7 {p:Prop} (h:p:=by (simp only [go_sem,simprocAttr] <;> simp [ecB,zaK,zab,ecS,za,zo,zm,List.map_set,List.map_replicate])):p:=h
theorem se3 {p:Prop} (h:p:=by simp [ecB,zaK,zab,ecS,zF,za,zo,zm,List.map_set,List.map_replicate]):p:=h
theorem zn {p:Prop} (h:p:=by (simp only [go_sem,simprocAttr] <;> simp [ecB,zaK,zab,ecS,zF,za,zo,zm,List.map_set,List.map_replicate])):p:=h
theorem se4 {p:Prop} (h:p:=by simp [ecB,zaK,zab,ecS,zK,zF,za,zo,zm,List.map_set,List.map_replicate]):p:=h
theorem fse4 {p:Prop} (h:p:=by (simp only [go_sem,simprocAttr] <;> simp [ecB,zaK,zab,ecS,zK,zF,za,zo,zm,List.map_set,List.map_replicate])):p:=h
theorem cM {P:Program} {kl:List Bool} {n:Nat} {B:Bs} {Q:Qt} {E:Env} {H:List Ob} {c:Operand} {x y:Code} {b c':Bool} {Z:Type} {z:Z} {u v:Option Z} (hm:(bif c' then u else v)=some z) (ht:b=true→u=some z→Wp P kl n B x Q E H) (hf:b=false→v=some z→Wp P kl n B y Q E H) (hc:rnd E c=.p (.b b):=by exact rfl) (hk:rndOk c:=by exact ⟨⟩) (h1:b=true→c'=true:=by first | exact fun h=>h | (intro h; simpa using h)) (h2:b=false→c'=false:=by first | exact fun h=>h | (intro h; simpa using h)):Wp P kl n B (.cond c x y) Q E H:=Wp.cond hc hk (fun h=>ht h (brT hm (h1 h))) (fun h=>hf h (brF hm (h2 h)))
theorem sL {p:Prop} (h:p:=by first | exact sd | ((repeat' apply And.intro) <;> first | assumption | omega | (simp only [List.length_append,List.length_map,List.length_cons,List.length_nil,List.length_set,List.length_replicate] at *; omega))):p:=h
theorem kA {W K:Env→List Ob→Prop} {E:Env} {H:List Ob} {g:Prop} (hK:∀ E H,W E H→K E H) (h:W E H) (e:K E H→g:=by first | exact fun h=>h | exact fun h=>⟨sL,h⟩):g:=e (hK _ _ h)
theorem dW {P:Program} {f:FuncId} {fn:Func} {code:Code} {args:List Va} {X:List Ob} {Post:Va→List Ob→Prop} (m n:Nat) (rs:List ResultVar) (hf:P.funcs[f]?=some fn) (h:∀ B,Wp P (kinds X) n B code (retQ P rs m (kinds X) Post) (envOf 0 args) X) (hb:fn.body=some code:=by rfl) (hnm:(fn.name == "runtime.NumGoroutine")=false:=by decide) (hn:fn.ntmps=n:=by rfl) (hrs:fn.results.toList=rs:=by rfl) (hl:args.length≤n:=by exact Nat.le_of_ble_eq_true rfl):Does P f args X Post:=Does.of_wp m n rs hf hb hnm hn hrs hl h
end Go.Proofs.YtmnohdgjkcjdeaaGreatDoor
