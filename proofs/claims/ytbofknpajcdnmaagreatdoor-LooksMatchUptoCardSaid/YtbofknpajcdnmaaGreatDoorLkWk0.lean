/- Facts that the walks use. -/
import Derived.Test.YtbofknpajcdnmaaGreatDoorLkMd
import Derived.Test.YtbofknpajcdnmaaGreatDoorLkTy
import Derived.Test.YtbofknpajcdnmaaGreatDoorSo
import Derived.Test.YtbofknpajcdnmaaGreatDoorSh
set_option linter.unusedSimpArgs false
set_option linter.unusedVariables false
open Go.Proofs Go.Shelf
namespace Go.Proofs.YtbofknpajcdnmaaGreatDoor
open Go.Vc Go.Md
def growRen:Go.Shelf.Ren:=⟨fun|165=>194|240=>222|241=>245|276=>258|277=>274|n=>n,fun|0=>0|3=>3|4=>4|5=>5|9=>9|20=>20|37=>75|70=>209|72=>211|164=>277|n=>n,fun n=>n⟩
theorem growLay:Lays.n165 Tryz.prog growRen:={
  mixed:=by kernel_rfl
  f165:=Tryz.func194.trans (congrArg some (by kernel_rfl))
  f240:=Tryz.func222.trans (congrArg some (by kernel_rfl))
  f241:=Tryz.func245.trans (congrArg some (by kernel_rfl))
  f276:=Tryz.func258.trans (congrArg some (by kernel_rfl))
  f277:=Tryz.func274.trans (congrArg some (by kernel_rfl))
  t0:=Tryz.underlying0
  a0:=Tryz.isAgg0
  z0:=Tryz.sizeOf0
  v0:=Tryz.zeroValue0
  t3:=Tryz.underlying3
  a3:=Tryz.isAgg3
  z3:=Tryz.sizeOf3
  v3:=Tryz.zeroValue3
  t4:=Tryz.underlying4
  a4:=Tryz.isAgg4
  z4:=Tryz.sizeOf4
  v4:=Tryz.zeroValue4
  t9:=Tryz.underlying9
  a9:=Tryz.isAgg9
  z9:=Tryz.sizeOf9
  v9:=Tryz.zeroValue9
  t20:=Tryz.underlying20
  a20:=Tryz.isAgg20
  z20:=Tryz.sizeOf20
  v20:=Tryz.zeroValue20
  t37:=Tryz.underlying75
  a37:=Tryz.isAgg75
  z37:=Tryz.sizeOf75
  v37:=Tryz.zeroValue75
  t70:=Tryz.underlying209
  a70:=Tryz.isAgg209
  z70:=Tryz.sizeOf209
  v70:=Tryz.zeroValue209
  t72:=Tryz.underlying211
  a72:=Tryz.isAgg211
  z72:=Tryz.sizeOf211
  v72:=Tryz.zeroValue211
  t164:=Tryz.underlying277
  a164:=Tryz.isAgg277
  z164:=Tryz.sizeOf277
  v164:=Tryz.zeroValue277 }
theorem growExt:Builder.Extra Tryz.prog growRen:={
  t5:=Tryz.underlying5
  a5:=Tryz.isAgg5
  z5:=Tryz.sizeOf5
  v5:=Tryz.zeroValue5
  sizeBuilder:=by kernel_rfl
  liesBuilder:=by kernel_rfl
  infoByte:=by kernel_rfl
  cellsByte:=by kernel_rfl
  sizeByte:=by kernel_rfl
  neB5:=by decide }
theorem zkN:cvP Tryz.prog 209 277 211 2=true:=by kernel_rfl
attribute [go_sem] zkN
theorem zkM:cvP Tryz.prog 277 209 211 2=true:=by kernel_rfl
attribute [go_sem] zkM
theorem if_167:ifP Tryz.prog 167=true:=by kernel_rfl
attribute [go_sem] if_167
theorem nvi_258:NvI Tryz.prog 258:=NvI.noEscape Tryz.func258 (by kernel_rfl) (by kernel_rfl) (by kernel_rfl) (by kernel_rfl)
theorem pi_211:(Tryz.prog.info? 211).isSome=true:=by kernel_rfl
attribute [go_sem] pi_211
theorem sb_256_5:sbP Tryz.prog 256 5=true:=by kernel_rfl
attribute [go_sem] sb_256_5
theorem nv_205(s:List UInt8)(c:List UInt8):Nv Tryz.prog 205 [.p (.s s),.p (.s c)] (.p (.i .i64 (cmpB s c))):=Nv.compare Tryz.func205 (by kernel_rfl) (by kernel_rfl) (by kernel_rfl) (by kernel_rfl) s c
theorem nv_267(s:List UInt8)(c:Int):Nv Tryz.prog 267 [.p (.s s),.p (.i .u8 c)] (.p (.i .i64 (zgH s c))):=Nv.countByte Tryz.func267 (by kernel_rfl) (by kernel_rfl) (by kernel_rfl) (by kernel_rfl) s c
theorem nv_321(s:List UInt8)(c:Int):Nv Tryz.prog 321 [.p (.s s),.p (.i .u8 c)] (.p (.i .i64 (zh5 s c))):=Nv.indexByte Tryz.func321 (by kernel_rfl) (by kernel_rfl) (by kernel_rfl) (by kernel_rfl) s c
theorem sg{p:Prop}(h:p:=by simp only[go_sem,simprocAttr]):p:=h
theorem si{p:Prop}(h:p:=by first|(simp only[go_sem,simprocAttr];exact Is.mk)|(simp only[go_sem,simprocAttr,List.map_append,ecB,zcg,zar,ecS,ze,zc,zH,zb,za,zQ];exact Is.mk)):p:=h
theorem qS{P:Program}{kl:List Bool}{n:Nat}{B:Bs}{Q:Qt}{E E':Env}{H H':List Ob}{id:Nat}{l:List Oper}{y:Code}(h:Wp P kl n B y Q E' H')(h1:∀K:Env→List Ob→Prop,K E' H'→zda P kl n B l.toArray K (zhw P kl n l l ⟨E,H,True⟩):=by(intro K hK;simp only[go_sem,simprocAttr];first|exact hK|exact⟨sd,hK⟩)):Wp P kl n B (.seq (.region id l.toArray false) y) Q E H:=Wp.seqR fun K hK=>h1 K (hK _ _ h)
theorem qR{P:Program}{kl:List Bool}{n:Nat}{B:Bs}{Q:Qt}{E E':Env}{H H':List Ob}{id:Nat}{l:List Oper}(h:Q .normal E' H')(h1:∀K:Env→List Ob→Prop,K E' H'→zda P kl n B l.toArray K (zhw P kl n l l ⟨E,H,True⟩):=by(intro K hK;simp only[go_sem,simprocAttr];first|exact hK|exact⟨sd,hK⟩)):Wp P kl n B (.region id l.toArray false) Q E H:=Wp.region fun K hK=>h1 K (hK _ _ h)
theorem sb{p q:Prop}(hp:p)(h:p→q:=by first|exact fun h=>h|(intro h;simpa using h)):q:=h hp
theorem se1{p:Prop}(h:p:=by simp[ecB,zcg,zar,ecS,ze,zc,zH,zb,za,zQ,List.map_set,List.map_replicate]):p:=h
theorem zbD{p:Prop}(h:p:=by(simp only[go_sem,simprocAttr] <;> simp[ecB,zcg,zar,ecS,ze,zc,zH,zb,za,zQ,List.map_set,List.map_replicate])):p:=h
theorem se2{p:Prop}(h:p:=by simp[ecB,zcg,zar,ecS,ze,zc,zaI,zH,zb,za,zQ,z8,List.map_set,List.map_replicate]):p:=h
theorem fse2{p:Prop}(h:p:=by(simp only[go_sem,simprocAttr] <;> simp[ecB,zcg,zar,ecS,ze,zc,zaI,zH,zb,za,zQ,z8,List.map_set,List.map_replicate])):p:=h
theorem se3{p:Prop}(h:p:=by simp[ecB,zcg,zar,ecS,ze,zc,zaI,zH,zb,za,zbW,zQ,z8,List.map_set,List.map_replicate]):p:=h
theorem zkt{p:Prop}(h:p:=by(simp only[go_sem,simprocAttr] <;> simp[ecB,zcg,zar,ecS,ze,zc,zaI,zH,zb,za,zbW,zQ,z8,List.map_set,List.map_replicate])):p:=h
theorem se4{p:Prop}(h:p:=by simp[ecB,zcg,zar,ecS,zeC,ze,zc,zaI,zH,zb,za,zbW,zQ,z8,List.map_set,List.map_replicate]):p:=h
theorem zf5{p:Prop}(h:p:=by(simp only[go_sem,simprocAttr] <;> simp[ecB,zcg,zar,ecS,zeC,ze,zc,zaI,zH,zb,za,zbW,zQ,z8,List.map_set,List.map_replicate])):p:=h
theorem cM{P:Program}{kl:List Bool}{n:Nat}{B:Bs}{Q:Qt}{E:Env}{H:List Ob}{c:Operand}{x y:Code}{b c':Bool}{Z:Type}{z:Z}{u v:Option Z}(hm:(bif c' then u else v)=some z)(ht:b=true→u=some z→Wp P kl n B x Q E H)(hf:b=false→v=some z→Wp P kl n B y Q E H)(hc:rnd E c=.p (.b b):=by exact rfl)(hk:zmE c:=by exact⟨⟩)(h1:b=true→c'=true:=by first|exact fun h=>h|(intro h;simpa using h))(h2:b=false→c'=false:=by first|exact fun h=>h|(intro h;simpa using h)):Wp P kl n B (.cond c x y) Q E H:=Wp.cond hc hk (fun h=>ht h (brT hm (h1 h))) (fun h=>hf h (brF hm (h2 h)))
theorem sL{p:Prop}(h:p:=by first|exact sd|((repeat' apply And.intro) <;> first|assumption|omega|(simp only[List.length_append,List.length_map,List.length_cons,List.length_nil,List.length_set,List.length_replicate]at *;omega))):p:=h
theorem kA{W K:Env→List Ob→Prop}{E:Env}{H:List Ob}{g:Prop}(hK:∀E H,W E H→K E H)(h:W E H)(e:K E H→g:=by first|exact fun h=>h|exact fun h=>⟨sL,h⟩):g:=e (hK _ _ h)
theorem dW {P:Program} {f:FuncId} {fn:Func} {code:Code} {args:List Va} {X:List Ob} {Post:Va→List Ob→Prop} (m n:Nat) (rs:List ResultVar) (hf:P.funcs[f]?=some fn) (h:∀B,Wp P (kinds X) n B code (retQ P rs m (kinds X) Post) (zmP 0 args) X) (hb:fn.body=some code:=by rfl) (hnm:(fn.name == "runtime.NumGoroutine")=false:=by decide) (hn:fn.ntmps=n:=by rfl) (hrs:fn.results.toList=rs:=by rfl) (hl:args.length≤n:=by exact Nat.le_of_ble_eq_true rfl):Does P f args X Post:=Does.of_wp m n rs hf hb hnm hn hrs hl h
theorem s6{p:Prop}(h:p:=by first|(simp only[go_sem,simprocAttr,hA];exact Is.mk)|(simp only[go_sem,simprocAttr,hA,List.map_append,ecB,zcg,zar,ecS,ze,zc,zH,zb,za,zQ];exact Is.mk)|(simp only[go_sem,simprocAttr,hA])):p:=h
theorem wF{p:Prop}(h:p:=by first|exact zf5|exact zbD):p:=h
theorem wR{p:Prop}(h:p:=by(refine Wp.ret ?_;refine zc3 ?_;cases hm;first|exact wF|(simp only[go_sem,simprocAttr,hA] <;> exact se4))):p:=h
theorem q6{P:Program}{kl:List Bool}{n:Nat}{B:Bs}{Q:Qt}{E E':Env}{H H':List Ob}{id:Nat}{l:List Oper}{y:Code}(h:Wp P kl n B y Q E' H')(h1:∀K:Env→List Ob→Prop,K E' H'→zda P kl n B l.toArray K (zhw P kl n l l ⟨E,H,True⟩):=by(intro K hK;simp only[go_sem,simprocAttr,hA];first|exact hK|exact⟨sL,hK⟩)):Wp P kl n B (.seq (.region id l.toArray false) y) Q E H:=Wp.seqR fun K hK=>h1 K (hK _ _ h)
theorem r6{P:Program}{kl:List Bool}{n:Nat}{B:Bs}{Q:Qt}{E E':Env}{H H':List Ob}{id:Nat}{l:List Oper}(h:Q .normal E' H')(h1:∀K:Env→List Ob→Prop,K E' H'→zda P kl n B l.toArray K (zhw P kl n l l ⟨E,H,True⟩):=by(intro K hK;simp only[go_sem,simprocAttr,hA];first|exact hK|exact⟨sL,hK⟩)):Wp P kl n B (.region id l.toArray false) Q E H:=Wp.region fun K hK=>h1 K (hK _ _ h)
theorem wQ{p:Prop}(h:p:=by(refine q6 ?_;exact wR)):p:=h
theorem rS{P:Program}{kl:List Bool}{n:Nat}{B:Bs}{Q:Qt}{E:Env}{H:List Ob}{id:Nat}{l:List Oper}{y:Code}{g:(Env→List Ob→Prop)→Prop}(h:∀K:Env→List Ob→Prop,(∀E H,Wp P kl n B y Q E H→K E H)→g K)(e:∀K,g K→zda P kl n B l.toArray K (zhw P kl n l l ⟨E,H,True⟩):=by(intro K;(intro q;simp only[go_sem,simprocAttr,hA];first|exact⟨sL,q⟩|exact q))):Wp P kl n B (.seq (.region id l.toArray false) y) Q E H:=Wp.seqR fun K hK=>e K (h K hK)
theorem rE{P:Program}{kl:List Bool}{n:Nat}{B:Bs}{Q:Qt}{E:Env}{H:List Ob}{id:Nat}{l:List Oper}{g:(Env→List Ob→Prop)→Prop}(h:∀K:Env→List Ob→Prop,(∀E H,Q .normal E H→K E H)→g K)(e:∀K,g K→zda P kl n B l.toArray K (zhw P kl n l l ⟨E,H,True⟩):=by(intro K;(intro q;simp only[go_sem,simprocAttr,hA];first|exact⟨sL,q⟩|exact q))):Wp P kl n B (.region id l.toArray false) Q E H:=Wp.region fun K hK=>e K (h K hK)
theorem dS{P:Program}{kl:List Bool}{n:Nat}{B:Bs}{Q:Qt}{E:Env}{H:List Ob}{id:Nat}{os:List Oper}{y:Code}(plan:Plan){g:(Env→List Ob→Prop)→Prop}(h:∀K:Env→List Ob→Prop,(∀E H,Wp P kl n B y Q E H→K E H)→g K)(e:∀K,g K→zhn P kl n B os.toArray K (ziL P kl n os plan ⟨[],E,H,True⟩):=by(intro K;(intro q;simp only[go_sem,simprocAttr,hA];first|exact⟨sL,q⟩|exact q)))(hm:P.follows .mixedOrders=true:=by kernel_rfl)(hl:plan.length=os.length:=by rfl)(hp:zgu os.toArray plan [] (Array.replicate os.length false)=true:=by kernel_rfl):Wp P kl n B (.seq (.region id os.toArray true) y) Q E H:=Wp.seqD plan hm hl hp fun K hK=>e K (h K hK)
theorem dE{P:Program}{kl:List Bool}{n:Nat}{B:Bs}{Q:Qt}{E:Env}{H:List Ob}{id:Nat}{os:List Oper}(plan:Plan){g:(Env→List Ob→Prop)→Prop}(h:∀K:Env→List Ob→Prop,(∀E H,Q .normal E H→K E H)→g K)(e:∀K,g K→zhn P kl n B os.toArray K (ziL P kl n os plan ⟨[],E,H,True⟩):=by(intro K;(intro q;simp only[go_sem,simprocAttr,hA];first|exact⟨sL,q⟩|exact q)))(hm:P.follows .mixedOrders=true:=by kernel_rfl)(hl:plan.length=os.length:=by rfl)(hp:zgu os.toArray plan [] (Array.replicate os.length false)=true:=by kernel_rfl):Wp P kl n B (.region id os.toArray true) Q E H:=Wp.regD plan hm hl hp fun K hK=>e K (h K hK)
theorem cX{P:Program}{kl:List Bool}{n:Nat}{B:Bs}{K:Env→List Ob→Prop}{E:Env}{H:List Ob}{ops:Array Oper}{o:Oper}{l:List Oper}{f:FuncId}{av args:List Va}{g:Bool}{v:Va}{q:Prop}(hs:g=true→Does P f args [] fun r X=>r=v∧X=[])(hq:q)(ha:Is (zak E o) (some (f,av)):=by exact s6)(hb:Is (zdj ops.toList E o) (some g):=by exact s6)(hp:Is (zcW H av) (some args):=by exact s6)(hok:zc0 n g E o:=by exact s6)(hf:Is v.flat true:=by exact s6)(e:q→zda P kl n B ops K (zhw P kl n ops.toList l ⟨zds E o.dst (zfo o.guard g v),H,True⟩):=by(intro q;simp only[go_sem,simprocAttr,hA];first|exact⟨sL,q⟩|exact q)):Rg P kl n B ops (o::l) E H K:=Rg.callX hs ha hb hp hok hf fun _=>e hq
theorem cF{P:Program}{kl:List Bool}{n:Nat}{B:Bs}{K:Env→List Ob→Prop}{E:Env}{H:List Ob}{ops:Array Oper}{o:Oper}{l:List Oper}{f:FuncId}{av args:List Va}{v:Va}{q:Prop}(hs:Does P f args [] fun r X=>r=v∧X=[])(hq:q)(ha:Is (zfx E o) (some (f,av)):=by exact s6)(hp:Is (zg2 av) (some args):=by exact s6)(hok:zc0 n true E o:=by exact s6)(e:q→zda P kl n B ops K (zhw P kl n ops.toList l ⟨zds E o.dst v,H,True⟩):=by(intro q;simp only[go_sem,simprocAttr,hA];first|exact⟨sL,q⟩|exact q)):Rg P kl n B ops (o::l) E H K:=Rg.callF hs ha hp hok fun _=>e hq
theorem cO{P:Program}{kl:List Bool}{n:Nat}{B:Bs}{K:Env→List Ob→Prop}{E:Env}{H:List Ob}{ops:Array Oper}{o:Oper}{l:List Oper}{f:FuncId}{av args:List Va}{X Y:List Ob}{v:Va}{q:Prop}(ids:List Nat)(hs:Does P f args X fun r Z=>r=v∧Z=Y)(hq:q)(ha:Is (zfx E o) (some (f,av)):=by exact s6)(hp:Is (rnAs ids av) (some args):=by exact s6)(hX:Is (zmX ids H ids) (some X):=by exact s6)(hi:zgS H.length ids=true:=by exact s6)(hok:zc0 n true E o:=by exact s6)(e:q→zda P kl n B ops K (zhw P kl n ops.toList l ⟨zds (zb0 (zcR ids H) E) o.dst (bkV ids H.length v),zeq (za4 (zcR ids H) H) ids (ziG ids H.length Y),True⟩):=by(intro q;simp only[go_sem,simprocAttr,hA];first|exact⟨sL,q⟩|exact q)):Rg P kl n B ops (o::l) E H K:=Rg.callO ids hs ha hp hX hi hok fun _ _ h _=>by obtain⟨rfl,rfl⟩:=h;exact e hq
theorem cQ{P:Program}{kl:List Bool}{n:Nat}{B:Bs}{K:Env→List Ob→Prop}{E:Env}{H:List Ob}{ops:Array Oper}{o:Oper}{l:List Oper}{f:FuncId}{av args:List Va}{X:List Ob}{g:Bool}{v:Va}{q:Prop}(ids:List Nat)(hs:g=true→Does P f args X fun r Z=>r=v∧Z=X)(hq:q)(ha:Is (zak E o) (some (f,av)):=by exact s6)(hb:Is (zdj ops.toList E o) (some g):=by exact s6)(hp:Is (rnAs ids av) (some args):=by exact s6)(hX:Is (zmX ids H ids) (some X):=by exact s6)(hi:zgS H.length ids=true:=by exact s6)(hk:zgL H ids=true:=by exact s6)(hok:zc0 n g E o:=by exact s6)(e:q→zda P kl n B ops K (zhw P kl n ops.toList l ⟨zds E o.dst (zfo o.guard g (bkV ids H.length v)),H,True⟩):=by(intro q;simp only[go_sem,simprocAttr,hA];first|exact⟨sL,q⟩|exact q)):Rg P kl n B ops (o::l) E H K:=Rg.callR ids hs ha hb hp hX hi hk hok (e hq)
theorem cD{P:Program}{kl:List Bool}{n:Nat}{B:Bs}{ops:List Oper}{K:Env→List Ob→Prop}{l:Plan}{obs:List En}{E:Env}{H:List Ob}{k:Nat}{f:FuncId}{av args:List Va}{g:Bool}{o:Oper}{v:Va}{q:Prop}(hs:g=true→Does P f args [] fun r X=>r=v∧X=[])(hq:q)(hk:Is ops[k]? (some o):=by exact s6)(ha:Is (zak E o) (some (f,av)):=by exact s6)(hg:Is (zdj ops E o) (some g):=by exact s6)(hp:Is (zcW H av) (some args):=by exact s6)(hok:zc0 n g E o:=by exact s6)(hf:Is v.flat true:=by exact s6)(e:q→zhn P kl n B ops.toArray K (ziL P kl n ops l ⟨⟨k,E,zfo o.guard g v,reCall ops o E (zfo o.guard g v) av args⟩::obs,zds E o.dst (zfo o.guard g v),H,True⟩):=by(intro q;simp only[go_sem,simprocAttr,hA];first|exact⟨sL,q⟩|exact q)):Dr P kl n B ops.toArray (.rd k l) obs E H K:=Dr.callF hs hk ha hg hp hok hf (e hq)
theorem cE{P:Program}{kl:List Bool}{n:Nat}{B:Bs}{ops:List Oper}{K:Env→List Ob→Prop}{l:Plan}{obs:List En}{E:Env}{H:List Ob}{k:Nat}{L:List Nat}{f:FuncId}{av args:List Va}{X Y:List Ob}{o:Oper}{v:Va}{q:Prop}(ids:List Nat)(hs:Does P f args X fun r Z=>r=v∧Z=Y)(hq:q)(hk:Is ops[k]? (some o):=by exact s6)(hg:Is o.guard none:=by exact s6)(ha:Is (zak E o) (some (f,av)):=by exact s6)(hp:Is (rnAs ids av) (some args):=by exact s6)(hX:Is (zmX ids H ids) (some X):=by exact s6)(hi:zgS H.length ids=true:=by exact s6)(hkp:zgL H ids=true:=by exact s6)(hok:zc0 n true E o:=by exact s6)(hag:zdS L none (zeq H ids (ziG ids H.length Y)) obs:=by exact s6)(e:q→zhn P kl n B ops.toArray K (ziL P kl n ops l ⟨obs,zds E o.dst (bkV ids H.length v),zeq H ids (ziG ids H.length Y),True⟩):=by(intro q;simp only[go_sem,simprocAttr,hA];first|exact⟨sL,q⟩|exact q)):Dr P kl n B ops.toArray (.ef k L l) obs E H K:=Dr.of_br (Br.callE ids hs hk hg ha hp hX hi hkp hok hag (e hq))
theorem cN{P:Program}{kl:List Bool}{n:Nat}{B:Bs}{Q:Qt}{E:Env}{H:List Ob}{c:Operand}{x y:Code}{b c':Bool}{Z:Type}{z:Z}{u v:Option Z}(hm:(bif c' then u else v)=some z)(ht:u=some z→Wp P kl n B x Q E H)(hf:v=some z→Wp P kl n B y Q E H)(hc:rnd E c=.p (.b b):=by exact rfl)(hk:zmE c:=by exact⟨⟩)(h1:b=true→c'=true:=by first|exact fun h=>h|(intro h;simpa using h))(h2:b=false→c'=false:=by first|exact fun h=>h|(intro h;simpa using h)):Wp P kl n B (.cond c x y) Q E H:=cM hm (fun _=>ht) (fun _=>hf) hc hk h1 h2
theorem cR{P:Program}{kl:List Bool}{n:Nat}{B:Bs}{Q:Qt}{E:Env}{H:List Ob}{c:Operand}{x y:Code}{b c':Bool}{Z:Type}{z:Z}{u v:Option Z}(hm:(bif c' then u else v)=some z)(hf:v=some z→Wp P kl n B y Q E H)(ht:u=some z→Wp P kl n B x Q E H:=by(intro hm;first|exact wR|exact wQ))(hc:rnd E c=.p (.b b):=by exact rfl)(hk:zmE c:=by exact⟨⟩)(h1:b=true→c'=true:=by first|exact fun h=>h|(intro h;simpa using h))(h2:b=false→c'=false:=by first|exact fun h=>h|(intro h;simpa using h)):Wp P kl n B (.cond c x y) Q E H:=cM hm (fun _=>ht) (fun _=>hf) hc hk h1 h2
theorem cT{P:Program}{kl:List Bool}{n:Nat}{B:Bs}{Q:Qt}{E:Env}{H:List Ob}{c:Operand}{x y:Code}{b c':Bool}{Z:Type}{z:Z}{u v:Option Z}(hm:(bif c' then u else v)=some z)(ht:u=some z→Wp P kl n B x Q E H)(hf:v=some z→Wp P kl n B y Q E H:=by(intro hm;first|exact wR|exact wQ))(hc:rnd E c=.p (.b b):=by exact rfl)(hk:zmE c:=by exact⟨⟩)(h1:b=true→c'=true:=by first|exact fun h=>h|(intro h;simpa using h))(h2:b=false→c'=false:=by first|exact fun h=>h|(intro h;simpa using h)):Wp P kl n B (.cond c x y) Q E H:=cM hm (fun _=>ht) (fun _=>hf) hc hk h1 h2
theorem fL{P:Program}{kl:List Bool}{n:Nat}{B:Bs}{Q:Qt}{E:Env}{H:List Ob}{c:Code}(k m:Nat)(h:m≤274877906944→Wp P kl n B c Q E H)(e:(zd1 E k).ok→m≤274877906944:=by(intro q;simp only[go_sem,simprocAttr,List.length_map]at q;omega)):Wp P kl n B c Q E H:=Wp.fact k fun q=>h (e q)
theorem ltN{i n:Nat}{p:Prop}(h:p)(e:p→decide ((i:Int)<(n:Int))=true:=by first|exact fun h=>h|(intro h;simpa using h)):i<n:=lt_nat (e h)
theorem geN{i n:Nat}{p:Prop}(h:p)(e:p→decide ((i:Int)<(n:Int))=false:=by first|exact fun h=>h|(intro h;simpa using h)):¬i<n:=ge_nat (e h)
theorem wN{S:Type}{a:Prop}{b c:S→Prop}(s:S)(h1:a)(h2:b s)(h3:c s:=by(first|(simp only[go_sem,simprocAttr,hA];done)|(simp only[go_sem,simprocAttr,hA];exact se4)|exact wF)):∃s,a∧b s∧c s:=⟨s,h1,h2,h3⟩
theorem nA{g:Prop}(h:True→g):g:=h trivial
end Go.Proofs.YtbofknpajcdnmaaGreatDoor
