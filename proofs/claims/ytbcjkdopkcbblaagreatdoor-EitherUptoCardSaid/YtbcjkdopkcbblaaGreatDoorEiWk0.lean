/- Facts that the walks use. -/
import Derived.Test.YtbcjkdopkcbblaaGreatDoorEiMd
import Derived.Test.YtbcjkdopkcbblaaGreatDoorEiTy
import Derived.Test.YtbcjkdopkcbblaaGreatDoorSo
import Derived.Test.YtbcjkdopkcbblaaGreatDoorSh
set_option linter.unusedSimpArgs false
set_option linter.unusedVariables false
open Go.Proofs Go.Shelf
open List
namespace Go.Proofs.YtbcjkdopkcbblaaGreatDoor
open Tryz
open Go.Vc Go.Md
abbrev lm{α:Type}(e:α->List Dt)(x:List α):Va:=.p (.l (List.map e x))
abbrev pI(n:Int):Va:=.p (.i .i64 n)
abbrev pS(s:dy):Va:=.p (.s s)
abbrev pB(b:Bool):Va:=.p (.b b)
def sf:Go.Shelf.Ren:=⟨fun|165=>211|240=>179|241=>233|276=>212|277=>251|n=>n,fun|0=>0|3=>3|4=>4|5=>5|9=>9|20=>20|37=>179|70=>178|72=>181|164=>243|n=>n,fun n=>n⟩
theorem Bm:Lays.n165 prog sf:={
  mixed:=by kernel_rfl
  f165:=func211.trans (congrArg some (by kernel_rfl))
  f240:=func179.trans (congrArg some (by kernel_rfl))
  f241:=func233.trans (congrArg some (by kernel_rfl))
  f276:=func212.trans (congrArg some (by kernel_rfl))
  f277:=func251.trans (congrArg some (by kernel_rfl))
  t0:=Tryz.underlying0
  a0:=Tryz.isAgg0
  z0:=Tryz.sizeOf0
  v0:=Tryz.zeroValue0
  t3:=Tryz.underlying3
  a3:=Tryz.isAgg3
  z3:=Tryz.sizeOf3
  v3:=Tryz.zeroValue3
  t4:=Tryz.underlying4
  a4:=Tryz.isAgg4
  z4:=Tryz.sizeOf4
  v4:=Tryz.zeroValue4
  t9:=Tryz.underlying9
  a9:=Tryz.isAgg9
  z9:=Tryz.sizeOf9
  v9:=Tryz.zeroValue9
  t20:=Tryz.underlying20
  a20:=Tryz.isAgg20
  z20:=Tryz.sizeOf20
  v20:=Tryz.zeroValue20
  t37:=Tryz.underlying179
  a37:=Tryz.isAgg179
  z37:=Tryz.sizeOf179
  v37:=Tryz.zeroValue179
  t70:=Tryz.underlying178
  a70:=Tryz.isAgg178
  z70:=Tryz.sizeOf178
  v70:=Tryz.zeroValue178
  t72:=Tryz.underlying181
  a72:=Tryz.isAgg181
  z72:=Tryz.sizeOf181
  v72:=Tryz.zeroValue181
  t164:=Tryz.underlying243
  a164:=Tryz.isAgg243
  z164:=Tryz.sizeOf243
  v164:=Tryz.zeroValue243 }
theorem Bo:Builder.Extra prog sf:={
  t5:=Tryz.underlying5
  a5:=Tryz.isAgg5
  z5:=Tryz.sizeOf5
  v5:=Tryz.zeroValue5
  sizeBuilder:=by kernel_rfl
  liesBuilder:=by kernel_rfl
  infoByte:=by kernel_rfl
  cellsByte:=by kernel_rfl
  sizeByte:=by kernel_rfl
  neB5:=by decide }
theorem Tp:Ko prog 178 243 181 2=true:=by kernel_rfl
attribute [go_sem] Tp
theorem Tq:Ko prog 243 178 181 2=true:=by kernel_rfl
attribute [go_sem] Tq
theorem Fc:MO prog 183=true:=by kernel_rfl
attribute [go_sem] Fc
theorem A9:NvI prog 212:=NvI.noEscape func212 (by kernel_rfl) (by kernel_rfl) (by kernel_rfl) (by kernel_rfl)
theorem EI:(prog.info? 181).isSome=true:=by kernel_rfl
attribute [go_sem] EI
theorem wb:Pr prog 220 5=true:=by kernel_rfl
attribute [go_sem] wb
theorem JQ(s:List UInt8)(c:List UInt8):Nv prog 87 [.p (.s s),.p (.s c)] (.p (.i .i64 (iJ s c))):=Nv.compare func87 (by kernel_rfl) (by kernel_rfl) (by kernel_rfl) (by kernel_rfl) s c
theorem EN(s:List UInt8)(c:Int):Nv prog 225 [.p (.s s),.p (.i .u8 c)] (.p (.i .i64 (Ah s c))):=Nv.countByte func225 (by kernel_rfl) (by kernel_rfl) (by kernel_rfl) (by kernel_rfl) s c
theorem EM(s:List UInt8)(c:Int):Nv prog 254 [.p (.s s),.p (.i .u8 c)] (.p (.i .i64 (yH s c))):=Nv.indexByte func254 (by kernel_rfl) (by kernel_rfl) (by kernel_rfl) (by kernel_rfl) s c
theorem sg{p:Prop}(h:p:=by simp only[go_sem,simprocAttr]):p:=h
theorem si{p:Prop}(h:p:=by first|(simp only[go_sem,simprocAttr];exact Is.mk)|(simp only[go_sem,simprocAttr,lm,map_append,eL,zk,gT,dB,zf,zK,zc,zN,zb,za];exact Is.mk)):p:=h
theorem qS{P:Program}{kl:List Bool}{n:Nat}{B:Bs}{Q:Qt}{E E':dz}{H H':List Ob}{id:Nat}{l:List Oper}{y:Code}(h:Wp P kl n B y Q E' H')(h1:∀K:dz->List Ob->Prop,K E' H'->eU P kl n B l.toArray K (eM P kl n l l ⟨E,H,True⟩):=by(intro K hK;simp only[go_sem,simprocAttr];first|exact hK|exact⟨sd,hK⟩)):Wp P kl n B (.seq (.region id l.toArray false) y) Q E H:=cb fun K hK=>h1 K (hK _ _ h)
theorem qR{P:Program}{kl:List Bool}{n:Nat}{B:Bs}{Q:Qt}{E E':dz}{H H':List Ob}{id:Nat}{l:List Oper}(h:Q .normal E' H')(h1:∀K:dz->List Ob->Prop,K E' H'->eU P kl n B l.toArray K (eM P kl n l l ⟨E,H,True⟩):=by(intro K hK;simp only[go_sem,simprocAttr];first|exact hK|exact⟨sd,hK⟩)):Wp P kl n B (.region id l.toArray false) Q E H:=Wp.region fun K hK=>h1 K (hK _ _ h)
theorem sb{p q:Prop}(hp:p)(h:p->q:=by first|exact fun h=>h|(intro h;simpa using h)):q:=h hp
theorem qz{p:Prop}(h:p:=by simp[eL,zk,gT,dB,zf,zK,zc,zN,zb,za,map_set,map_replicate]):p:=h
theorem dR{p:Prop}(h:p:=by(simp only[go_sem,simprocAttr] <;> simp[eL,zk,gT,dB,zf,zK,zc,zN,zb,za,map_set,map_replicate])):p:=h
theorem U3{p:Prop}(h:p:=by simp[eL,zk,gT,dB,zf,zK,zc,zN,zb,za,zU,map_set,map_replicate]):p:=h
theorem fB{p:Prop}(h:p:=by(simp only[go_sem,simprocAttr] <;> simp[eL,zk,gT,dB,zf,zK,zc,zN,zb,za,zU,map_set,map_replicate])):p:=h
theorem So{p:Prop}(h:p:=by simp[eL,zk,gT,dB,zf,zK,zc,AD,zN,zb,za,zU,map_set,map_replicate]):p:=h
theorem ub{p:Prop}(h:p:=by(simp only[go_sem,simprocAttr] <;> simp[eL,zk,gT,dB,zf,zK,zc,AD,zN,zb,za,zU,map_set,map_replicate])):p:=h
theorem lM{p:Prop}(h:p:=by simp[eL,zk,gT,dB,zf,zK,zc,AD,zN,zb,za,DS,zU,map_set,map_replicate]):p:=h
theorem eZ{p:Prop}(h:p:=by(simp only[go_sem,simprocAttr] <;> simp[eL,zk,gT,dB,zf,zK,zc,AD,zN,zb,za,DS,zU,map_set,map_replicate])):p:=h
theorem qy{p:Prop}(h:p:=by simp[eL,zk,gT,dB,Cy,zf,zK,zc,AD,zN,zb,za,DS,zU,map_set,map_replicate]):p:=h
theorem fI{p:Prop}(h:p:=by(simp only[go_sem,simprocAttr] <;> simp[eL,zk,gT,dB,Cy,zf,zK,zc,AD,zN,zb,za,DS,zU,map_set,map_replicate])):p:=h
theorem cM{P:Program}{kl:List Bool}{n:Nat}{B:Bs}{Q:Qt}{E:dz}{H:List Ob}{c:Operand}{x y:Code}{b c':Bool}{Z:Type}{z:Z}{u v:Option Z}(hm:(bif c' then u else v)=some z)(ht:b=true->u=some z->Wp P kl n B x Q E H)(hf:b=false->v=some z->Wp P kl n B y Q E H)(hc:ed E c=.p (.b b):=by exact rfl)(hk:uK c:=by exact⟨⟩)(h1:b=true->c'=true:=by first|exact fun h=>h|(intro h;simpa using h))(h2:b=false->c'=false:=by first|exact fun h=>h|(intro h;simpa using h)):Wp P kl n B (.cond c x y) Q E H:=Wp.cond hc hk (fun h=>ht h (U9 hm (h1 h))) (fun h=>hf h (Vb hm (h2 h)))
theorem sL{p:Prop}(h:p:=by first|exact sd|((repeat' apply And.intro) <;> first|assumption|omega|(simp only[length_append,length_map,length_cons,length_nil,length_set,length_replicate]at *;omega))):p:=h
theorem kA{W K:dz->List Ob->Prop}{E:dz}{H:List Ob}{g:Prop}(hK:∀E H,W E H->K E H)(h:W E H)(e:K E H->g:=by first|exact fun h=>h|exact fun h=>⟨sL,h⟩):g:=e (hK _ _ h)
theorem dW {P:Program} {f:FuncId} {fn:Func} {code:Code} {args:List Va} {X:List Ob} {Post:Va->List Ob->Prop} (m n:Nat) (rs:List ResultVar) (hf:P.funcs[f]?=some fn) (h:∀B,Wp P (kinds X) n B code (qA P rs m (kinds X) Post) (yB 0 args) X) (hb:fn.body=some code:=by rfl) (hnm:(fn.name == "runtime.NumGoroutine")=false:=by decide) (hn:fn.ntmps=n:=by rfl) (hrs:fn.results.toList=rs:=by rfl) (hl:args.length<=n:=by exact Nat.le_of_ble_eq_true rfl):Does P f args X Post:=Does.of_wp m n rs hf hb hnm hn hrs hl h
theorem s6{p:Prop}(h:p:=by first|(simp only[go_sem,simprocAttr,hA];exact Is.mk)|(simp only[go_sem,simprocAttr,hA,lm,map_append,eL,zk,gT,dB,zf,zK,zc,zN,zb,za];exact Is.mk)|(simp only[go_sem,simprocAttr,hA])):p:=h
theorem wF{p:Prop}(h:p:=by first|exact fI|exact dR):p:=h
theorem wR{p:Prop}(h:p:=by(refine Wp.ret ?_;refine Lk ?_;cases hm;first|exact wF|(simp only[go_sem,simprocAttr,hA] <;> exact qy))):p:=h
theorem q6{P:Program}{kl:List Bool}{n:Nat}{B:Bs}{Q:Qt}{E E':dz}{H H':List Ob}{id:Nat}{l:List Oper}{y:Code}(h:Wp P kl n B y Q E' H')(h1:∀K:dz->List Ob->Prop,K E' H'->eU P kl n B l.toArray K (eM P kl n l l ⟨E,H,True⟩):=by(intro K hK;simp only[go_sem,simprocAttr,hA];first|exact hK|exact⟨sL,hK⟩)):Wp P kl n B (.seq (.region id l.toArray false) y) Q E H:=cb fun K hK=>h1 K (hK _ _ h)
theorem r6{P:Program}{kl:List Bool}{n:Nat}{B:Bs}{Q:Qt}{E E':dz}{H H':List Ob}{id:Nat}{l:List Oper}(h:Q .normal E' H')(h1:∀K:dz->List Ob->Prop,K E' H'->eU P kl n B l.toArray K (eM P kl n l l ⟨E,H,True⟩):=by(intro K hK;simp only[go_sem,simprocAttr,hA];first|exact hK|exact⟨sL,hK⟩)):Wp P kl n B (.region id l.toArray false) Q E H:=Wp.region fun K hK=>h1 K (hK _ _ h)
theorem wQ{p:Prop}(h:p:=by(refine q6 ?_;exact wR)):p:=h
theorem rS{P:Program}{kl:List Bool}{n:Nat}{B:Bs}{Q:Qt}{E:dz}{H:List Ob}{id:Nat}{l:List Oper}{y:Code}{g:(dz->List Ob->Prop)->Prop}(h:∀K:dz->List Ob->Prop,(∀E H,Wp P kl n B y Q E H->K E H)->g K)(e:∀K,g K->eU P kl n B l.toArray K (eM P kl n l l ⟨E,H,True⟩):=by(intro K;(intro q;simp only[go_sem,simprocAttr,hA];first|exact⟨sL,q⟩|exact q))):Wp P kl n B (.seq (.region id l.toArray false) y) Q E H:=cb fun K hK=>e K (h K hK)
theorem rE{P:Program}{kl:List Bool}{n:Nat}{B:Bs}{Q:Qt}{E:dz}{H:List Ob}{id:Nat}{l:List Oper}{g:(dz->List Ob->Prop)->Prop}(h:∀K:dz->List Ob->Prop,(∀E H,Q .normal E H->K E H)->g K)(e:∀K,g K->eU P kl n B l.toArray K (eM P kl n l l ⟨E,H,True⟩):=by(intro K;(intro q;simp only[go_sem,simprocAttr,hA];first|exact⟨sL,q⟩|exact q))):Wp P kl n B (.region id l.toArray false) Q E H:=Wp.region fun K hK=>e K (h K hK)
theorem dS{P:Program}{kl:List Bool}{n:Nat}{B:Bs}{Q:Qt}{E:dz}{H:List Ob}{id:Nat}{os:List Oper}{y:Code}(plan:Plan){g:(dz->List Ob->Prop)->Prop}(h:∀K:dz->List Ob->Prop,(∀E H,Wp P kl n B y Q E H->K E H)->g K)(e:∀K,g K->mY P kl n B os.toArray K (zkT P kl n os plan ⟨[],E,H,True⟩):=by(intro K;(intro q;simp only[go_sem,simprocAttr,hA];first|exact⟨sL,q⟩|exact q)))(hm:P.follows .mixedOrders=true:=by kernel_rfl)(hl:plan.length=os.length:=by rfl)(hp:jy os.toArray plan [] (Array.replicate os.length false)=true:=by kernel_rfl):Wp P kl n B (.seq (.region id os.toArray true) y) Q E H:=cj plan hm hl hp fun K hK=>e K (h K hK)
theorem dE{P:Program}{kl:List Bool}{n:Nat}{B:Bs}{Q:Qt}{E:dz}{H:List Ob}{id:Nat}{os:List Oper}(plan:Plan){g:(dz->List Ob->Prop)->Prop}(h:∀K:dz->List Ob->Prop,(∀E H,Q .normal E H->K E H)->g K)(e:∀K,g K->mY P kl n B os.toArray K (zkT P kl n os plan ⟨[],E,H,True⟩):=by(intro K;(intro q;simp only[go_sem,simprocAttr,hA];first|exact⟨sL,q⟩|exact q)))(hm:P.follows .mixedOrders=true:=by kernel_rfl)(hl:plan.length=os.length:=by rfl)(hp:jy os.toArray plan [] (Array.replicate os.length false)=true:=by kernel_rfl):Wp P kl n B (.region id os.toArray true) Q E H:=cz plan hm hl hp fun K hK=>e K (h K hK)
theorem cX{P:Program}{kl:List Bool}{n:Nat}{B:Bs}{K:dz->List Ob->Prop}{E:dz}{H:List Ob}{ops:Array Oper}{o:Oper}{l:List Oper}{f:FuncId}{av args:List Va}{g:Bool}{v:Va}{q:Prop}(hs:g=true->Does P f args [] fun r X=>r=v/\X=[])(hq:q)(ha:Is (iE E o) (some (f,av)):=by exact s6)(hb:Is (iR ops.toList E o) (some g):=by exact s6)(hp:Is (jO H av) (some args):=by exact s6)(hok:iP n g E o:=by exact s6)(hf:Is v.flat true:=by exact s6)(e:q->eU P kl n B ops K (eM P kl n ops.toList l ⟨dV E o.dst (iz o.guard g v),H,True⟩):=by(intro q;simp only[go_sem,simprocAttr,hA];first|exact⟨sL,q⟩|exact q)):Rg P kl n B ops (o::l) E H K:=cG hs ha hb hp hok hf fun _=>e hq
theorem cF{P:Program}{kl:List Bool}{n:Nat}{B:Bs}{K:dz->List Ob->Prop}{E:dz}{H:List Ob}{ops:Array Oper}{o:Oper}{l:List Oper}{f:FuncId}{av args:List Va}{v:Va}{q:Prop}(hs:Does P f args [] fun r X=>r=v/\X=[])(hq:q)(ha:Is (As E o) (some (f,av)):=by exact s6)(hp:Is (vo av) (some args):=by exact s6)(hok:iP n true E o:=by exact s6)(e:q->eU P kl n B ops K (eM P kl n ops.toList l ⟨dV E o.dst v,H,True⟩):=by(intro q;simp only[go_sem,simprocAttr,hA];first|exact⟨sL,q⟩|exact q)):Rg P kl n B ops (o::l) E H K:=Rg.callF hs ha hp hok fun _=>e hq
theorem cO{P:Program}{kl:List Bool}{n:Nat}{B:Bs}{K:dz->List Ob->Prop}{E:dz}{H:List Ob}{ops:Array Oper}{o:Oper}{l:List Oper}{f:FuncId}{av args:List Va}{X Y:List Ob}{v:Va}{q:Prop}(ids:List Nat)(hs:Does P f args X fun r Z=>r=v/\Z=Y)(hq:q)(ha:Is (As E o) (some (f,av)):=by exact s6)(hp:Is (jX ids av) (some args):=by exact s6)(hX:Is (jq ids H ids) (some X):=by exact s6)(hi:j0 H.length ids=true:=by exact s6)(hok:iP n true E o:=by exact s6)(e:q->eU P kl n B ops K (eM P kl n ops.toList l ⟨dV (ik (fT ids H) E) o.dst (ew ids H.length v),eo (gh (fT ids H) H) ids (gr ids H.length Y),True⟩):=by(intro q;simp only[go_sem,simprocAttr,hA];first|exact⟨sL,q⟩|exact q)):Rg P kl n B ops (o::l) E H K:=db ids hs ha hp hX hi hok fun _ _ h _=>by obtain⟨rfl,rfl⟩:=h;exact e hq
theorem cQ{P:Program}{kl:List Bool}{n:Nat}{B:Bs}{K:dz->List Ob->Prop}{E:dz}{H:List Ob}{ops:Array Oper}{o:Oper}{l:List Oper}{f:FuncId}{av args:List Va}{X:List Ob}{g:Bool}{v:Va}{q:Prop}(ids:List Nat)(hs:g=true->Does P f args X fun r Z=>r=v/\Z=X)(hq:q)(ha:Is (iE E o) (some (f,av)):=by exact s6)(hb:Is (iR ops.toList E o) (some g):=by exact s6)(hp:Is (jX ids av) (some args):=by exact s6)(hX:Is (jq ids H ids) (some X):=by exact s6)(hi:j0 H.length ids=true:=by exact s6)(hk:vr H ids=true:=by exact s6)(hok:iP n g E o:=by exact s6)(e:q->eU P kl n B ops K (eM P kl n ops.toList l ⟨dV E o.dst (iz o.guard g (ew ids H.length v)),H,True⟩):=by(intro q;simp only[go_sem,simprocAttr,hA];first|exact⟨sL,q⟩|exact q)):Rg P kl n B ops (o::l) E H K:=Rg.callR ids hs ha hb hp hX hi hk hok (e hq)
theorem cD{P:Program}{kl:List Bool}{n:Nat}{B:Bs}{ops:List Oper}{K:dz->List Ob->Prop}{l:Plan}{obs:List En}{E:dz}{H:List Ob}{k:Nat}{f:FuncId}{av args:List Va}{g:Bool}{o:Oper}{v:Va}{q:Prop}(hs:g=true->Does P f args [] fun r X=>r=v/\X=[])(hq:q)(hk:Is ops[k]? (some o):=by exact s6)(ha:Is (iE E o) (some (f,av)):=by exact s6)(hg:Is (iR ops E o) (some g):=by exact s6)(hp:Is (jO H av) (some args):=by exact s6)(hok:iP n g E o:=by exact s6)(hf:Is v.flat true:=by exact s6)(e:q->mY P kl n B ops.toArray K (zkT P kl n ops l ⟨⟨k,E,iz o.guard g v,qE ops o E (iz o.guard g v) av args⟩::obs,dV E o.dst (iz o.guard g v),H,True⟩):=by(intro q;simp only[go_sem,simprocAttr,hA];first|exact⟨sL,q⟩|exact q)):Dr P kl n B ops.toArray (.rd k l) obs E H K:=Dr.callF hs hk ha hg hp hok hf (e hq)
theorem cE{P:Program}{kl:List Bool}{n:Nat}{B:Bs}{ops:List Oper}{K:dz->List Ob->Prop}{l:Plan}{obs:List En}{E:dz}{H:List Ob}{k:Nat}{L:List Nat}{f:FuncId}{av args:List Va}{X Y:List Ob}{o:Oper}{v:Va}{q:Prop}(ids:List Nat)(hs:Does P f args X fun r Z=>r=v/\Z=Y)(hq:q)(hk:Is ops[k]? (some o):=by exact s6)(hg:Is o.guard none:=by exact s6)(ha:Is (iE E o) (some (f,av)):=by exact s6)(hp:Is (jX ids av) (some args):=by exact s6)(hX:Is (jq ids H ids) (some X):=by exact s6)(hi:j0 H.length ids=true:=by exact s6)(hkp:vr H ids=true:=by exact s6)(hok:iP n true E o:=by exact s6)(hag:vu L none (eo H ids (gr ids H.length Y)) obs:=by exact s6)(e:q->mY P kl n B ops.toArray K (zkT P kl n ops l ⟨obs,dV E o.dst (ew ids H.length v),eo H ids (gr ids H.length Y),True⟩):=by(intro q;simp only[go_sem,simprocAttr,hA];first|exact⟨sL,q⟩|exact q)):Dr P kl n B ops.toArray (.ef k L l) obs E H K:=ce (df ids hs hk hg ha hp hX hi hkp hok hag (e hq))
theorem cN{P:Program}{kl:List Bool}{n:Nat}{B:Bs}{Q:Qt}{E:dz}{H:List Ob}{c:Operand}{x y:Code}{b c':Bool}{Z:Type}{z:Z}{u v:Option Z}(hm:(bif c' then u else v)=some z)(ht:u=some z->Wp P kl n B x Q E H)(hf:v=some z->Wp P kl n B y Q E H)(hc:ed E c=.p (.b b):=by exact rfl)(hk:uK c:=by exact⟨⟩)(h1:b=true->c'=true:=by first|exact fun h=>h|(intro h;simpa using h))(h2:b=false->c'=false:=by first|exact fun h=>h|(intro h;simpa using h)):Wp P kl n B (.cond c x y) Q E H:=cM hm (fun _=>ht) (fun _=>hf) hc hk h1 h2
theorem cR{P:Program}{kl:List Bool}{n:Nat}{B:Bs}{Q:Qt}{E:dz}{H:List Ob}{c:Operand}{x y:Code}{b c':Bool}{Z:Type}{z:Z}{u v:Option Z}(hm:(bif c' then u else v)=some z)(hf:v=some z->Wp P kl n B y Q E H)(ht:u=some z->Wp P kl n B x Q E H:=by(intro hm;first|exact wR|exact wQ))(hc:ed E c=.p (.b b):=by exact rfl)(hk:uK c:=by exact⟨⟩)(h1:b=true->c'=true:=by first|exact fun h=>h|(intro h;simpa using h))(h2:b=false->c'=false:=by first|exact fun h=>h|(intro h;simpa using h)):Wp P kl n B (.cond c x y) Q E H:=cM hm (fun _=>ht) (fun _=>hf) hc hk h1 h2
theorem cT{P:Program}{kl:List Bool}{n:Nat}{B:Bs}{Q:Qt}{E:dz}{H:List Ob}{c:Operand}{x y:Code}{b c':Bool}{Z:Type}{z:Z}{u v:Option Z}(hm:(bif c' then u else v)=some z)(ht:u=some z->Wp P kl n B x Q E H)(hf:v=some z->Wp P kl n B y Q E H:=by(intro hm;first|exact wR|exact wQ))(hc:ed E c=.p (.b b):=by exact rfl)(hk:uK c:=by exact⟨⟩)(h1:b=true->c'=true:=by first|exact fun h=>h|(intro h;simpa using h))(h2:b=false->c'=false:=by first|exact fun h=>h|(intro h;simpa using h)):Wp P kl n B (.cond c x y) Q E H:=cM hm (fun _=>ht) (fun _=>hf) hc hk h1 h2
theorem fL{P:Program}{kl:List Bool}{n:Nat}{B:Bs}{Q:Qt}{E:dz}{H:List Ob}{c:Code}(k m:Nat)(h:m<=274877906944->Wp P kl n B c Q E H)(e:(ei E k).ok->m<=274877906944:=by(intro q;simp only[go_sem,simprocAttr,length_map]at q;omega)):Wp P kl n B c Q E H:=dk k fun q=>h (e q)
theorem tO{i n:Nat}{p:Prop}(h:p)(e:p->decide ((i:Int)<(n:Int))=true:=by first|exact fun h=>h|(intro h;simpa using h)):i<n:=qP (e h)
theorem u2{i n:Nat}{p:Prop}(h:p)(e:p->decide ((i:Int)<(n:Int))=false:=by first|exact fun h=>h|(intro h;simpa using h)):¬i<n:=mg (e h)
theorem wN{S:Type}{a:Prop}{b c:S->Prop}(s:S)(h1:a)(h2:b s)(h3:c s:=by(first|(simp only[go_sem,simprocAttr,hA];done)|(simp only[go_sem,simprocAttr,hA];exact qy)|exact wF)):∃s,a/\b s/\c s:=⟨s,h1,h2,h3⟩
theorem nA{g:Prop}(h:True->g):g:=h trivial
theorem sX{P:Program}{kl:List Bool}{n:Nat}{B:Bs}{Q:Qt}{E E':dz}{H H':List Ob}{id:Nat}{l:List Oper}{y:Code}{g:Bool}{f:FuncId}{args:List Va}{v:Va}(hs:g=true->Does P f args [] fun r X=>r=v/\X=[])(hq:Wp P kl n B y Q E' H')(e:∀K:dz->List Ob->Prop,K E' H'->(g=true->Does P f args [] fun r X=>r=v/\X=[])->eU P kl n B l.toArray K (eM P kl n l l ⟨E,H,True⟩):=by(intro K hK hs;simp only[go_sem,simprocAttr,hA];first|exact cX hs hK|exact⟨sL,cX hs hK⟩)):Wp P kl n B (.seq (.region id l.toArray false) y) Q E H:=cb fun K hK=>e K (hK _ _ hq) hs
theorem eX{P:Program}{kl:List Bool}{n:Nat}{B:Bs}{Q:Qt}{E E':dz}{H H':List Ob}{id:Nat}{l:List Oper}{g:Bool}{f:FuncId}{args:List Va}{v:Va}(hs:g=true->Does P f args [] fun r X=>r=v/\X=[])(hq:Q .normal E' H')(e:∀K:dz->List Ob->Prop,K E' H'->(g=true->Does P f args [] fun r X=>r=v/\X=[])->eU P kl n B l.toArray K (eM P kl n l l ⟨E,H,True⟩):=by(intro K hK hs;simp only[go_sem,simprocAttr,hA];first|exact cX hs hK|exact⟨sL,cX hs hK⟩)):Wp P kl n B (.region id l.toArray false) Q E H:=Wp.region fun K hK=>e K (hK _ _ hq) hs
theorem sF{P:Program}{kl:List Bool}{n:Nat}{B:Bs}{Q:Qt}{E E':dz}{H H':List Ob}{id:Nat}{l:List Oper}{y:Code}{f:FuncId}{args:List Va}{v:Va}(hs:Does P f args [] fun r X=>r=v/\X=[])(hq:Wp P kl n B y Q E' H')(e:∀K:dz->List Ob->Prop,K E' H'->(Does P f args [] fun r X=>r=v/\X=[])->eU P kl n B l.toArray K (eM P kl n l l ⟨E,H,True⟩):=by(intro K hK hs;simp only[go_sem,simprocAttr,hA];first|exact cF hs hK|exact⟨sL,cF hs hK⟩)):Wp P kl n B (.seq (.region id l.toArray false) y) Q E H:=cb fun K hK=>e K (hK _ _ hq) hs
theorem eF{P:Program}{kl:List Bool}{n:Nat}{B:Bs}{Q:Qt}{E E':dz}{H H':List Ob}{id:Nat}{l:List Oper}{f:FuncId}{args:List Va}{v:Va}(hs:Does P f args [] fun r X=>r=v/\X=[])(hq:Q .normal E' H')(e:∀K:dz->List Ob->Prop,K E' H'->(Does P f args [] fun r X=>r=v/\X=[])->eU P kl n B l.toArray K (eM P kl n l l ⟨E,H,True⟩):=by(intro K hK hs;simp only[go_sem,simprocAttr,hA];first|exact cF hs hK|exact⟨sL,cF hs hK⟩)):Wp P kl n B (.region id l.toArray false) Q E H:=Wp.region fun K hK=>e K (hK _ _ hq) hs
def Tg(ids:List Nat)(p:Prop):Prop:=p
theorem pT{ids:List Nat}{a b:Prop}(ha:a)(hb:Tg ids b):Tg ids (a/\b):=⟨ha,hb⟩
theorem oT{P:Program}{kl:List Bool}{n:Nat}{B:Bs}{K:dz->List Ob->Prop}{E:dz}{H:List Ob}{ops:Array Oper}{o:Oper}{l:List Oper}{f:FuncId}{av args:List Va}{X Y:List Ob}{v:Va}{q:Prop}{ids:List Nat}(hs:Does P f args X fun r Z=>r=v/\Z=Y)(hq:q)(ha:Is (As E o) (some (f,av)):=by exact s6)(hp:Is (jX ids av) (some args):=by exact s6)(hX:Is (jq ids H ids) (some X):=by exact s6)(hi:j0 H.length ids=true:=by exact s6)(hok:iP n true E o:=by exact s6)(e:q->eU P kl n B ops K (eM P kl n ops.toList l ⟨dV (ik (fT ids H) E) o.dst (ew ids H.length v),eo (gh (fT ids H) H) ids (gr ids H.length Y),True⟩):=by(intro q;simp only[go_sem,simprocAttr,hA];first|exact⟨sL,q⟩|exact q)):Tg ids (Rg P kl n B ops (o::l) E H K):=cO ids hs hq ha hp hX hi hok e
theorem qT{P:Program}{kl:List Bool}{n:Nat}{B:Bs}{K:dz->List Ob->Prop}{E:dz}{H:List Ob}{ops:Array Oper}{o:Oper}{l:List Oper}{f:FuncId}{av args:List Va}{X:List Ob}{g:Bool}{v:Va}{q:Prop}{ids:List Nat}(hs:g=true->Does P f args X fun r Z=>r=v/\Z=X)(hq:q)(ha:Is (iE E o) (some (f,av)):=by exact s6)(hb:Is (iR ops.toList E o) (some g):=by exact s6)(hp:Is (jX ids av) (some args):=by exact s6)(hX:Is (jq ids H ids) (some X):=by exact s6)(hi:j0 H.length ids=true:=by exact s6)(hk:vr H ids=true:=by exact s6)(hok:iP n g E o:=by exact s6)(e:q->eU P kl n B ops K (eM P kl n ops.toList l ⟨dV E o.dst (iz o.guard g (ew ids H.length v)),H,True⟩):=by(intro q;simp only[go_sem,simprocAttr,hA];first|exact⟨sL,q⟩|exact q)):Tg ids (Rg P kl n B ops (o::l) E H K):=cQ ids hs hq ha hb hp hX hi hk hok e
theorem sO{P:Program}{kl:List Bool}{n:Nat}{B:Bs}{Q:Qt}{E E':dz}{H H':List Ob}{id:Nat}{l:List Oper}{y:Code}(ids:List Nat){f:FuncId}{args:List Va}{v:Va}{X Y:List Ob}(hs:Does P f args X fun r Z=>r=v/\Z=Y)(hq:Wp P kl n B y Q E' H')(e:∀K:dz->List Ob->Prop,K E' H'->(Does P f args X fun r Z=>r=v/\Z=Y)->Tg ids (eU P kl n B l.toArray K (eM P kl n l l ⟨E,H,True⟩)):=by(intro K hK hs;simp only[go_sem,simprocAttr,hA];first|exact oT hs hK|exact pT sL (oT hs hK))):Wp P kl n B (.seq (.region id l.toArray false) y) Q E H:=cb fun K hK=>e K (hK _ _ hq) hs
theorem eO{P:Program}{kl:List Bool}{n:Nat}{B:Bs}{Q:Qt}{E E':dz}{H H':List Ob}{id:Nat}{l:List Oper}(ids:List Nat){f:FuncId}{args:List Va}{v:Va}{X Y:List Ob}(hs:Does P f args X fun r Z=>r=v/\Z=Y)(hq:Q .normal E' H')(e:∀K:dz->List Ob->Prop,K E' H'->(Does P f args X fun r Z=>r=v/\Z=Y)->Tg ids (eU P kl n B l.toArray K (eM P kl n l l ⟨E,H,True⟩)):=by(intro K hK hs;simp only[go_sem,simprocAttr,hA];first|exact oT hs hK|exact pT sL (oT hs hK))):Wp P kl n B (.region id l.toArray false) Q E H:=Wp.region fun K hK=>e K (hK _ _ hq) hs
theorem sQ{P:Program}{kl:List Bool}{n:Nat}{B:Bs}{Q:Qt}{E E':dz}{H H':List Ob}{id:Nat}{l:List Oper}{y:Code}(ids:List Nat){g:Bool}{f:FuncId}{args:List Va}{v:Va}{X:List Ob}(hs:g=true->Does P f args X fun r Z=>r=v/\Z=X)(hq:Wp P kl n B y Q E' H')(e:∀K:dz->List Ob->Prop,K E' H'->(g=true->Does P f args X fun r Z=>r=v/\Z=X)->Tg ids (eU P kl n B l.toArray K (eM P kl n l l ⟨E,H,True⟩)):=by(intro K hK hs;simp only[go_sem,simprocAttr,hA];first|exact qT hs hK|exact pT sL (qT hs hK))):Wp P kl n B (.seq (.region id l.toArray false) y) Q E H:=cb fun K hK=>e K (hK _ _ hq) hs
theorem eQ{P:Program}{kl:List Bool}{n:Nat}{B:Bs}{Q:Qt}{E E':dz}{H H':List Ob}{id:Nat}{l:List Oper}(ids:List Nat){g:Bool}{f:FuncId}{args:List Va}{v:Va}{X:List Ob}(hs:g=true->Does P f args X fun r Z=>r=v/\Z=X)(hq:Q .normal E' H')(e:∀K:dz->List Ob->Prop,K E' H'->(g=true->Does P f args X fun r Z=>r=v/\Z=X)->Tg ids (eU P kl n B l.toArray K (eM P kl n l l ⟨E,H,True⟩)):=by(intro K hK hs;simp only[go_sem,simprocAttr,hA];first|exact qT hs hK|exact pT sL (qT hs hK))):Wp P kl n B (.region id l.toArray false) Q E H:=Wp.region fun K hK=>e K (hK _ _ hq) hs
theorem lB{P:Program}{kl:List Bool}{n:Nat}{B:Bs}{Q:Qt}{E:dz}{H:List Ob}{Z S α:Type}{z:Z}{f:Nat->α->S->(S->Option Z)->(S->Option Z)->Option Z}{k:S->Option Z}{l:List α}{i:Nat}{s:S}{c:Operand}{b:Bool}{j id:Nat}{x y:Code}(e:α->List Dt)(hm:Vc.forL (l.drop i) i f s k=some z)(hn:l.length<=274877906944)(hx:k s=some z->Q (.exit j) E H)(h:i<l.length->IntKind.i64.wrap ((i:Int)+1)=((i+1:Nat):Int)->∀a nx,(∀d,(l.map e).getD i d=e a)->(∀d,l.getD i d=a)->(∀s',nx s'=some z->Vc.forL (l.drop (i+1)) (i+1) f s' k=some z)->f i a s nx k=some z->(IntKind.i64.wrap ((i:Int)+1)=((i+1:Nat):Int)/\∀d,(l.map e).getD i d=e a)->∀K:dz->List Ob->Prop,(∀E H,Wp P kl n B y Q E H->K E H)->Wp P kl n B x (zq id (zx K Q)) E H)(hc:ed E c=.p (.b b):=by exact rfl)(hk:uK c:=by exact⟨⟩)(h1:b=true->decide ((i:Int)<(l.length:Int))=true:=by first|exact fun h=>h|(intro h;simpa using h))(h2:b=false->decide ((i:Int)<(l.length:Int))=false:=by first|exact fun h=>h|(intro h;simpa using h)):Wp P kl n B (.seq (.cond c .skip (.exit j)) (.seq (.block id x) y)) Q E H:=by
 refine ca fun K1 hK1 _=>Wp.cond hc hk (fun hb=>?_) fun hb=>Wp.exit (hx (p8 hm (mg (h2 hb))))
 have hlt:=qP (h1 hb);have hw:=qc hlt hn;obtain⟨a,nx,hxa,hya,hnx,hm⟩:=p9 hm hlt;exact Wp.skip (hK1 _ _ (ca fun K hK _=>Wp.block (h hlt hw a nx (hxa e) hya hnx hm ⟨hw,hxa e⟩ K hK)))
theorem lS{P:Program}{kl:List Bool}{n:Nat}{B:Bs}{Q:Qt}{E:dz}{H:List Ob}{Z S α:Type}{z:Z}{f:Nat->α->S->(S->Option Z)->(S->Option Z)->Option Z}{k:S->Option Z}{l:List α}{i:Nat}{s:S}{c:Operand}{b:Bool}{j id:Nat}{x y:Code}(hm:Vc.forL (l.drop i) i f s k=some z)(hn:l.length<=274877906944)(hx:k s=some z->Q (.exit j) E H)(h:i<l.length->IntKind.i64.wrap ((i:Int)+1)=((i+1:Nat):Int)->∀a nx,(∀d,l.getD i d=a)->(∀s',nx s'=some z->Vc.forL (l.drop (i+1)) (i+1) f s' k=some z)->f i a s nx k=some z->(IntKind.i64.wrap ((i:Int)+1)=((i+1:Nat):Int)/\∀d,l.getD i d=a)->∀K:dz->List Ob->Prop,(∀E H,Wp P kl n B y Q E H->K E H)->Wp P kl n B x (zq id (zx K Q)) E H)(hc:ed E c=.p (.b b):=by exact rfl)(hk:uK c:=by exact⟨⟩)(h1:b=true->decide ((i:Int)<(l.length:Int))=true:=by first|exact fun h=>h|(intro h;simpa using h))(h2:b=false->decide ((i:Int)<(l.length:Int))=false:=by first|exact fun h=>h|(intro h;simpa using h)):Wp P kl n B (.seq (.cond c .skip (.exit j)) (.seq (.block id x) y)) Q E H:=by
 refine ca fun K1 hK1 _=>Wp.cond hc hk (fun hb=>?_) fun hb=>Wp.exit (hx (p8 hm (mg (h2 hb))))
 have hlt:=qP (h1 hb);have hw:=qc hlt hn;obtain⟨a,nx,hxa,hya,hnx,hm⟩:=p9 hm hlt;exact Wp.skip (hK1 _ _ (ca fun K hK _=>Wp.block (h hlt hw a nx hya hnx hm ⟨hw,hya⟩ K hK)))
end Go.Proofs.YtbcjkdopkcbblaaGreatDoor
