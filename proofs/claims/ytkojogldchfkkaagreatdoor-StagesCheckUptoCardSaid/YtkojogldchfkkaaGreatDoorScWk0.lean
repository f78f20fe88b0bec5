/- Facts that the walks use. -/
import Derived.Test.YtkojogldchfkkaaGreatDoorScMd
import Derived.Test.YtkojogldchfkkaaGreatDoorScTy
import Derived.Test.YtkojogldchfkkaaGreatDoorSo
import Derived.Test.YtkojogldchfkkaaGreatDoorSh
set_option linter.unusedSimpArgs false
set_option linter.unusedVariables false
open Go.Proofs Go.Shelf
open List
namespace Go.Proofs.YtkojogldchfkkaaGreatDoor
open Tryz
open Go.Vc Go.Md
abbrev lm{α:Type}(e:α->List Dt)(x:List α):Va:=.p (.l (List.map e x))
abbrev pI(n:Int):Va:=.p (.i .i64 n)
abbrev pS(s:eA):Va:=.p (.s s)
abbrev pB(b:Bool):Va:=.p (.b b)
def rz:Go.Shelf.Ren:=⟨fun|165=>178|240=>167|241=>223|276=>211|277=>251|n=>n,fun|0=>0|3=>3|4=>4|5=>5|9=>9|20=>20|37=>152|70=>151|72=>154|164=>231|n=>n,fun n=>n⟩
theorem As:Lays.n165 prog rz:={
  mixed:=by kernel_rfl
  f165:=func178.trans (congrArg some (by kernel_rfl))
  f240:=func167.trans (congrArg some (by kernel_rfl))
  f241:=func223.trans (congrArg some (by kernel_rfl))
  f276:=func211.trans (congrArg some (by kernel_rfl))
  f277:=func251.trans (congrArg some (by kernel_rfl))
  t0:=Tryz.underlying0
  a0:=Tryz.isAgg0
  z0:=Tryz.sizeOf0
  v0:=Tryz.zeroValue0
  t3:=Tryz.underlying3
  a3:=Tryz.isAgg3
  z3:=Tryz.sizeOf3
  v3:=Tryz.zeroValue3
  t4:=Tryz.underlying4
  a4:=Tryz.isAgg4
  z4:=Tryz.sizeOf4
  v4:=Tryz.zeroValue4
  t9:=Tryz.underlying9
  a9:=Tryz.isAgg9
  z9:=Tryz.sizeOf9
  v9:=Tryz.zeroValue9
  t20:=Tryz.underlying20
  a20:=Tryz.isAgg20
  z20:=Tryz.sizeOf20
  v20:=Tryz.zeroValue20
  t37:=Tryz.underlying152
  a37:=Tryz.isAgg152
  z37:=Tryz.sizeOf152
  v37:=Tryz.zeroValue152
  t70:=Tryz.underlying151
  a70:=Tryz.isAgg151
  z70:=Tryz.sizeOf151
  v70:=Tryz.zeroValue151
  t72:=Tryz.underlying154
  a72:=Tryz.isAgg154
  z72:=Tryz.sizeOf154
  v72:=Tryz.zeroValue154
  t164:=Tryz.underlying231
  a164:=Tryz.isAgg231
  z164:=Tryz.sizeOf231
  v164:=Tryz.zeroValue231 }
theorem At:Builder.Extra prog rz:={
  t5:=Tryz.underlying5
  a5:=Tryz.isAgg5
  z5:=Tryz.sizeOf5
  v5:=Tryz.zeroValue5
  sizeBuilder:=by kernel_rfl
  liesBuilder:=by kernel_rfl
  infoByte:=by kernel_rfl
  cellsByte:=by kernel_rfl
  sizeByte:=by kernel_rfl
  neB5:=by decide }
theorem Rp:Jr prog 151 231 154 2=true:=by kernel_rfl
attribute [go_sem] Rp
theorem Rq:Jr prog 231 151 154 2=true:=by kernel_rfl
attribute [go_sem] Rq
theorem Ee:Lr prog 156=true:=by kernel_rfl
attribute [go_sem] Ee
theorem Ah:NvI prog 211:=NvI.noEscape func211 (by kernel_rfl) (by kernel_rfl) (by kernel_rfl) (by kernel_rfl)
theorem DJ:(prog.info? 154).isSome=true:=by kernel_rfl
attribute [go_sem] DJ
theorem vD:NM prog 194 5=true:=by kernel_rfl
attribute [go_sem] vD
theorem DP(s:List UInt8)(c:List UInt8):Nv prog 106 [.p (.s s),.p (.s c)] (.p (.i .i64 (iQ s c))):=Nv.compare func106 (by kernel_rfl) (by kernel_rfl) (by kernel_rfl) (by kernel_rfl) s c
theorem DO(s:List UInt8)(c:Int):Nv prog 228 [.p (.s s),.p (.i .u8 c)] (.p (.i .i64 (yy s c))):=Nv.countByte func228 (by kernel_rfl) (by kernel_rfl) (by kernel_rfl) (by kernel_rfl) s c
theorem DN(s:List UInt8)(c:Int):Nv prog 265 [.p (.s s),.p (.i .u8 c)] (.p (.i .i64 (xO s c))):=Nv.indexByte func265 (by kernel_rfl) (by kernel_rfl) (by kernel_rfl) (by kernel_rfl) s c
theorem sg{p:Prop}(h:p:=by simp only[go_sem,simprocAttr]):p:=h
theorem si{p:Prop}(h:p:=by first|(simp only[go_sem,simprocAttr];exact Is.mk)|(simp only[go_sem,simprocAttr,lm,map_append,fl,zE,fv,eD,zf,zc,zK,zb,za];exact Is.mk)):p:=h
theorem qS{P:Program}{kl:List Bool}{n:Nat}{B:Bs}{Q:Qt}{E E':eC}{H H':List Ob}{id:Nat}{l:List Oper}{y:Code}(h:Wp P kl n B y Q E' H')(h1:∀K:eC->List Ob->Prop,K E' H'->fO P kl n B l.toArray K (fB P kl n l l ⟨E,H,True⟩):=by(intro K hK;simp only[go_sem,simprocAttr];first|exact hK|exact⟨sd,hK⟩)):Wp P kl n B (.seq (.region id l.toArray false) y) Q E H:=dh fun K hK=>h1 K (hK _ _ h)
theorem qR{P:Program}{kl:List Bool}{n:Nat}{B:Bs}{Q:Qt}{E E':eC}{H H':List Ob}{id:Nat}{l:List Oper}(h:Q .normal E' H')(h1:∀K:eC->List Ob->Prop,K E' H'->fO P kl n B l.toArray K (fB P kl n l l ⟨E,H,True⟩):=by(intro K hK;simp only[go_sem,simprocAttr];first|exact hK|exact⟨sd,hK⟩)):Wp P kl n B (.region id l.toArray false) Q E H:=Wp.region fun K hK=>h1 K (hK _ _ h)
theorem sb{p q:Prop}(hp:p)(h:p->q:=by first|exact fun h=>h|(intro h;simpa using h)):q:=h hp
theorem qa{p:Prop}(h:p:=by simp[fl,zE,fv,eD,zf,zc,zK,zb,za,map_set,map_replicate]):p:=h
theorem eS{p:Prop}(h:p:=by(simp only[go_sem,simprocAttr] <;> simp[fl,zE,fv,eD,zf,zc,zK,zb,za,map_set,map_replicate])):p:=h
theorem S7{p:Prop}(h:p:=by simp[fl,zE,fv,eD,zf,zc,zK,zb,za,zU,map_set,map_replicate]):p:=h
theorem gf{p:Prop}(h:p:=by(simp only[go_sem,simprocAttr] <;> simp[fl,zE,fv,eD,zf,zc,zK,zb,za,zU,map_set,map_replicate])):p:=h
theorem QA{p:Prop}(h:p:=by simp[fl,zE,fv,eD,zf,zc,yS,zK,zb,za,zU,map_set,map_replicate]):p:=h
theorem tr{p:Prop}(h:p:=by(simp only[go_sem,simprocAttr] <;> simp[fl,zE,fv,eD,zf,zc,yS,zK,zb,za,zU,map_set,map_replicate])):p:=h
theorem lF{p:Prop}(h:p:=by simp[fl,zE,fv,eD,zf,zc,yS,zK,zb,za,CX,zU,map_set,map_replicate]):p:=h
theorem fI{p:Prop}(h:p:=by(simp only[go_sem,simprocAttr] <;> simp[fl,zE,fv,eD,zf,zc,yS,zK,zb,za,CX,zU,map_set,map_replicate])):p:=h
theorem gE{p:Prop}(h:p:=by simp[fl,zE,fv,eD,BF,zf,zc,yS,zK,zb,za,CX,zU,map_set,map_replicate]):p:=h
theorem fT{p:Prop}(h:p:=by(simp only[go_sem,simprocAttr] <;> simp[fl,zE,fv,eD,BF,zf,zc,yS,zK,zb,za,CX,zU,map_set,map_replicate])):p:=h
theorem cM{P:Program}{kl:List Bool}{n:Nat}{B:Bs}{Q:Qt}{E:eC}{H:List Ob}{c:Operand}{x y:Code}{b c':Bool}{Z:Type}{z:Z}{u v:Option Z}(hm:(bif c' then u else v)=some z)(ht:b=true->u=some z->Wp P kl n B x Q E H)(hf:b=false->v=some z->Wp P kl n B y Q E H)(hc:eY E c=.p (.b b):=by exact rfl)(hk:ul c:=by exact⟨⟩)(h1:b=true->c'=true:=by first|exact fun h=>h|(intro h;simpa using h))(h2:b=false->c'=false:=by first|exact fun h=>h|(intro h;simpa using h)):Wp P kl n B (.cond c x y) Q E H:=Wp.cond hc hk (fun h=>ht h (Tb hm (h1 h))) (fun h=>hf h (Tc hm (h2 h)))
theorem sL{p:Prop}(h:p:=by first|exact sd|((repeat' apply And.intro) <;> first|assumption|omega|(simp only[length_append,length_map,length_cons,length_nil,length_set,length_replicate]at *;omega))):p:=h
theorem kA{W K:eC->List Ob->Prop}{E:eC}{H:List Ob}{g:Prop}(hK:∀E H,W E H->K E H)(h:W E H)(e:K E H->g:=by first|exact fun h=>h|exact fun h=>⟨sL,h⟩):g:=e (hK _ _ h)
theorem dW {P:Program} {f:FuncId} {fn:Func} {code:Code} {args:List Va} {X:List Ob} {Post:Va->List Ob->Prop} (m n:Nat) (rs:List ResultVar) (hf:P.funcs[f]?=some fn) (h:∀B,Wp P (kinds X) n B code (qc P rs m (kinds X) Post) (ip 0 args) X) (hb:fn.body=some code:=by rfl) (hnm:(fn.name == "runtime.NumGoroutine")=false:=by decide) (hn:fn.ntmps=n:=by rfl) (hrs:fn.results.toList=rs:=by rfl) (hl:args.length<=n:=by exact Nat.le_of_ble_eq_true rfl):Does P f args X Post:=dV m n rs hf hb hnm hn hrs hl h
theorem s6{p:Prop}(h:p:=by first|(simp only[go_sem,simprocAttr,hA];exact Is.mk)|(simp only[go_sem,simprocAttr,hA,lm,map_append,fl,zE,fv,eD,zf,zc,zK,zb,za];exact Is.mk)|(simp only[go_sem,simprocAttr,hA])):p:=h
theorem wF{p:Prop}(h:p:=by first|exact fT|exact eS):p:=h
theorem wR{p:Prop}(h:p:=by(refine Wp.ret ?_;refine ng ?_;cases hm;first|exact wF|(simp only[go_sem,simprocAttr,hA] <;> exact gE))):p:=h
theorem q6{P:Program}{kl:List Bool}{n:Nat}{B:Bs}{Q:Qt}{E E':eC}{H H':List Ob}{id:Nat}{l:List Oper}{y:Code}(h:Wp P kl n B y Q E' H')(h1:∀K:eC->List Ob->Prop,K E' H'->fO P kl n B l.toArray K (fB P kl n l l ⟨E,H,True⟩):=by(intro K hK;simp only[go_sem,simprocAttr,hA];first|exact hK|exact⟨sL,hK⟩)):Wp P kl n B (.seq (.region id l.toArray false) y) Q E H:=dh fun K hK=>h1 K (hK _ _ h)
theorem r6{P:Program}{kl:List Bool}{n:Nat}{B:Bs}{Q:Qt}{E E':eC}{H H':List Ob}{id:Nat}{l:List Oper}(h:Q .normal E' H')(h1:∀K:eC->List Ob->Prop,K E' H'->fO P kl n B l.toArray K (fB P kl n l l ⟨E,H,True⟩):=by(intro K hK;simp only[go_sem,simprocAttr,hA];first|exact hK|exact⟨sL,hK⟩)):Wp P kl n B (.region id l.toArray false) Q E H:=Wp.region fun K hK=>h1 K (hK _ _ h)
theorem wQ{p:Prop}(h:p:=by(refine q6 ?_;exact wR)):p:=h
theorem rS{P:Program}{kl:List Bool}{n:Nat}{B:Bs}{Q:Qt}{E:eC}{H:List Ob}{id:Nat}{l:List Oper}{y:Code}{g:(eC->List Ob->Prop)->Prop}(h:∀K:eC->List Ob->Prop,(∀E H,Wp P kl n B y Q E H->K E H)->g K)(e:∀K,g K->fO P kl n B l.toArray K (fB P kl n l l ⟨E,H,True⟩):=by(intro K;(intro q;simp only[go_sem,simprocAttr,hA];first|exact⟨sL,q⟩|exact q))):Wp P kl n B (.seq (.region id l.toArray false) y) Q E H:=dh fun K hK=>e K (h K hK)
theorem rE{P:Program}{kl:List Bool}{n:Nat}{B:Bs}{Q:Qt}{E:eC}{H:List Ob}{id:Nat}{l:List Oper}{g:(eC->List Ob->Prop)->Prop}(h:∀K:eC->List Ob->Prop,(∀E H,Q .normal E H->K E H)->g K)(e:∀K,g K->fO P kl n B l.toArray K (fB P kl n l l ⟨E,H,True⟩):=by(intro K;(intro q;simp only[go_sem,simprocAttr,hA];first|exact⟨sL,q⟩|exact q))):Wp P kl n B (.region id l.toArray false) Q E H:=Wp.region fun K hK=>e K (h K hK)
theorem dS{P:Program}{kl:List Bool}{n:Nat}{B:Bs}{Q:Qt}{E:eC}{H:List Ob}{id:Nat}{os:List Oper}{y:Code}(plan:Plan){g:(eC->List Ob->Prop)->Prop}(h:∀K:eC->List Ob->Prop,(∀E H,Wp P kl n B y Q E H->K E H)->g K)(e:∀K,g K->mz P kl n B os.toArray K (hJ P kl n os plan ⟨[],E,H,True⟩):=by(intro K;(intro q;simp only[go_sem,simprocAttr,hA];first|exact⟨sL,q⟩|exact q)))(hm:P.follows .mixedOrders=true:=by kernel_rfl)(hl:plan.length=os.length:=by rfl)(hp:jA os.toArray plan [] (Array.replicate os.length false)=true:=by kernel_rfl):Wp P kl n B (.seq (.region id os.toArray true) y) Q E H:=dn plan hm hl hp fun K hK=>e K (h K hK)
theorem dE{P:Program}{kl:List Bool}{n:Nat}{B:Bs}{Q:Qt}{E:eC}{H:List Ob}{id:Nat}{os:List Oper}(plan:Plan){g:(eC->List Ob->Prop)->Prop}(h:∀K:eC->List Ob->Prop,(∀E H,Q .normal E H->K E H)->g K)(e:∀K,g K->mz P kl n B os.toArray K (hJ P kl n os plan ⟨[],E,H,True⟩):=by(intro K;(intro q;simp only[go_sem,simprocAttr,hA];first|exact⟨sL,q⟩|exact q)))(hm:P.follows .mixedOrders=true:=by kernel_rfl)(hl:plan.length=os.length:=by rfl)(hp:jA os.toArray plan [] (Array.replicate os.length false)=true:=by kernel_rfl):Wp P kl n B (.region id os.toArray true) Q E H:=dD plan hm hl hp fun K hK=>e K (h K hK)
theorem cX{P:Program}{kl:List Bool}{n:Nat}{B:Bs}{K:eC->List Ob->Prop}{E:eC}{H:List Ob}{ops:Array Oper}{o:Oper}{l:List Oper}{f:FuncId}{av args:List Va}{g:Bool}{v:Va}{q:Prop}(hs:g=true->Does P f args [] fun r X=>r=v/\X=[])(hq:q)(ha:Is (ig E o) (some (f,av)):=by exact s6)(hb:Is (iU ops.toList E o) (some g):=by exact s6)(hp:Is (jO H av) (some args):=by exact s6)(hok:iT n g E o:=by exact s6)(hf:Is v.flat true:=by exact s6)(e:q->fO P kl n B ops K (fB P kl n ops.toList l ⟨eU E o.dst (iI o.guard g v),H,True⟩):=by(intro q;simp only[go_sem,simprocAttr,hA];first|exact⟨sL,q⟩|exact q)):Rg P kl n B ops (o::l) E H K:=dA hs ha hb hp hok hf fun _=>e hq
theorem cF{P:Program}{kl:List Bool}{n:Nat}{B:Bs}{K:eC->List Ob->Prop}{E:eC}{H:List Ob}{ops:Array Oper}{o:Oper}{l:List Oper}{f:FuncId}{av args:List Va}{v:Va}{q:Prop}(hs:Does P f args [] fun r X=>r=v/\X=[])(hq:q)(ha:Is (Be E o) (some (f,av)):=by exact s6)(hp:Is (uJ av) (some args):=by exact s6)(hok:iT n true E o:=by exact s6)(e:q->fO P kl n B ops K (fB P kl n ops.toList l ⟨eU E o.dst v,H,True⟩):=by(intro q;simp only[go_sem,simprocAttr,hA];first|exact⟨sL,q⟩|exact q)):Rg P kl n B ops (o::l) E H K:=Rg.callF hs ha hp hok fun _=>e hq
theorem cO{P:Program}{kl:List Bool}{n:Nat}{B:Bs}{K:eC->List Ob->Prop}{E:eC}{H:List Ob}{ops:Array Oper}{o:Oper}{l:List Oper}{f:FuncId}{av args:List Va}{X Y:List Ob}{v:Va}{q:Prop}(ids:List Nat)(hs:Does P f args X fun r Z=>r=v/\Z=Y)(hq:q)(ha:Is (Be E o) (some (f,av)):=by exact s6)(hp:Is (lc ids av) (some args):=by exact s6)(hX:Is (jW ids H ids) (some X):=by exact s6)(hi:lf H.length ids=true:=by exact s6)(hok:iT n true E o:=by exact s6)(e:q->fO P kl n B ops K (fB P kl n ops.toList l ⟨eU (jP (gD ids H) E) o.dst (fi ids H.length v),fE (ix (gD ids H) H) ids (hO ids H.length Y),True⟩):=by(intro q;simp only[go_sem,simprocAttr,hA];first|exact⟨sL,q⟩|exact q)):Rg P kl n B ops (o::l) E H K:=ek ids hs ha hp hX hi hok fun _ _ h _=>by obtain⟨rfl,rfl⟩:=h;exact e hq
theorem cQ{P:Program}{kl:List Bool}{n:Nat}{B:Bs}{K:eC->List Ob->Prop}{E:eC}{H:List Ob}{ops:Array Oper}{o:Oper}{l:List Oper}{f:FuncId}{av args:List Va}{X:List Ob}{g:Bool}{v:Va}{q:Prop}(ids:List Nat)(hs:g=true->Does P f args X fun r Z=>r=v/\Z=X)(hq:q)(ha:Is (ig E o) (some (f,av)):=by exact s6)(hb:Is (iU ops.toList E o) (some g):=by exact s6)(hp:Is (lc ids av) (some args):=by exact s6)(hX:Is (jW ids H ids) (some X):=by exact s6)(hi:lf H.length ids=true:=by exact s6)(hk:uN H ids=true:=by exact s6)(hok:iT n g E o:=by exact s6)(e:q->fO P kl n B ops K (fB P kl n ops.toList l ⟨eU E o.dst (iI o.guard g (fi ids H.length v)),H,True⟩):=by(intro q;simp only[go_sem,simprocAttr,hA];first|exact⟨sL,q⟩|exact q)):Rg P kl n B ops (o::l) E H K:=Rg.callR ids hs ha hb hp hX hi hk hok (e hq)
theorem cD{P:Program}{kl:List Bool}{n:Nat}{B:Bs}{ops:List Oper}{K:eC->List Ob->Prop}{l:Plan}{obs:List En}{E:eC}{H:List Ob}{k:Nat}{f:FuncId}{av args:List Va}{g:Bool}{o:Oper}{v:Va}{q:Prop}(hs:g=true->Does P f args [] fun r X=>r=v/\X=[])(hq:q)(hk:Is ops[k]? (some o):=by exact s6)(ha:Is (ig E o) (some (f,av)):=by exact s6)(hg:Is (iU ops E o) (some g):=by exact s6)(hp:Is (jO H av) (some args):=by exact s6)(hok:iT n g E o:=by exact s6)(hf:Is v.flat true:=by exact s6)(e:q->mz P kl n B ops.toArray K (hJ P kl n ops l ⟨⟨k,E,iI o.guard g v,qe ops o E (iI o.guard g v) av args⟩::obs,eU E o.dst (iI o.guard g v),H,True⟩):=by(intro q;simp only[go_sem,simprocAttr,hA];first|exact⟨sL,q⟩|exact q)):Dr P kl n B ops.toArray (.rd k l) obs E H K:=Dr.callF hs hk ha hg hp hok hf (e hq)
theorem cE{P:Program}{kl:List Bool}{n:Nat}{B:Bs}{ops:List Oper}{K:eC->List Ob->Prop}{l:Plan}{obs:List En}{E:eC}{H:List Ob}{k:Nat}{L:List Nat}{f:FuncId}{av args:List Va}{X Y:List Ob}{o:Oper}{v:Va}{q:Prop}(ids:List Nat)(hs:Does P f args X fun r Z=>r=v/\Z=Y)(hq:q)(hk:Is ops[k]? (some o):=by exact s6)(hg:Is o.guard none:=by exact s6)(ha:Is (ig E o) (some (f,av)):=by exact s6)(hp:Is (lc ids av) (some args):=by exact s6)(hX:Is (jW ids H ids) (some X):=by exact s6)(hi:lf H.length ids=true:=by exact s6)(hkp:uN H ids=true:=by exact s6)(hok:iT n true E o:=by exact s6)(hag:ur L none (fE H ids (hO ids H.length Y)) obs:=by exact s6)(e:q->mz P kl n B ops.toArray K (hJ P kl n ops l ⟨obs,eU E o.dst (fi ids H.length v),fE H ids (hO ids H.length Y),True⟩):=by(intro q;simp only[go_sem,simprocAttr,hA];first|exact⟨sL,q⟩|exact q)):Dr P kl n B ops.toArray (.ef k L l) obs E H K:=dj (eu ids hs hk hg ha hp hX hi hkp hok hag (e hq))
theorem cN{P:Program}{kl:List Bool}{n:Nat}{B:Bs}{Q:Qt}{E:eC}{H:List Ob}{c:Operand}{x y:Code}{b c':Bool}{Z:Type}{z:Z}{u v:Option Z}(hm:(bif c' then u else v)=some z)(ht:u=some z->Wp P kl n B x Q E H)(hf:v=some z->Wp P kl n B y Q E H)(hc:eY E c=.p (.b b):=by exact rfl)(hk:ul c:=by exact⟨⟩)(h1:b=true->c'=true:=by first|exact fun h=>h|(intro h;simpa using h))(h2:b=false->c'=false:=by first|exact fun h=>h|(intro h;simpa using h)):Wp P kl n B (.cond c x y) Q E H:=cM hm (fun _=>ht) (fun _=>hf) hc hk h1 h2
theorem cR{P:Program}{kl:List Bool}{n:Nat}{B:Bs}{Q:Qt}{E:eC}{H:List Ob}{c:Operand}{x y:Code}{b c':Bool}{Z:Type}{z:Z}{u v:Option Z}(hm:(bif c' then u else v)=some z)(hf:v=some z->Wp P kl n B y Q E H)(ht:u=some z->Wp P kl n B x Q E H:=by(intro hm;first|exact wR|exact wQ))(hc:eY E c=.p (.b b):=by exact rfl)(hk:ul c:=by exact⟨⟩)(h1:b=true->c'=true:=by first|exact fun h=>h|(intro h;simpa using h))(h2:b=false->c'=false:=by first|exact fun h=>h|(intro h;simpa using h)):Wp P kl n B (.cond c x y) Q E H:=cM hm (fun _=>ht) (fun _=>hf) hc hk h1 h2
theorem cT{P:Program}{kl:List Bool}{n:Nat}{B:Bs}{Q:Qt}{E:eC}{H:List Ob}{c:Operand}{x y:Code}{b c':Bool}{Z:Type}{z:Z}{u v:Option Z}(hm:(bif c' then u else v)=some z)(ht:u=some z->Wp P kl n B x Q E H)(hf:v=some z->Wp P kl n B y Q E H:=by(intro hm;first|exact wR|exact wQ))(hc:eY E c=.p (.b b):=by exact rfl)(hk:ul c:=by exact⟨⟩)(h1:b=true->c'=true:=by first|exact fun h=>h|(intro h;simpa using h))(h2:b=false->c'=false:=by first|exact fun h=>h|(intro h;simpa using h)):Wp P kl n B (.cond c x y) Q E H:=cM hm (fun _=>ht) (fun _=>hf) hc hk h1 h2
theorem fL{P:Program}{kl:List Bool}{n:Nat}{B:Bs}{Q:Qt}{E:eC}{H:List Ob}{c:Code}(k m:Nat)(h:m<=274877906944->Wp P kl n B c Q E H)(e:(fa E k).ok->m<=274877906944:=by(intro q;simp only[go_sem,simprocAttr,length_map]at q;omega)):Wp P kl n B c Q E H:=dY k fun q=>h (e q)
theorem rm{i n:Nat}{p:Prop}(h:p)(e:p->decide ((i:Int)<(n:Int))=true:=by first|exact fun h=>h|(intro h;simpa using h)):i<n:=qo (e h)
theorem uA{i n:Nat}{p:Prop}(h:p)(e:p->decide ((i:Int)<(n:Int))=false:=by first|exact fun h=>h|(intro h;simpa using h)):¬i<n:=jh (e h)
theorem wN{S:Type}{a:Prop}{b c:S->Prop}(s:S)(h1:a)(h2:b s)(h3:c s:=by(first|(simp only[go_sem,simprocAttr,hA];done)|(simp only[go_sem,simprocAttr,hA];exact gE)|exact wF)):∃s,a/\b s/\c s:=⟨s,h1,h2,h3⟩
theorem nA{g:Prop}(h:True->g):g:=h trivial
theorem sX{P:Program}{kl:List Bool}{n:Nat}{B:Bs}{Q:Qt}{E E':eC}{H H':List Ob}{id:Nat}{l:List Oper}{y:Code}{g:Bool}{f:FuncId}{args:List Va}{v:Va}(hs:g=true->Does P f args [] fun r X=>r=v/\X=[])(hq:Wp P kl n B y Q E' H')(e:∀K:eC->List Ob->Prop,K E' H'->(g=true->Does P f args [] fun r X=>r=v/\X=[])->fO P kl n B l.toArray K (fB P kl n l l ⟨E,H,True⟩):=by(intro K hK hs;simp only[go_sem,simprocAttr,hA];first|exact cX hs hK|exact⟨sL,cX hs hK⟩)):Wp P kl n B (.seq (.region id l.toArray false) y) Q E H:=dh fun K hK=>e K (hK _ _ hq) hs
theorem eX{P:Program}{kl:List Bool}{n:Nat}{B:Bs}{Q:Qt}{E E':eC}{H H':List Ob}{id:Nat}{l:List Oper}{g:Bool}{f:FuncId}{args:List Va}{v:Va}(hs:g=true->Does P f args [] fun r X=>r=v/\X=[])(hq:Q .normal E' H')(e:∀K:eC->List Ob->Prop,K E' H'->(g=true->Does P f args [] fun r X=>r=v/\X=[])->fO P kl n B l.toArray K (fB P kl n l l ⟨E,H,True⟩):=by(intro K hK hs;simp only[go_sem,simprocAttr,hA];first|exact cX hs hK|exact⟨sL,cX hs hK⟩)):Wp P kl n B (.region id l.toArray false) Q E H:=Wp.region fun K hK=>e K (hK _ _ hq) hs
theorem sF{P:Program}{kl:List Bool}{n:Nat}{B:Bs}{Q:Qt}{E E':eC}{H H':List Ob}{id:Nat}{l:List Oper}{y:Code}{f:FuncId}{args:List Va}{v:Va}(hs:Does P f args [] fun r X=>r=v/\X=[])(hq:Wp P kl n B y Q E' H')(e:∀K:eC->List Ob->Prop,K E' H'->(Does P f args [] fun r X=>r=v/\X=[])->fO P kl n B l.toArray K (fB P kl n l l ⟨E,H,True⟩):=by(intro K hK hs;simp only[go_sem,simprocAttr,hA];first|exact cF hs hK|exact⟨sL,cF hs hK⟩)):Wp P kl n B (.seq (.region id l.toArray false) y) Q E H:=dh fun K hK=>e K (hK _ _ hq) hs
theorem eF{P:Program}{kl:List Bool}{n:Nat}{B:Bs}{Q:Qt}{E E':eC}{H H':List Ob}{id:Nat}{l:List Oper}{f:FuncId}{args:List Va}{v:Va}(hs:Does P f args [] fun r X=>r=v/\X=[])(hq:Q .normal E' H')(e:∀K:eC->List Ob->Prop,K E' H'->(Does P f args [] fun r X=>r=v/\X=[])->fO P kl n B l.toArray K (fB P kl n l l ⟨E,H,True⟩):=by(intro K hK hs;simp only[go_sem,simprocAttr,hA];first|exact cF hs hK|exact⟨sL,cF hs hK⟩)):Wp P kl n B (.region id l.toArray false) Q E H:=Wp.region fun K hK=>e K (hK _ _ hq) hs
def Tg(ids:List Nat)(p:Prop):Prop:=p
theorem pT{ids:List Nat}{a b:Prop}(ha:a)(hb:Tg ids b):Tg ids (a/\b):=⟨ha,hb⟩
theorem oT{P:Program}{kl:List Bool}{n:Nat}{B:Bs}{K:eC->List Ob->Prop}{E:eC}{H:List Ob}{ops:Array Oper}{o:Oper}{l:List Oper}{f:FuncId}{av args:List Va}{X Y:List Ob}{v:Va}{q:Prop}{ids:List Nat}(hs:Does P f args X fun r Z=>r=v/\Z=Y)(hq:q)(ha:Is (Be E o) (some (f,av)):=by exact s6)(hp:Is (lc ids av) (some args):=by exact s6)(hX:Is (jW ids H ids) (some X):=by exact s6)(hi:lf H.length ids=true:=by exact s6)(hok:iT n true E o:=by exact s6)(e:q->fO P kl n B ops K (fB P kl n ops.toList l ⟨eU (jP (gD ids H) E) o.dst (fi ids H.length v),fE (ix (gD ids H) H) ids (hO ids H.length Y),True⟩):=by(intro q;simp only[go_sem,simprocAttr,hA];first|exact⟨sL,q⟩|exact q)):Tg ids (Rg P kl n B ops (o::l) E H K):=cO ids hs hq ha hp hX hi hok e
theorem qT{P:Program}{kl:List Bool}{n:Nat}{B:Bs}{K:eC->List Ob->Prop}{E:eC}{H:List Ob}{ops:Array Oper}{o:Oper}{l:List Oper}{f:FuncId}{av args:List Va}{X:List Ob}{g:Bool}{v:Va}{q:Prop}{ids:List Nat}(hs:g=true->Does P f args X fun r Z=>r=v/\Z=X)(hq:q)(ha:Is (ig E o) (some (f,av)):=by exact s6)(hb:Is (iU ops.toList E o) (some g):=by exact s6)(hp:Is (lc ids av) (some args):=by exact s6)(hX:Is (jW ids H ids) (some X):=by exact s6)(hi:lf H.length ids=true:=by exact s6)(hk:uN H ids=true:=by exact s6)(hok:iT n g E o:=by exact s6)(e:q->fO P kl n B ops K (fB P kl n ops.toList l ⟨eU E o.dst (iI o.guard g (fi ids H.length v)),H,True⟩):=by(intro q;simp only[go_sem,simprocAttr,hA];first|exact⟨sL,q⟩|exact q)):Tg ids (Rg P kl n B ops (o::l) E H K):=cQ ids hs hq ha hb hp hX hi hk hok e
theorem sO{P:Program}{kl:List Bool}{n:Nat}{B:Bs}{Q:Qt}{E E':eC}{H H':List Ob}{id:Nat}{l:List Oper}{y:Code}(ids:List Nat){f:FuncId}{args:List Va}{v:Va}{X Y:List Ob}(hs:Does P f args X fun r Z=>r=v/\Z=Y)(hq:Wp P kl n B y Q E' H')(e:∀K:eC->List Ob->Prop,K E' H'->(Does P f args X fun r Z=>r=v/\Z=Y)->Tg ids (fO P kl n B l.toArray K (fB P kl n l l ⟨E,H,True⟩)):=by(intro K hK hs;simp only[go_sem,simprocAttr,hA];first|exact oT hs hK|exact pT sL (oT hs hK))):Wp P kl n B (.seq (.region id l.toArray false) y) Q E H:=dh fun K hK=>e K (hK _ _ hq) hs
theorem eO{P:Program}{kl:List Bool}{n:Nat}{B:Bs}{Q:Qt}{E E':eC}{H H':List Ob}{id:Nat}{l:List Oper}(ids:List Nat){f:FuncId}{args:List Va}{v:Va}{X Y:List Ob}(hs:Does P f args X fun r Z=>r=v/\Z=Y)(hq:Q .normal E' H')(e:∀K:eC->List Ob->Prop,K E' H'->(Does P f args X fun r Z=>r=v/\Z=Y)->Tg ids (fO P kl n B l.toArray K (fB P kl n l l ⟨E,H,True⟩)):=by(intro K hK hs;simp only[go_sem,simprocAttr,hA];first|exact oT hs hK|exact pT sL (oT hs hK))):Wp P kl n B (.region id l.toArray false) Q E H:=Wp.region fun K hK=>e K (hK _ _ hq) hs
theorem sQ{P:Program}{kl:List Bool}{n:Nat}{B:Bs}{Q:Qt}{E E':eC}{H H':List Ob}{id:Nat}{l:List Oper}{y:Code}(ids:List Nat){g:Bool}{f:FuncId}{args:List Va}{v:Va}{X:List Ob}(hs:g=true->Does P f args X fun r Z=>r=v/\Z=X)(hq:Wp P kl n B y Q E' H')(e:∀K:eC->List Ob->Prop,K E' H'->(g=true->Does P f args X fun r Z=>r=v/\Z=X)->Tg ids (fO P kl n B l.toArray K (fB P kl n l l ⟨E,H,True⟩)):=by(intro K hK hs;simp only[go_sem,simprocAttr,hA];first|exact qT hs hK|exact pT sL (qT hs hK))):Wp P kl n B (.seq (.region id l.toArray false) y) Q E H:=dh fun K hK=>e K (hK _ _ hq) hs
theorem eQ{P:Program}{kl:List Bool}{n:Nat}{B:Bs}{Q:Qt}{E E':eC}{H H':List Ob}{id:Nat}{l:List Oper}(ids:List Nat){g:Bool}{f:FuncId}{args:List Va}{v:Va}{X:List Ob}(hs:g=true->Does P f args X fun r Z=>r=v/\Z=X)(hq:Q .normal E' H')(e:∀K:eC->List Ob->Prop,K E' H'->(g=true->Does P f args X fun r Z=>r=v/\Z=X)->Tg ids (fO P kl n B l.toArray K (fB P kl n l l ⟨E,H,True⟩)):=by(intro K hK hs;simp only[go_sem,simprocAttr,hA];first|exact qT hs hK|exact pT sL (qT hs hK))):Wp P kl n B (.region id l.toArray false) Q E H:=Wp.region fun K hK=>e K (hK _ _ hq) hs
theorem lB{P:Program}{kl:List Bool}{n:Nat}{B:Bs}{Q:Qt}{E:eC}{H:List Ob}{Z S α:Type}{z:Z}{f:Nat->α->S->(S->Option Z)->(S->Option Z)->Option Z}{k:S->Option Z}{l:List α}{i:Nat}{s:S}{c:Operand}{b:Bool}{j id:Nat}{x y:Code}(e:α->List Dt)(hm:Vc.forL (l.drop i) i f s k=some z)(hn:l.length<=274877906944)(hx:k s=some z->Q (.exit j) E H)(h:i<l.length->IntKind.i64.wrap ((i:Int)+1)=((i+1:Nat):Int)->∀a nx,(∀d,(l.map e).getD i d=e a)->(∀d,l.getD i d=a)->(∀s',nx s'=some z->Vc.forL (l.drop (i+1)) (i+1) f s' k=some z)->f i a s nx k=some z->(IntKind.i64.wrap ((i:Int)+1)=((i+1:Nat):Int)/\∀d,(l.map e).getD i d=e a)->∀K:eC->List Ob->Prop,(∀E H,Wp P kl n B y Q E H->K E H)->Wp P kl n B x (zq id (zy K Q)) E H)(hc:eY E c=.p (.b b):=by exact rfl)(hk:ul c:=by exact⟨⟩)(h1:b=true->decide ((i:Int)<(l.length:Int))=true:=by first|exact fun h=>h|(intro h;simpa using h))(h2:b=false->decide ((i:Int)<(l.length:Int))=false:=by first|exact fun h=>h|(intro h;simpa using h)):Wp P kl n B (.seq (.cond c .skip (.exit j)) (.seq (.block id x) y)) Q E H:=by
 refine df fun K1 hK1 _=>Wp.cond hc hk (fun hb=>?_) fun hb=>Wp.exit (hx (pw hm (jh (h2 hb))))
 have hlt:=qo (h1 hb);have hw:=pz hlt hn;obtain⟨a,nx,hxa,hya,hnx,hm⟩:=py hm hlt;exact Wp.skip (hK1 _ _ (df fun K hK _=>Wp.block (h hlt hw a nx (hxa e) hya hnx hm ⟨hw,hxa e⟩ K hK)))
theorem lS{P:Program}{kl:List Bool}{n:Nat}{B:Bs}{Q:Qt}{E:eC}{H:List Ob}{Z S α:Type}{z:Z}{f:Nat->α->S->(S->Option Z)->(S->Option Z)->Option Z}{k:S->Option Z}{l:List α}{i:Nat}{s:S}{c:Operand}{b:Bool}{j id:Nat}{x y:Code}(hm:Vc.forL (l.drop i) i f s k=some z)(hn:l.length<=274877906944)(hx:k s=some z->Q (.exit j) E H)(h:i<l.length->IntKind.i64.wrap ((i:Int)+1)=((i+1:Nat):Int)->∀a nx,(∀d,l.getD i d=a)->(∀s',nx s'=some z->Vc.forL (l.drop (i+1)) (i+1) f s' k=some z)->f i a s nx k=some z->(IntKind.i64.wrap ((i:Int)+1)=((i+1:Nat):Int)/\∀d,l.getD i d=a)->∀K:eC->List Ob->Prop,(∀E H,Wp P kl n B y Q E H->K E H)->Wp P kl n B x (zq id (zy K Q)) E H)(hc:eY E c=.p (.b b):=by exact rfl)(hk:ul c:=by exact⟨⟩)(h1:b=true->decide ((i:Int)<(l.length:Int))=true:=by first|exact fun h=>h|(intro h;simpa using h))(h2:b=false->decide ((i:Int)<(l.length:Int))=false:=by first|exact fun h=>h|(intro h;simpa using h)):Wp P kl n B (.seq (.cond c .skip (.exit j)) (.seq (.block id x) y)) Q E H:=by
 refine df fun K1 hK1 _=>Wp.cond hc hk (fun hb=>?_) fun hb=>Wp.exit (hx (pw hm (jh (h2 hb))))
 have hlt:=qo (h1 hb);have hw:=pz hlt hn;obtain⟨a,nx,hxa,hya,hnx,hm⟩:=py hm hlt;exact Wp.skip (hK1 _ _ (df fun K hK _=>Wp.block (h hlt hw a nx hya hnx hm ⟨hw,hya⟩ K hK)))
end Go.Proofs.YtkojogldchfkkaaGreatDoor
