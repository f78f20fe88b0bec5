/- Facts that the walks use. -/
import Derived.Test.YtpcihjdidhpbbaaGreatDoorKpMd
import Derived.Test.YtpcihjdidhpbbaaGreatDoorKpTy
import Derived.Test.YtpcihjdidhpbbaaGreatDoorKpWq
import Derived.Test.YtpcihjdidhpbbaaGreatDoorSo
import Derived.Test.YtpcihjdidhpbbaaGreatDoorSh
set_option linter.unusedSimpArgs false
set_option linter.unusedVariables false
open Go.Proofs Go.Shelf
open List
namespace Go.Proofs.YtpcihjdidhpbbaaGreatDoor
open Tryz
open Go.Vc Go.Md
abbrev lm{α:Type}(e:α->List Dt)(x:List α):Va:=.p (.l (List.map e x))
abbrev pI(n:Int):Va:=.p (.i .i64 n)
abbrev pS(s:ev):Va:=.p (.s s)
abbrev pB(b:Bool):Va:=.p (.b b)
def rO:Go.Shelf.Ren:=⟨fun|165=>49|240=>99|241=>109|276=>139|277=>144|n=>n,fun|0=>0|3=>3|4=>4|5=>5|9=>9|20=>20|37=>80|70=>79|72=>82|164=>193|n=>n,fun n=>n⟩
theorem AP:Lays.n165 prog rO:={
  mixed:=by kernel_rfl
  f165:=func49.trans (congrArg some (by kernel_rfl))
  f240:=func99.trans (congrArg some (by kernel_rfl))
  f241:=func109.trans (congrArg some (by kernel_rfl))
  f276:=func139.trans (congrArg some (by kernel_rfl))
  f277:=func144.trans (congrArg some (by kernel_rfl))
  t0:=Tryz.underlying0
  a0:=Tryz.isAgg0
  z0:=Tryz.sizeOf0
  v0:=Tryz.zeroValue0
  t3:=Tryz.underlying3
  a3:=Tryz.isAgg3
  z3:=Tryz.sizeOf3
  v3:=Tryz.zeroValue3
  t4:=Tryz.underlying4
  a4:=Tryz.isAgg4
  z4:=Tryz.sizeOf4
  v4:=Tryz.zeroValue4
  t9:=Tryz.underlying9
  a9:=Tryz.isAgg9
  z9:=Tryz.sizeOf9
  v9:=Tryz.zeroValue9
  t20:=Tryz.underlying20
  a20:=Tryz.isAgg20
  z20:=Tryz.sizeOf20
  v20:=Tryz.zeroValue20
  t37:=Tryz.underlying80
  a37:=Tryz.isAgg80
  z37:=Tryz.sizeOf80
  v37:=Tryz.zeroValue80
  t70:=Tryz.underlying79
  a70:=Tryz.isAgg79
  z70:=Tryz.sizeOf79
  v70:=Tryz.zeroValue79
  t72:=Tryz.underlying82
  a72:=Tryz.isAgg82
  z72:=Tryz.sizeOf82
  v72:=Tryz.zeroValue82
  t164:=Tryz.underlying193
  a164:=Tryz.isAgg193
  z164:=Tryz.sizeOf193
  v164:=Tryz.zeroValue193 }
theorem AQ:Builder.Extra prog rO:={
  t5:=Tryz.underlying5
  a5:=Tryz.isAgg5
  z5:=Tryz.sizeOf5
  v5:=Tryz.zeroValue5
  sizeBuilder:=by kernel_rfl
  liesBuilder:=by kernel_rfl
  infoByte:=by kernel_rfl
  cellsByte:=by kernel_rfl
  sizeByte:=by kernel_rfl
  neB5:=by decide }
theorem TU:LP prog 193 79 82 2=true:=by kernel_rfl
attribute [go_sem] TU
theorem TV:LP prog 79 193 82 2=true:=by kernel_rfl
attribute [go_sem] TV
theorem Ak:NvI prog 139:=NvI.noEscape func139 (by kernel_rfl) (by kernel_rfl) (by kernel_rfl) (by kernel_rfl)
theorem Kh:(prog.info? 82).isSome=true:=by kernel_rfl
attribute [go_sem] Kh
theorem vB:Qs prog 156 5=true:=by kernel_rfl
attribute [go_sem] vB
theorem Ei(s:List UInt8)(c:Int):Nv prog 108 [.p (.s s),.p (.i .u8 c)] (.p (.i .i64 (yv s c))):=Nv.countByte func108 (by kernel_rfl) (by kernel_rfl) (by kernel_rfl) (by kernel_rfl) s c
theorem Eh(s:List UInt8)(c:List UInt8):Nv prog 133 [.p (.s s),.p (.s c)] (.p (.i .i64 (fb s c))):=Nv.compare func133 (by kernel_rfl) (by kernel_rfl) (by kernel_rfl) (by kernel_rfl) s c
theorem Eg(s:List UInt8)(c:Int):Nv prog 174 [.p (.s s),.p (.i .u8 c)] (.p (.i .i64 (xV s c))):=Nv.indexByte func174 (by kernel_rfl) (by kernel_rfl) (by kernel_rfl) (by kernel_rfl) s c
theorem sg{p:Prop}(h:p:=by simp only[go_sem,simprocAttr]):p:=h
theorem si{p:Prop}(h:p:=by first|(simp only[go_sem,simprocAttr];exact Is.mk)|(simp only[go_sem,simprocAttr,lm,map_append,zl,fP,zA,eU,ex,zi,ze,zc,zj,zC,zs,zy,zb,za,zk,zn];exact Is.mk)):p:=h
theorem qS{P:Program}{a:List Bool}{n:Nat}{B:Bs}{Q:Qt}{E b:ey}{H c:List Ob}{id:Nat}{l:List Oper}{y:Code}(h:Wp P a n B y Q b c)(d:∀K:ey->List Ob->Prop,K b c->fz P a n B l.toArray K (fv P a n l l ⟨E,H,True⟩):=by(intro K hK;simp only[go_sem,simprocAttr];first|exact hK|exact⟨sd,hK⟩)):Wp P a n B (.seq (.region id l.toArray false) y) Q E H:=db fun K hK=>d K (hK _ _ h)
theorem qR{P:Program}{a:List Bool}{n:Nat}{B:Bs}{Q:Qt}{E b:ey}{H c:List Ob}{id:Nat}{l:List Oper}(h:Q .normal b c)(d:∀K:ey->List Ob->Prop,K b c->fz P a n B l.toArray K (fv P a n l l ⟨E,H,True⟩):=by(intro K hK;simp only[go_sem,simprocAttr];first|exact hK|exact⟨sd,hK⟩)):Wp P a n B (.region id l.toArray false) Q E H:=Wp.region fun K hK=>d K (hK _ _ h)
theorem sb{p q:Prop}(a:p)(h:p->q:=by first|exact fun h=>h|(intro h;simpa using h)):q:=h a
theorem VI{p:Prop}(h:p:=by simp[zl,fP,zA,eU,ex,zi,ze,zc,zj,zC,zs,zy,zb,za,zk,zn,map_set,map_replicate]):p:=h
theorem QY{p:Prop}(h:p:=by(simp only[go_sem,simprocAttr] <;> simp[zl,fP,zA,eU,ex,zi,ze,zc,zj,zC,zs,zy,zb,za,zk,zn,map_set,map_replicate])):p:=h
theorem un{p:Prop}(h:p:=by simp[zl,fP,zA,eU,ex,zD,zi,ze,zc,zj,zC,zs,zy,zb,za,zk,zn,map_set,map_replicate]):p:=h
theorem eS{p:Prop}(h:p:=by(simp only[go_sem,simprocAttr] <;> simp[zl,fP,zA,eU,ex,zD,zi,ze,zc,zj,zC,zs,zy,zb,za,zk,zn,map_set,map_replicate])):p:=h
theorem vz{p:Prop}(h:p:=by simp[zl,fP,zA,eU,ex,zD,zi,ze,zc,zj,zC,zs,zy,zm,zP,zb,za,zk,zn,map_set,map_replicate]):p:=h
theorem jD{p:Prop}(h:p:=by(simp only[go_sem,simprocAttr] <;> simp[zl,fP,zA,eU,ex,zD,zi,ze,zc,zj,zC,zs,zy,zm,zP,zb,za,zk,zn,map_set,map_replicate])):p:=h
theorem vy{p:Prop}(h:p:=by simp[zl,fP,zA,eU,ex,zD,zi,ze,zc,zj,zC,zs,zy,zm,zP,zb,za,zk,zR,zn,map_set,map_replicate]):p:=h
theorem fO{p:Prop}(h:p:=by(simp only[go_sem,simprocAttr] <;> simp[zl,fP,zA,eU,ex,zD,zi,ze,zc,zj,zC,zs,zy,zm,zP,zb,za,zk,zR,zn,map_set,map_replicate])):p:=h
theorem eY{p:Prop}(h:p:=by simp[zl,fP,zA,eU,ex,zD,z8,zi,ze,zc,zj,zC,zs,zy,zm,zP,zb,za,zk,zR,zn,map_set,map_replicate]):p:=h
theorem fc{p:Prop}(h:p:=by(simp only[go_sem,simprocAttr] <;> simp[zl,fP,zA,eU,ex,zD,z8,zi,ze,zc,zj,zC,zs,zy,zm,zP,zb,za,zk,zR,zn,map_set,map_replicate])):p:=h
theorem mA{p:Prop}(h:p:=by simp[zl,fP,zA,eU,ex,zD,z8,zi,ze,zc,zj,zC,zs,zy,zm,zP,zb,za,uR,zk,zR,zn,map_set,map_replicate]):p:=h
theorem fV{p:Prop}(h:p:=by(simp only[go_sem,simprocAttr] <;> simp[zl,fP,zA,eU,ex,zD,z8,zi,ze,zc,zj,zC,zs,zy,zm,zP,zb,za,uR,zk,zR,zn,map_set,map_replicate])):p:=h
theorem cM{P:Program}{a:List Bool}{n:Nat}{B:Bs}{Q:Qt}{E:ey}{H:List Ob}{c:Operand}{x y:Code}{b d:Bool}{Z:Type}{z:Z}{u v:Option Z}(w:(bif d then u else v)=some z)(e:b=true->u=some z->Wp P a n B x Q E H)(f:b=false->v=some z->Wp P a n B y Q E H)(g:eN E c=.p (.b b):=by exact rfl)(i:ub c:=by exact⟨⟩)(j:b=true->d=true:=by first|exact fun h=>h|(intro h;simpa using h))(k:b=false->d=false:=by first|exact fun h=>h|(intro h;simpa using h)):Wp P a n B (.cond c x y) Q E H:=Wp.cond g i (fun h=>e h (Of w (j h))) (fun h=>f h (Og w (k h)))
theorem sL{p:Prop}(h:p:=by first|exact sd|((repeat' apply And.intro) <;> first|assumption|omega|(simp only[length_append,length_map,length_cons,length_nil,length_set,length_replicate]at *;omega))):p:=h
theorem kA{W K:ey->List Ob->Prop}{E:ey}{H:List Ob}{g:Prop}(hK:∀E H,W E H->K E H)(h:W E H)(e:K E H->g:=by first|exact fun h=>h|exact fun h=>⟨sL,h⟩):g:=e (hK _ _ h)
theorem dW {P:Program} {f:FuncId} {b:Func} {code:Code} {a:List Va} {X:List Ob} {Post:Va->List Ob->Prop} (m n:Nat) (rs:List ResultVar) (e:P.funcs[f]?=some b) (h:∀B,Wp P (kinds X) n B code (s3 P rs m (kinds X) Post) (hU 0 a) X) (g:b.body=some code:=by rfl) (c:(b.name == "runtime.NumGoroutine")=false:=by decide) (i:b.ntmps=n:=by rfl) (d:b.results.toList=rs:=by rfl) (j:a.length<=n:=by exact Nat.le_of_ble_eq_true rfl):Does P f a X Post:=dn m n rs e g c i d j h
theorem s6{p:Prop}(h:p:=by first|(simp only[go_sem,simprocAttr,A];exact Is.mk)|(simp only[go_sem,simprocAttr,A,lm,map_append,zl,fP,zA,eU,ex,zi,ze,zc,zj,zC,zs,zy,zb,za,zk,zn];exact Is.mk)|(simp only[go_sem,simprocAttr,A])):p:=h
theorem wF{p:Prop}(h:p:=by first|exact fV|exact QY):p:=h
theorem wR{p:Prop}(h:p:=by(refine Wp.ret ?_;refine uH ?_;cases w;first|exact wF|(simp only[go_sem,simprocAttr,A] <;> exact mA))):p:=h
theorem q6{P:Program}{a:List Bool}{n:Nat}{B:Bs}{Q:Qt}{E b:ey}{H c:List Ob}{id:Nat}{l:List Oper}{y:Code}(h:Wp P a n B y Q b c)(d:∀K:ey->List Ob->Prop,K b c->fz P a n B l.toArray K (fv P a n l l ⟨E,H,True⟩):=by(intro K hK;simp only[go_sem,simprocAttr,A];first|exact hK|exact⟨sL,hK⟩)):Wp P a n B (.seq (.region id l.toArray false) y) Q E H:=db fun K hK=>d K (hK _ _ h)
theorem r6{P:Program}{a:List Bool}{n:Nat}{B:Bs}{Q:Qt}{E b:ey}{H c:List Ob}{id:Nat}{l:List Oper}(h:Q .normal b c)(d:∀K:ey->List Ob->Prop,K b c->fz P a n B l.toArray K (fv P a n l l ⟨E,H,True⟩):=by(intro K hK;simp only[go_sem,simprocAttr,A];first|exact hK|exact⟨sL,hK⟩)):Wp P a n B (.region id l.toArray false) Q E H:=Wp.region fun K hK=>d K (hK _ _ h)
theorem wQ{p:Prop}(h:p:=by(refine q6 ?_;exact wR)):p:=h
theorem rS{P:Program}{a:List Bool}{n:Nat}{B:Bs}{Q:Qt}{E:ey}{H:List Ob}{id:Nat}{l:List Oper}{y:Code}{g:(ey->List Ob->Prop)->Prop}(h:∀K:ey->List Ob->Prop,(∀E H,Wp P a n B y Q E H->K E H)->g K)(e:∀K,g K->fz P a n B l.toArray K (fv P a n l l ⟨E,H,True⟩):=by(intro K;(intro q;simp only[go_sem,simprocAttr,A];first|exact⟨sL,q⟩|exact q))):Wp P a n B (.seq (.region id l.toArray false) y) Q E H:=db fun K hK=>e K (h K hK)
theorem rE{P:Program}{a:List Bool}{n:Nat}{B:Bs}{Q:Qt}{E:ey}{H:List Ob}{id:Nat}{l:List Oper}{g:(ey->List Ob->Prop)->Prop}(h:∀K:ey->List Ob->Prop,(∀E H,Q .normal E H->K E H)->g K)(e:∀K,g K->fz P a n B l.toArray K (fv P a n l l ⟨E,H,True⟩):=by(intro K;(intro q;simp only[go_sem,simprocAttr,A];first|exact⟨sL,q⟩|exact q))):Wp P a n B (.region id l.toArray false) Q E H:=Wp.region fun K hK=>e K (h K hK)
theorem dS{P:Program}{b:List Bool}{n:Nat}{B:Bs}{Q:Qt}{E:ey}{H:List Ob}{id:Nat}{a:List Oper}{y:Code}(plan:Plan){g:(ey->List Ob->Prop)->Prop}(h:∀K:ey->List Ob->Prop,(∀E H,Wp P b n B y Q E H->K E H)->g K)(e:∀K,g K->kN P b n B a.toArray K (gO P b n a plan ⟨[],E,H,True⟩):=by(intro K;(intro q;simp only[go_sem,simprocAttr,A];first|exact⟨sL,q⟩|exact q)))(w:P.follows .mixedOrders=true:=by kernel_rfl)(c:plan.length=a.length:=by rfl)(d:iJ a.toArray plan [] (Array.replicate a.length false)=true:=by kernel_rfl):Wp P b n B (.seq (.region id a.toArray true) y) Q E H:=dl plan w c d fun K hK=>e K (h K hK)
theorem dE{P:Program}{b:List Bool}{n:Nat}{B:Bs}{Q:Qt}{E:ey}{H:List Ob}{id:Nat}{a:List Oper}(plan:Plan){g:(ey->List Ob->Prop)->Prop}(h:∀K:ey->List Ob->Prop,(∀E H,Q .normal E H->K E H)->g K)(e:∀K,g K->kN P b n B a.toArray K (gO P b n a plan ⟨[],E,H,True⟩):=by(intro K;(intro q;simp only[go_sem,simprocAttr,A];first|exact⟨sL,q⟩|exact q)))(w:P.follows .mixedOrders=true:=by kernel_rfl)(c:plan.length=a.length:=by rfl)(d:iJ a.toArray plan [] (Array.replicate a.length false)=true:=by kernel_rfl):Wp P b n B (.region id a.toArray true) Q E H:=dV plan w c d fun K hK=>e K (h K hK)
theorem cX{P:Program}{c:List Bool}{n:Nat}{B:Bs}{K:ey->List Ob->Prop}{E:ey}{H:List Ob}{a:Array Oper}{o:Oper}{l:List Oper}{f:FuncId}{av b:List Va}{g:Bool}{v:Va}{q:Prop}(hs:g=true->Does P f b [] fun r X=>r=v/\X=[])(h:q)(i:Is (g9 E o) (some (f,av)):=by exact s6)(j:Is (iK a.toList E o) (some g):=by exact s6)(k:Is (js H av) (some b):=by exact s6)(d:ie n g E o:=by exact s6)(m:Is v.flat true:=by exact s6)(e:q->fz P c n B a K (fv P c n a.toList l ⟨eP E o.dst (iA o.guard g v),H,True⟩):=by(intro q;simp only[go_sem,simprocAttr,A];first|exact⟨sL,q⟩|exact q)):Rg P c n B a (o::l) E H K:=dy hs i j k d m fun _=>e h
theorem cF{P:Program}{c:List Bool}{n:Nat}{B:Bs}{K:ey->List Ob->Prop}{E:ey}{H:List Ob}{b:Array Oper}{o:Oper}{l:List Oper}{f:FuncId}{av a:List Va}{v:Va}{q:Prop}(hs:Does P f a [] fun r X=>r=v/\X=[])(g:q)(h:Is (x7 E o) (some (f,av)):=by exact s6)(i:Is (uz av) (some a):=by exact s6)(d:ie n true E o:=by exact s6)(e:q->fz P c n B b K (fv P c n b.toList l ⟨eP E o.dst v,H,True⟩):=by(intro q;simp only[go_sem,simprocAttr,A];first|exact⟨sL,q⟩|exact q)):Rg P c n B b (o::l) E H K:=Rg.callF hs h i d fun _=>e g
theorem cO{P:Program}{d:List Bool}{n:Nat}{B:Bs}{K:ey->List Ob->Prop}{E:ey}{H:List Ob}{c:Array Oper}{o:Oper}{l:List Oper}{f:FuncId}{av b:List Va}{X Y:List Ob}{v:Va}{q:Prop}(a:List Nat)(hs:Does P f b X fun r Z=>r=v/\Z=Y)(i:q)(j:Is (x7 E o) (some (f,av)):=by exact s6)(k:Is (jC a av) (some b):=by exact s6)(m:Is (iI a H a) (some X):=by exact s6)(hi:jc H.length a=true:=by exact s6)(g:ie n true E o:=by exact s6)(e:q->fz P d n B c K (fv P d n c.toList l ⟨eP (fZ (fH a H) E) o.dst (fa a H.length v),fy (fF (fH a H) H) a (gi a H.length Y),True⟩):=by(intro q;simp only[go_sem,simprocAttr,A];first|exact⟨sL,q⟩|exact q)):Rg P d n B c (o::l) E H K:=en a hs j k m hi g fun _ _ h _=>by obtain⟨rfl,rfl⟩:=h;exact e i
theorem cQ{P:Program}{d:List Bool}{n:Nat}{B:Bs}{K:ey->List Ob->Prop}{E:ey}{H:List Ob}{b:Array Oper}{o:Oper}{l:List Oper}{f:FuncId}{i c:List Va}{X:List Ob}{g:Bool}{v:Va}{q:Prop}(a:List Nat)(hs:g=true->Does P f c X fun r Z=>r=v/\Z=X)(j:q)(k:Is (g9 E o) (some (f,i)):=by exact s6)(m:Is (iK b.toList E o) (some g):=by exact s6)(p:Is (jC a i) (some c):=by exact s6)(s:Is (iI a H a) (some X):=by exact s6)(hi:jc H.length a=true:=by exact s6)(t:uF H a=true:=by exact s6)(h:ie n g E o:=by exact s6)(e:q->fz P d n B b K (fv P d n b.toList l ⟨eP E o.dst (iA o.guard g (fa a H.length v)),H,True⟩):=by(intro q;simp only[go_sem,simprocAttr,A];first|exact⟨sL,q⟩|exact q)):Rg P d n B b (o::l) E H K:=Rg.callR a hs k m p s hi t h (e j)
theorem cD{P:Program}{d:List Bool}{n:Nat}{B:Bs}{a:List Oper}{K:ey->List Ob->Prop}{l:Plan}{c:List En}{E:ey}{H:List Ob}{k:Nat}{f:FuncId}{av b:List Va}{g:Bool}{o:Oper}{v:Va}{q:Prop}(hs:g=true->Does P f b [] fun r X=>r=v/\X=[])(i:q)(j:Is a[k]? (some o):=by exact s6)(m:Is (g9 E o) (some (f,av)):=by exact s6)(p:Is (iK a E o) (some g):=by exact s6)(s:Is (js H av) (some b):=by exact s6)(h:ie n g E o:=by exact s6)(t:Is v.flat true:=by exact s6)(e:q->kN P d n B a.toArray K (gO P d n a l ⟨⟨k,E,iA o.guard g v,p5 a o E (iA o.guard g v) av b⟩::c,eP E o.dst (iA o.guard g v),H,True⟩):=by(intro q;simp only[go_sem,simprocAttr,A];first|exact⟨sL,q⟩|exact q)):Dr P d n B a.toArray (.rd k l) c E H K:=Dr.callF hs j m p s h t (e i)
theorem cE{P:Program}{b:List Bool}{n:Nat}{B:Bs}{ops:List Oper}{K:ey->List Ob->Prop}{l:Plan}{obs:List En}{E:ey}{H:List Ob}{k:Nat}{L:List Nat}{f:FuncId}{av a:List Va}{X Y:List Ob}{o:Oper}{v:Va}{q:Prop}(ids:List Nat)(hs:Does P f a X fun r Z=>r=v/\Z=Y)(h:q)(i:Is ops[k]? (some o):=by exact s6)(j:Is o.guard none:=by exact s6)(m:Is (g9 E o) (some (f,av)):=by exact s6)(p:Is (jC ids av) (some a):=by exact s6)(s:Is (iI ids H ids) (some X):=by exact s6)(hi:jc H.length ids=true:=by exact s6)(c:uF H ids=true:=by exact s6)(d:ie n true E o:=by exact s6)(g:ug L none (fy H ids (gi ids H.length Y)) obs:=by exact s6)(e:q->kN P b n B ops.toArray K (gO P b n ops l ⟨obs,eP E o.dst (fa ids H.length v),fy H ids (gi ids H.length Y),True⟩):=by(intro q;simp only[go_sem,simprocAttr,A];first|exact⟨sL,q⟩|exact q)):Dr P b n B ops.toArray (.ef k L l) obs E H K:=dc (dQ ids hs i j m p s hi c d g (e h))
theorem cN{P:Program}{a:List Bool}{n:Nat}{B:Bs}{Q:Qt}{E:ey}{H:List Ob}{c:Operand}{x y:Code}{b d:Bool}{Z:Type}{z:Z}{u v:Option Z}(w:(bif d then u else v)=some z)(e:u=some z->Wp P a n B x Q E H)(f:v=some z->Wp P a n B y Q E H)(g:eN E c=.p (.b b):=by exact rfl)(i:ub c:=by exact⟨⟩)(j:b=true->d=true:=by first|exact fun h=>h|(intro h;simpa using h))(k:b=false->d=false:=by first|exact fun h=>h|(intro h;simpa using h)):Wp P a n B (.cond c x y) Q E H:=cM w (fun _=>e) (fun _=>f) g i j k
theorem cR{P:Program}{a:List Bool}{n:Nat}{B:Bs}{Q:Qt}{E:ey}{H:List Ob}{c:Operand}{x y:Code}{b d:Bool}{Z:Type}{z:Z}{u v:Option Z}(w:(bif d then u else v)=some z)(e:v=some z->Wp P a n B y Q E H)(f:u=some z->Wp P a n B x Q E H:=by(intro w;first|exact wR|exact wQ))(g:eN E c=.p (.b b):=by exact rfl)(i:ub c:=by exact⟨⟩)(j:b=true->d=true:=by first|exact fun h=>h|(intro h;simpa using h))(k:b=false->d=false:=by first|exact fun h=>h|(intro h;simpa using h)):Wp P a n B (.cond c x y) Q E H:=cM w (fun _=>f) (fun _=>e) g i j k
theorem cT{P:Program}{a:List Bool}{n:Nat}{B:Bs}{Q:Qt}{E:ey}{H:List Ob}{c:Operand}{x y:Code}{b d:Bool}{Z:Type}{z:Z}{u v:Option Z}(w:(bif d then u else v)=some z)(e:u=some z->Wp P a n B x Q E H)(f:v=some z->Wp P a n B y Q E H:=by(intro w;first|exact wR|exact wQ))(g:eN E c=.p (.b b):=by exact rfl)(i:ub c:=by exact⟨⟩)(j:b=true->d=true:=by first|exact fun h=>h|(intro h;simpa using h))(k:b=false->d=false:=by first|exact fun h=>h|(intro h;simpa using h)):Wp P a n B (.cond c x y) Q E H:=cM w (fun _=>e) (fun _=>f) g i j k
theorem fL{P:Program}{a:List Bool}{n:Nat}{B:Bs}{Q:Qt}{E:ey}{H:List Ob}{c:Code}(k m:Nat)(h:m<=274877906944->Wp P a n B c Q E H)(e:(eR E k).ok->m<=274877906944:=by(intro q;simp only[go_sem,simprocAttr,length_map]at q;omega)):Wp P a n B c Q E H:=dA k fun q=>h (e q)
theorem j7{i n:Nat}{p:Prop}(h:p)(e:p->decide ((i:Int)<(n:Int))=true:=by first|exact fun h=>h|(intro h;simpa using h)):i<n:=lw (e h)
theorem tn{i n:Nat}{p:Prop}(h:p)(e:p->decide ((i:Int)<(n:Int))=false:=by first|exact fun h=>h|(intro h;simpa using h)):¬i<n:=ux (e h)
theorem wN{S:Type}{a:Prop}{b c:S->Prop}(s:S)(d:a)(e:b s)(f:c s:=by(first|(simp only[go_sem,simprocAttr,A];done)|(simp only[go_sem,simprocAttr,A];exact mA)|exact wF)):∃s,a/\b s/\c s:=⟨s,d,e,f⟩
theorem nA{g:Prop}(h:True->g):g:=h trivial
theorem sX{P:Program}{b:List Bool}{n:Nat}{B:Bs}{Q:Qt}{E c:ey}{H d:List Ob}{id:Nat}{l:List Oper}{y:Code}{g:Bool}{f:FuncId}{a:List Va}{v:Va}(hs:g=true->Does P f a [] fun r X=>r=v/\X=[])(h:Wp P b n B y Q c d)(e:∀K:ey->List Ob->Prop,K c d->(g=true->Does P f a [] fun r X=>r=v/\X=[])->fz P b n B l.toArray K (fv P b n l l ⟨E,H,True⟩):=by(intro K hK hs;simp only[go_sem,simprocAttr,A];first|exact cX hs hK|exact⟨sL,cX hs hK⟩)):Wp P b n B (.seq (.region id l.toArray false) y) Q E H:=db fun K hK=>e K (hK _ _ h) hs
theorem eX{P:Program}{b:List Bool}{n:Nat}{B:Bs}{Q:Qt}{E c:ey}{H d:List Ob}{id:Nat}{l:List Oper}{g:Bool}{f:FuncId}{a:List Va}{v:Va}(hs:g=true->Does P f a [] fun r X=>r=v/\X=[])(h:Q .normal c d)(e:∀K:ey->List Ob->Prop,K c d->(g=true->Does P f a [] fun r X=>r=v/\X=[])->fz P b n B l.toArray K (fv P b n l l ⟨E,H,True⟩):=by(intro K hK hs;simp only[go_sem,simprocAttr,A];first|exact cX hs hK|exact⟨sL,cX hs hK⟩)):Wp P b n B (.region id l.toArray false) Q E H:=Wp.region fun K hK=>e K (hK _ _ h) hs
theorem sF{P:Program}{b:List Bool}{n:Nat}{B:Bs}{Q:Qt}{E c:ey}{H d:List Ob}{id:Nat}{l:List Oper}{y:Code}{f:FuncId}{a:List Va}{v:Va}(hs:Does P f a [] fun r X=>r=v/\X=[])(g:Wp P b n B y Q c d)(e:∀K:ey->List Ob->Prop,K c d->(Does P f a [] fun r X=>r=v/\X=[])->fz P b n B l.toArray K (fv P b n l l ⟨E,H,True⟩):=by(intro K hK hs;simp only[go_sem,simprocAttr,A];first|exact cF hs hK|exact⟨sL,cF hs hK⟩)):Wp P b n B (.seq (.region id l.toArray false) y) Q E H:=db fun K hK=>e K (hK _ _ g) hs
theorem eF{P:Program}{b:List Bool}{n:Nat}{B:Bs}{Q:Qt}{E c:ey}{H d:List Ob}{id:Nat}{l:List Oper}{f:FuncId}{a:List Va}{v:Va}(hs:Does P f a [] fun r X=>r=v/\X=[])(g:Q .normal c d)(e:∀K:ey->List Ob->Prop,K c d->(Does P f a [] fun r X=>r=v/\X=[])->fz P b n B l.toArray K (fv P b n l l ⟨E,H,True⟩):=by(intro K hK hs;simp only[go_sem,simprocAttr,A];first|exact cF hs hK|exact⟨sL,cF hs hK⟩)):Wp P b n B (.region id l.toArray false) Q E H:=Wp.region fun K hK=>e K (hK _ _ g) hs
def Tg(a:List Nat)(p:Prop):Prop:=p
theorem pT{c:List Nat}{a b:Prop}(d:a)(e:Tg c b):Tg c (a/\b):=⟨d,e⟩
theorem oT{P:Program}{d:List Bool}{n:Nat}{B:Bs}{K:ey->List Ob->Prop}{E:ey}{H:List Ob}{c:Array Oper}{o:Oper}{l:List Oper}{f:FuncId}{h b:List Va}{X Y:List Ob}{v:Va}{q:Prop}{a:List Nat}(hs:Does P f b X fun r Z=>r=v/\Z=Y)(i:q)(j:Is (x7 E o) (some (f,h)):=by exact s6)(k:Is (jC a h) (some b):=by exact s6)(m:Is (iI a H a) (some X):=by exact s6)(hi:jc H.length a=true:=by exact s6)(g:ie n true E o:=by exact s6)(e:q->fz P d n B c K (fv P d n c.toList l ⟨eP (fZ (fH a H) E) o.dst (fa a H.length v),fy (fF (fH a H) H) a (gi a H.length Y),True⟩):=by(intro q;simp only[go_sem,simprocAttr,A];first|exact⟨sL,q⟩|exact q)):Tg a (Rg P d n B c (o::l) E H K):=cO a hs i j k m hi g e
theorem qT{P:Program}{d:List Bool}{n:Nat}{B:Bs}{K:ey->List Ob->Prop}{E:ey}{H:List Ob}{b:Array Oper}{o:Oper}{l:List Oper}{f:FuncId}{i c:List Va}{X:List Ob}{g:Bool}{v:Va}{q:Prop}{a:List Nat}(hs:g=true->Does P f c X fun r Z=>r=v/\Z=X)(j:q)(k:Is (g9 E o) (some (f,i)):=by exact s6)(m:Is (iK b.toList E o) (some g):=by exact s6)(p:Is (jC a i) (some c):=by exact s6)(s:Is (iI a H a) (some X):=by exact s6)(hi:jc H.length a=true:=by exact s6)(t:uF H a=true:=by exact s6)(h:ie n g E o:=by exact s6)(e:q->fz P d n B b K (fv P d n b.toList l ⟨eP E o.dst (iA o.guard g (fa a H.length v)),H,True⟩):=by(intro q;simp only[go_sem,simprocAttr,A];first|exact⟨sL,q⟩|exact q)):Tg a (Rg P d n B b (o::l) E H K):=cQ a hs j k m p s hi t h e
theorem sO{P:Program}{b:List Bool}{n:Nat}{B:Bs}{Q:Qt}{E d:ey}{H g:List Ob}{id:Nat}{l:List Oper}{y:Code}(c:List Nat){f:FuncId}{a:List Va}{v:Va}{X Y:List Ob}(hs:Does P f a X fun r Z=>r=v/\Z=Y)(h:Wp P b n B y Q d g)(e:∀K:ey->List Ob->Prop,K d g->(Does P f a X fun r Z=>r=v/\Z=Y)->Tg c (fz P b n B l.toArray K (fv P b n l l ⟨E,H,True⟩)):=by(intro K hK hs;simp only[go_sem,simprocAttr,A];first|exact oT hs hK|exact pT sL (oT hs hK))):Wp P b n B (.seq (.region id l.toArray false) y) Q E H:=db fun K hK=>e K (hK _ _ h) hs
theorem eO{P:Program}{b:List Bool}{n:Nat}{B:Bs}{Q:Qt}{E d:ey}{H g:List Ob}{id:Nat}{l:List Oper}(c:List Nat){f:FuncId}{a:List Va}{v:Va}{X Y:List Ob}(hs:Does P f a X fun r Z=>r=v/\Z=Y)(h:Q .normal d g)(e:∀K:ey->List Ob->Prop,K d g->(Does P f a X fun r Z=>r=v/\Z=Y)->Tg c (fz P b n B l.toArray K (fv P b n l l ⟨E,H,True⟩)):=by(intro K hK hs;simp only[go_sem,simprocAttr,A];first|exact oT hs hK|exact pT sL (oT hs hK))):Wp P b n B (.region id l.toArray false) Q E H:=Wp.region fun K hK=>e K (hK _ _ h) hs
theorem sQ{P:Program}{b:List Bool}{n:Nat}{B:Bs}{Q:Qt}{E d:ey}{H h:List Ob}{id:Nat}{l:List Oper}{y:Code}(c:List Nat){g:Bool}{f:FuncId}{a:List Va}{v:Va}{X:List Ob}(hs:g=true->Does P f a X fun r Z=>r=v/\Z=X)(i:Wp P b n B y Q d h)(e:∀K:ey->List Ob->Prop,K d h->(g=true->Does P f a X fun r Z=>r=v/\Z=X)->Tg c (fz P b n B l.toArray K (fv P b n l l ⟨E,H,True⟩)):=by(intro K hK hs;simp only[go_sem,simprocAttr,A];first|exact qT hs hK|exact pT sL (qT hs hK))):Wp P b n B (.seq (.region id l.toArray false) y) Q E H:=db fun K hK=>e K (hK _ _ i) hs
theorem eQ{P:Program}{b:List Bool}{n:Nat}{B:Bs}{Q:Qt}{E d:ey}{H h:List Ob}{id:Nat}{l:List Oper}(c:List Nat){g:Bool}{f:FuncId}{a:List Va}{v:Va}{X:List Ob}(hs:g=true->Does P f a X fun r Z=>r=v/\Z=X)(i:Q .normal d h)(e:∀K:ey->List Ob->Prop,K d h->(g=true->Does P f a X fun r Z=>r=v/\Z=X)->Tg c (fz P b n B l.toArray K (fv P b n l l ⟨E,H,True⟩)):=by(intro K hK hs;simp only[go_sem,simprocAttr,A];first|exact qT hs hK|exact pT sL (qT hs hK))):Wp P b n B (.region id l.toArray false) Q E H:=Wp.region fun K hK=>e K (hK _ _ i) hs
theorem lB{P:Program}{q:List Bool}{n:Nat}{B:Bs}{Q:Qt}{E:ey}{H:List Ob}{Z S α:Type}{z:Z}{f:Nat->α->S->(S->Option Z)->(S->Option Z)->Option Z}{k:S->Option Z}{l:List α}{i:Nat}{s:S}{c:Operand}{b:Bool}{j id:Nat}{x y:Code}(e:α->List Dt)(w:Vc.forL (l.drop i) i f s k=some z)(C:l.length<=274877906944)(hx:k s=some z->Q (.exit j) E H)(h:i<l.length->IntKind.i64.wrap ((i:Int)+1)=((i+1:Nat):Int)->∀a o,(∀d,(l.map e).getD i d=e a)->(∀d,l.getD i d=a)->(∀L,o L=some z->Vc.forL (l.drop (i+1)) (i+1) f L k=some z)->f i a s o k=some z->(IntKind.i64.wrap ((i:Int)+1)=((i+1:Nat):Int)/\∀d,(l.map e).getD i d=e a)->∀K:ey->List Ob->Prop,(∀E H,Wp P q n B y Q E H->K E H)->Wp P q n B x (zw id (zz K Q)) E H)(D:eN E c=.p (.b b):=by exact rfl)(F:ub c:=by exact⟨⟩)(G:b=true->decide ((i:Int)<(l.length:Int))=true:=by first|exact fun h=>h|(intro h;simpa using h))(I:b=false->decide ((i:Int)<(l.length:Int))=false:=by first|exact fun h=>h|(intro h;simpa using h)):Wp P q n B (.seq (.cond c .skip (.exit j)) (.seq (.block id x) y)) Q E H:=by
 refine da fun J r _=>Wp.cond D F (fun t=>?_) fun t=>Wp.exit (hx (jg w (ux (I t))));have g:=lw (G t);have M:=iL g C;obtain⟨a,o,m,u,v,w⟩:=jj w g;exact Wp.skip (r _ _ (da fun K hK _=>Wp.block (h g M a o (m e) u v w ⟨M,m e⟩ K hK)))
theorem lS{P:Program}{o:List Bool}{n:Nat}{B:Bs}{Q:Qt}{E:ey}{H:List Ob}{Z S α:Type}{z:Z}{f:Nat->α->S->(S->Option Z)->(S->Option Z)->Option Z}{k:S->Option Z}{l:List α}{i:Nat}{s:S}{c:Operand}{b:Bool}{j id:Nat}{x y:Code}(w:Vc.forL (l.drop i) i f s k=some z)(J:l.length<=274877906944)(hx:k s=some z->Q (.exit j) E H)(h:i<l.length->IntKind.i64.wrap ((i:Int)+1)=((i+1:Nat):Int)->∀a m,(∀d,l.getD i d=a)->(∀u,m u=some z->Vc.forL (l.drop (i+1)) (i+1) f u k=some z)->f i a s m k=some z->(IntKind.i64.wrap ((i:Int)+1)=((i+1:Nat):Int)/\∀d,l.getD i d=a)->∀K:ey->List Ob->Prop,(∀E H,Wp P o n B y Q E H->K E H)->Wp P o n B x (zw id (zz K Q)) E H)(L:eN E c=.p (.b b):=by exact rfl)(C:ub c:=by exact⟨⟩)(D:b=true->decide ((i:Int)<(l.length:Int))=true:=by first|exact fun h=>h|(intro h;simpa using h))(F:b=false->decide ((i:Int)<(l.length:Int))=false:=by first|exact fun h=>h|(intro h;simpa using h)):Wp P o n B (.seq (.cond c .skip (.exit j)) (.seq (.block id x) y)) Q E H:=by
 refine da fun I q _=>Wp.cond L C (fun r=>?_) fun r=>Wp.exit (hx (jg w (ux (F r))));have e:=lw (D r);have v:=iL e J;obtain⟨a,m,G,g,t,w⟩:=jj w e;exact Wp.skip (q _ _ (da fun K hK _=>Wp.block (h e v a m g t w ⟨v,g⟩ K hK)))
end Go.Proofs.YtpcihjdidhpbbaaGreatDoor
