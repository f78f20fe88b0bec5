/- Plain lemmas on the models: the law's model answers true (second part). -/
import Derived.Test.YtbofknpajcdnmaaGreatDoorLkPl
set_option linter.unusedSimpArgs false
set_option linter.unusedVariables false
namespace Go.Md
open Go.Vc
theorem zmC(s:Str):zd6 s=some (zjk s):=by
 unfold zd6 zjk;simp only[zaw];rw[zc4 hexB (fun i x nx k=>by rw[zmR,Bool.not_not];rfl)]
 cases s.all hexB <;> rfl
noncomputable def zlh(text:Str)(P:List Str)(id:Str)(c:List api_Change)(ec:Int)(r6:List api_Change×Int×List Str×Bool):Option (api_Journal×Int) :=
 jp (S:=Int) (fun ahead_8 =>
  call (zE ([115,117,109]:Str) r6.2.2.1 r6.2.2.2) fun r_10 =>
  chk ((!(r_10.2.1||(decide (0<(r_10.2.2.length:Int)))))=true→(0≤IntKind.i64.wrap ((P.length:Int)-1)∧IntKind.i64.wrap ((P.length:Int)-1)<(P.length:Int))) <|
  callG (!((r_10.2.1||(decide (0<(r_10.2.2.length:Int))))||(!decide ((P.getD ((IntKind.i64.wrap ((P.length:Int)-1)).toNat) [])=[])))) (zd6 r_10.1) false fun r_12 =>
  bif (((r_10.2.1||(decide (0<(r_10.2.2.length:Int))))||(!decide ((P.getD ((IntKind.i64.wrap ((P.length:Int)-1)).toNat) [])=[])))||(!r_12))then
   some ((api_Journal.mk [] [] []),8)
  else
  chk (0≤ahead_8∧ahead_8≤(text.length:Int)) <|
  call (zei (List.take ahead_8.toNat text)) fun r_15 =>
  bif !decide (r_10.1=r_15)then
   some ((api_Journal.mk [] [] []),14)
  else
  call (zbG id) fun r_16 =>
  bif !r_16 then
   some ((api_Journal.mk [] [] []),5)
  else
  bif !decide (ec=0)then
   some ((api_Journal.mk [] [] []),ec)
  else
  bif !decide (r6.2.1=0)then
   some ((api_Journal.mk [] [] []),r6.2.1)
  else
  bif decide (65536<(text.length:Int))then
   some ((api_Journal.mk [] [] []),4)
  else
  some ((api_Journal.mk id c r6.1),0)) fun k_9 =>
 bif decide (0<(r6.2.2.1.length:Int))then
  idx r6.2.2.1 0 fun s_17 =>
  k_9 (IntKind.i64.wrap ((text.length:Int)-(s_17.length:Int)))
 else
 k_9 (text.length:Int)
theorem parse_tail(text:Str):zaG text=call (zaT text ([10]:Str)) fun r_2 =>
 chk (0≤IntKind.i64.wrap ((r_2.length:Int)-1)∧IntKind.i64.wrap ((r_2.length:Int)-1)≤(r_2.length:Int)) <|
 call (zE ([106,111,117,114,110,97,108]:Str) (List.take ((IntKind.i64.wrap ((r_2.length:Int)-1)).toNat) r_2) false) fun r_4 =>
 call (zl ([99,104,97,110,103,101,115]:Str) r_4.2.2 r_4.2.1) fun r_5 =>
 call (zl ([111,108,100]:Str) r_5.2.2.1 r_5.2.2.2) fun r_6 =>
 zlh text r_2 r_4.1 r_5.1 r_5.2.1 r_6:=rfl
theorem znM(text:Str)(P:List Str)(id:Str)(c:List api_Change)(ec:Int)(a:List api_Change)(e:Int)(r:List Str):zlh text P id c ec (a,e,r,true)=some (ZJ,8):=by
 unfold zlh;simp only[zaw,line_bad,zf]
 have:∀n:Int,(chk ((!(true||(decide (0<(r.length:Int)))))=true→(0≤IntKind.i64.wrap ((P.length:Int)-1)∧IntKind.i64.wrap ((P.length:Int)-1)<(P.length:Int))) (some (ZJ,n)):Option (api_Journal×Int))=some (ZJ,n):=fun n=>zg (by intro q;cases q) _
 cases hd:decide (0<(r.length:Int))
 ·exact this 8
 ·rw[cond_true]
  have hl:0<r.length:=by have:=of_decide_eq_true hd;omega
  rw[show idx r 0=idx r ((0:Nat):Int)from rfl,zd0 hl];rw[hd]at this;exact this 8
theorem bad_all(text:Str)(P l:List Str)(id:Str):(call (zl ([99,104,97,110,103,101,115]:Str) l true) fun r_5 =>
 call (zl ([111,108,100]:Str) r_5.2.2.1 r_5.2.2.2) fun r_6=>zlh text P id r_5.1 r_5.2.1 r_6)=some (ZJ,8):=by
 obtain⟨a,e,r,h⟩:=ziA [99,104,97,110,103,101,115] l;rw[h,zf];obtain⟨a',e',r',h'⟩:=ziA [111,108,100] r
 show(call (zl [111,108,100] r true) fun r_6=>zlh text P id a e r_6)=_
 rw[h',zf,znM]
theorem bad_old(text:Str)(P l:List Str)(id:Str)(c:List api_Change)(ec:Int):(call (zl ([111,108,100]:Str) l true) fun r_6=>zlh text P id c ec r_6)=some (ZJ,8):=by
 obtain⟨a',e',r',h'⟩:=ziA [111,108,100] l;rw[h',zf,znM]
theorem S_front(s:Str)(hs:s.length≤4194304){L:List Str}{t:Str}(h:zG 10 s=L++[t])(e:s=cat L++t)(h10:∀x∈L,(10:UInt8)∉x)
  (hT:∀(id:Str) (c o:List api_Change) (r2:List Str),SmL c→SmL o→(∃x r r1,L=x::r∧id=x.drop 8∧pfx (wJou++[32]) x=true∧zcQ zlb r=some (c,r1)∧zcQ zkQ r1=some (o,r2)) →
   zlh s (L.map nl++[t]) id (bif !decide (zfn c=0)then []else c) (zfn c) (bif !decide (zfn o=0)then []else o,zfn o,r2.map nl,false)=some (PJ L t)) :
  zaG s=some (PJ L t):=by
 have hsz:(cat L).length≤4194304:=by rw[e,List.length_append]at hs;omega
 have hl:=ziE L;rw[parse_tail,znR s 10 (by omega),zf,h,aft_app]
 show(chk (0≤IntKind.i64.wrap (((L.map nl++[t]).length:Int)-1)∧IntKind.i64.wrap (((L.map nl++[t]).length:Int)-1)≤((L.map nl++[t]).length:Int)) <|
  call (zE wJou (List.take ((IntKind.i64.wrap (((L.map nl++[t]).length:Int)-1)).toNat) (L.map nl++[t])) false) fun r_4 =>
  call (zl zlb r_4.2.2 r_4.2.1) fun r_5 =>
  call (zl zkQ r_5.2.2.1 r_5.2.2.2) fun r_6 =>
  zlh s (L.map nl++[t]) r_4.1 r_5.1 r_5.2.1 r_6)=_
 have hw:IntKind.i64.wrap (((L.map nl++[t]).length:Int)-1)=(L.length:Int):=by
  rw[List.length_append,List.length_map,List.length_singleton,zdq (by omega) (by omega)];omega
 rw[zg (by rw[hw];simp;omega),hw,Int.toNat_natCast,List.take_left' (by simp)]
 cases L with
 |nil =>
  rw[List.map_nil,zof,zf];refine(bad_all s _ _ _).trans ?_;unfold PJ
  cases decide (t=[]) <;> rfl
 |cons x r =>
  have hx:=ziD (List.mem_cons_self (a:=x) (l:=r));rw[List.map_cons,zlW wJou x _ (by decide) (by decide) (by omega),zf];cases hp:pfx (wJou++[32]) x
  ·refine(bad_all s _ _ _).trans ?_
   unfold PJ;simp only[hp]
   cases decide (t=[]) <;> rfl
  have h0:(cat r).length≤(cat (x::r)).length:=zej (x::r) 1;have hc:=znt zlb r (by decide) (by decide) (fun y hy=>h10 y (List.mem_cons_of_mem _ hy)) (by omega)
  have hPJ:PJ (x::r) t=bif !decide (t=[])then(ZJ,8)else PJ2 (x::r) (x.drop 8) (zcQ zlb r):=by unfold PJ;simp only[hp];rfl
  simp only[Bool.not_true]
  cases h1:zcQ zlb r with
  |none =>
   rw[h1]at hc hPJ;obtain⟨a,e1,r1,hc⟩:=hc;rw[hc,zf,hPJ];refine(bad_old s _ _ _ _ _).trans ?_
   cases decide (t=[]) <;> rfl
  |some q =>
   obtain⟨c,r1⟩:=q;rw[h1]at hc hPJ;obtain⟨s1,a1,a2,a3⟩:=zhx h1 (by omega);obtain⟨k,hk⟩:=zeQ h1;rw[show zl zlb (List.map nl r) false=_ from hc,zf];have hc2:=znt zkQ r1 (by decide) (by decide) (fun y hy=>h10 y (List.mem_cons_of_mem _ (List.mem_of_mem_drop (hk ▸ hy)))) (by omega)
   cases h2:zcQ zkQ r1 with
   |none =>
    rw[h2]at hc2;obtain⟨a,e1,r2,hc2⟩:=hc2;simp only;rw[hc2,zf,znM,hPJ]
    show _=some (bif !decide (t=[])then(ZJ,8)else PJ3 (x::r) (x.drop 8) c (zcQ zkQ r1))
    rw[h2]
    cases decide (t=[]) <;> rfl
   |some q =>
    obtain⟨o,r2⟩:=q;rw[h2]at hc2;obtain⟨s2,b1,b2,b3⟩:=zhx h2 (by omega);simp only;rw[show zl zkQ (List.map nl r1) false=_ from hc2,zf];exact hT _ c o r2 s1 s2 ⟨x,r,r1,rfl,rfl,hp,h1,h2⟩
theorem tail_good(s:Str)(hs:s.length≤4194304){L:List Str}{t:Str}(e:s=cat L++t)(h10:∀x∈L,(10:UInt8)∉x)
  (id:Str) (c o:List api_Change) (r2:List Str) (s1:SmL c) (s2:SmL o) (hex:∃x r r1,L=x::r∧id=x.drop 8∧pfx (wJou++[32]) x=true∧zcQ zlb r=some (c,r1)∧zcQ zkQ r1=some (o,r2)) :
   zlh s (L.map nl++[t]) id (bif !decide (zfn c=0)then []else c) (zfn c) (bif !decide (zfn o=0)then []else o,zfn o,r2.map nl,false)=some (PJ L t):=by
 obtain⟨x,r,r1,rfl,rfl,hp,h1,h2⟩:=hex
 have hsz:(cat (x::r)).length≤4194304:=by rw[e,List.length_append]at hs;omega
 have hl:=ziE (x::r)
 have hPJ:PJ (x::r) t=bif !decide (t=[])then(ZJ,8)else PJ3 (x::r) (x.drop 8) c (some (o,r2)):=by
  unfold PJ;simp only[hp]
  show(bif !decide (t=[])then(ZJ,8)else PJ2 (x::r) (x.drop 8) (zcQ zlb r))=_
  rw[h1]
  show(bif !decide (t=[])then(ZJ,8)else PJ3 (x::r) (x.drop 8) c (zcQ zkQ r1))=_
  rw[h2]
 rw[hPJ]
 have hw:IntKind.i64.wrap ((((x::r).map nl++[t]).length:Int)-1)=((x::r).length:Int):=by
  rw[List.length_append,List.length_map,List.length_singleton,zdq (by omega) (by omega)];omega
 have hgd:((x::r).map nl++[t]).getD (x::r).length []=t:=by
  rw[List.getD_eq_getElem?_getD,List.getElem?_append_right (by simp)];simp
 rcases r2 with _|⟨y,z⟩
 ·unfold zlh
  simp only[zaw,List.map_nil];rw[show decide (0<((([]:List Str).length:Nat):Int))=false from rfl,cond_false,zof,zf];simp only;rw[zg (by intro q;cases q)];refine Eq.trans (b:=some (ZJ,8)) rfl ?_
  cases decide (t=[]) <;> rfl
 ·unfold zlh
  simp only[zaw,List.map_cons]
  have hym:y∈x::r:=by
   obtain⟨k,e1⟩:=zeQ h1;obtain⟨m,hm⟩:=zeQ h2;rw[e1,List.drop_drop]at hm;exact List.mem_cons_of_mem _ (List.mem_of_mem_drop (hm ▸ List.mem_cons_self ..))
  have hyl:=ziD hym;rw[show decide (0<(((nl y::z.map nl).length:Nat):Int))=true from decide_eq_true (by simp),cond_true,show idx (nl y::z.map nl) 0=idx (nl y::z.map nl) ((0:Nat):Int)from rfl,zd0 (by simp)];simp only[List.getElem_cons_zero];rw[zlW [115,117,109] y _ (by decide) (by decide) (by omega),zf];have hw':IntKind.i64.wrap (((nl x::List.map nl r++[t]).length:Int)-1)=((x::r).length:Int):=hw;have hgd':(nl x::List.map nl r++[t]).getD (x::r).length []=t:=hgd;simp only[hw',Int.toNat_natCast,hgd'];rw[zg (by intro _;simp;omega),zmC,zad]
  rcases z with _|⟨y',z⟩
  ·cases ht:decide (t=[])
   ·simp only[Bool.not_false,Bool.or_true,Bool.true_or,cond_true]
    rfl
   ·cases hpy:pfx ([115,117,109]++[32]) y
    ·simp only[Bool.not_false,Bool.or_true,Bool.true_or,cond_true,Bool.not_true,cond_false]
     have hpy:pfx (wSum++[32]) y=false:=hpy
     show _=some (PJ4 (x::r) ⟨x.drop 8,c,o⟩ y)
     unfold PJ4;rw[hpy];rfl
    ·have hr:∃q,r=q++[y]:=by
      obtain⟨k,e1⟩:=zeQ h1;obtain⟨m,hm⟩:=zeQ h2;rw[e1,List.drop_drop]at hm;exact⟨r.take (k+m),by rw[hm,List.take_append_drop]⟩
     obtain⟨q,hq⟩:=hr;obtain rfl:=of_decide_eq_true ht;rw[List.append_nil]at e
     have hdl:(x::r).dropLast=x::q:=by
      subst hq;rw[show(x::(q++[y]))=(x::q)++[y]from rfl,List.dropLast_concat]
     have hcat:s=cat ((x::r).dropLast)++nl y:=by
      rw[e,hdl,hq,show(x::(q++[y]))=(x::q)++[y]from rfl,zmh];simp[cat]
     have hA:IntKind.i64.wrap ((s.length:Int)-((nl y).length:Int))=((cat ((x::r).dropLast)).length:Int):=by
      have:=congrArg List.length hcat;rw[List.length_append]at this
      rw[zdq (by omega) (by omega)];omega
     have hA2:(cat ((x::r).dropLast)).length≤s.length:=by
      have:=congrArg List.length hcat;rw[List.length_append]at this;omega
     have hpy:pfx (wSum++[32]) y=true:=hpy;simp only[hA]
     show(bif !zjk (y.drop 4)then some (ZJ,(8:Int))else
      chk (0≤((cat ((x::r).dropLast)).length:Int)∧((cat ((x::r).dropLast)).length:Int)≤(s.length:Int)) <|
      call (zei (List.take (cat ((x::r).dropLast)).length s)) fun r_15 =>
      bif !decide (y.drop 4=r_15)then some (ZJ,14)else
      call (zbG (x.drop 8)) fun r_16 =>
      bif !r_16 then some (ZJ,5)else
      bif !decide (zfn c=0)then some (ZJ,zfn c)else
      bif !decide (zfn o=0)then some (ZJ,zfn o)else
      bif decide (65536<(s.length:Int))then some (ZJ,4)else
      some (api_Journal.mk (x.drop 8) (bif !decide (zfn c=0)then []else c) (bif !decide (zfn o=0)then []else o),0))=some (PJ4 (x::r) ⟨x.drop 8,c,o⟩ y)
     unfold PJ4;rw[hpy];cases zjk (y.drop 4)
     ·rfl
     simp only[Bool.not_true,cond_false,Bool.or_self]
     have htk:List.take (cat ((x::r).dropLast)).length s=cat ((x::r).dropLast):=by rw[hcat,List.take_left]
     rw[zg (by omega),htk,zoC,zf,zdu,zf]
     have hcm:decide (sumS (cat ((x::r).dropLast))=y.drop 4)=decide (y.drop 4=sumS (cat ((x::r).dropLast))):=by
      rw[Bool.eq_iff_iff,decide_eq_true_eq,decide_eq_true_eq];exact eq_comm
     rw[hcm];cases decide (y.drop 4=sumS (cat ((x::r).dropLast)))
     ·rfl
     simp only[Bool.not_true,cond_false];unfold endJ eJ;cases zbe (x.drop 8)
     ·rfl
     simp only[Bool.not_true,cond_false];rw[←e];cases hc:decide (zfn c=0)
     ·simp only[Bool.not_false,cond_true,cond_false,hc]
     simp only[Bool.not_true,cond_true,cond_false];cases ho:decide (zfn o=0)
     ·simp only[Bool.not_false,cond_true]
     simp only[Bool.not_true,cond_false]
     cases decide (65536<(s.length:Int)) <;> rfl
  ·rw[show decide (0<((List.map nl (y'::z)).length:Int))=true from decide_eq_true (by simp)]
   simp only[Bool.or_true,Bool.true_or,cond_true]
   cases decide (t=[]) <;> rfl
theorem parse_same(s:Str)(hs:s.length≤4194304):∃L t,zG 10 s=L++[t]∧s=cat L++t∧(∀x∈L,(10:UInt8)∉x)∧(10:UInt8)∉t∧zaG s=some (PJ L t)∧za7 s=some (PJ L t):=by
 obtain⟨L,t,h1,h2,h3,h4⟩:=pieces s.length s (Nat.le_refl _);exact⟨L,t,h1,h2,h3,h4,S_front s hs h1 h2 h3 fun id c o r2 s1 s2 hex=>tail_good s hs h2 h3 id c o r2 s1 s2 hex,R_PJ s hs h1 h2⟩
structure OkJ(j:api_Journal):Prop where
 name:zbe j.Id=true
 e:eJ j=0
 len:(zgN j).length≤65536
theorem pJ_ok{j:api_Journal}(h:(pJ j).2=0):OkJ j∧pJ j=(zgN j,0):=by
 unfold pJ at h⊢;cases hn:zbe j.Id
 ·rw[hn]at h;cases h
 rw[hn]at h;simp only[Bool.not_true,cond_false]at h⊢;cases he:decide (eJ j=0)
 ·rw[he]at h
  exact absurd h (of_decide_eq_false he)
 rw[he]at h;simp only[Bool.not_true,cond_false]at h⊢;cases hd:decide (65536<((zgN j).length:Int))
 ·exact⟨⟨hn,of_decide_eq_true he,by have:=of_decide_eq_false hd;omega⟩,rfl⟩
 ·rw[hd]at h;cases h
theorem eJ_zero{j:api_Journal}(h:eJ j=0):zfn j.Changes=0∧zfn j.Old=0:=by
 unfold eJ at h;cases e1:decide (zfn j.Changes=0)
 ·rw[e1,cond_false]at h;exact absurd h (of_decide_eq_false e1)
 ·rw[e1,cond_true]at h;exact⟨of_decide_eq_true e1,h⟩
theorem same_J(j:api_Journal):zcz j j=some true:=by
 unfold zcz;simp only[decide_true,Bool.and_self,zj6,same_ch,zf,Bool.true_and]
theorem strLt_eq:∀a b:Str,zgr a b=decide (a<b)
 |[],[]=>by simp[zgr,Op.bytesLess]
 |_::_,[]=>by simp[zgr,Op.bytesLess]
 |[],_::_=>by simp[zgr,Op.bytesLess]
 |a::x,b::y=>by
  have ih:=strLt_eq x y;unfold zgr at *;rw[Op.bytesLess,ih,Bool.eq_iff_iff];simp[List.cons_lt_cons_iff]
theorem zfQ{a b c:Str}(h1:a<b)(h2:b<c):a<c:=List.lt_trans h1 h2
theorem zjO(a:Str):¬ a<a:=List.lt_irrefl a
theorem zjN(a b:Str):a<b∨a=b∨b<a:=by
 by_cases h1:a<b
 ·exact .inl h1
 ·by_cases h2:b<a
  ·exact .inr (.inr h2)
  ·exact .inr (.inl (List.le_antisymm (List.not_lt.1 h2) (List.not_lt.1 h1)))
theorem ziW{a b:Str}(h1:a<b):¬ b<a:=fun h2=>zjO a (zfQ h1 h2)
theorem zlr{a b:Str}(h1:a<b):a≠b:=fun e=>zjO b (e ▸ h1)
theorem cmpB_spec:∀a b:Str,(cmpB a b<0↔a<b)∧(cmpB a b=0↔a=b)
 |[],[]=>by simp[cmpB,Lib.compareBytes]
 |_::_,[]=>by simp[cmpB,Lib.compareBytes]
 |[],_::_=>by simp[cmpB,Lib.compareBytes]
 |a::x,b::y=>by
  have ih:=cmpB_spec x y;unfold cmpB at *;rw[Lib.compareBytes,List.cons_lt_cons_iff]
  by_cases h:a<b
  ·have:a≠b:=fun e=>by subst e;exact UInt8.lt_irrefl _ h
   simp[h,this]
  ·by_cases h2:b<a
   ·have:a≠b:=fun e=>by subst e;exact UInt8.lt_irrefl _ h2
    simp[h,h2,this]
   ·have:a=b:=UInt8.le_antisymm (UInt8.not_lt.1 h2) (UInt8.not_lt.1 h)
    subst this
    simpa [h]using ih
theorem cmpB_lt(a b:Str):decide (cmpB a b<0)=decide (a<b):=decide_eq_decide.2 (cmpB_spec a b).1
theorem slt_app(a b:Str)(hb:b≠[]):a<a++b:=by
 induction a with
 |nil=>cases b with
  |nil=>exact absurd rfl hb
  |cons x b=>simp
 |cons x a ih=>rw[List.cons_append,List.cons_lt_cons_iff];exact .inr ⟨rfl,ih⟩
section
variable {K V:Type} [DecidableEq K]
theorem alook_ne{m:List (K×V)}{p:K×V}{k:K}(h:¬ p.1=k):zu (p::m) k=zu m k:=by rw[zu,decide_eq_false h];rfl
theorem alook_eq{m:List (K×V)}{p:K×V}{k:K}(h:p.1=k):zu (p::m) k=some p.2:=by rw[zu,decide_eq_true h];rfl
theorem aset_ne{m:List (K×V)}{p:K×V}{k:K}{v:V}(h:¬ p.1=k):zcy (p::m) k v=p::zcy m k v:=by rw[zcy,decide_eq_false h];rfl
theorem aset_eq{m:List (K×V)}{p:K×V}{k:K}{v:V}(h:p.1=k):zcy (p::m) k v=(k,v)::m:=by rw[zcy,decide_eq_true h];rfl
theorem zdo:∀(m:List (K×V)) (k:K) (v:V) (k':K),zu (zcy m k v) k'=if k=k' then some v else zu m k'
 |[],k,v,k'=>by
  simp only[zcy,zu]
  by_cases h:k=k' <;> simp[h]
 |p::m,k,v,k'=>by
  unfold zcy
  by_cases h:p.1=k
  ·rw[decide_eq_true h,cond_true]
   simp only[zu]
   by_cases h':k=k'
   ·simp[h']
   ·have:¬ p.1=k':=fun e=>h' (h ▸ e)
    simp[h',this]
  ·rw[decide_eq_false h,cond_false]
   simp only[zu];rw[zdo m k v k']
   by_cases h':k=k'
   ·have:¬ p.1=k':=fun e=>h (e.trans h'.symm)
    simp[h',this]
   ·simp only[if_neg h']
theorem alook_none:∀{m:List (K×V)} {k:K},zu m k=none↔k∉m.map (·.1)
 |[],k=>by simp[zu]
 |p::m,k=>by
  simp only[zu,List.map_cons,List.mem_cons]
  by_cases h:p.1=k
  ·simp[h]
  ·rw[decide_eq_false h,cond_false,alook_none]
   simp[Ne.symm h]
theorem mem_keys{m:List (K×V)}{k:K}:k∈m.map (·.1)↔(zu m k).isSome=true:=by
 have:=@alook_none K V _ m k
 cases h:zu m k with
 |none=>simpa using this.1 h
 |some v =>
  simp only[Option.isSome_some,iff_true]
  refine Classical.byContradiction fun hc=>?_
  rw[this.2 hc]at h;cases h
theorem zmp:∀{m:List (K×V)} {k:K} {v:V},zu m k=some v→(k,v)∈m
 |[],k,v,h=>by cases h
 |p::m,k,v,h=>by
  simp only[zu]at h
  by_cases e:p.1=k
  ·rw[decide_eq_true e,cond_true]at h
   cases h;subst e;exact List.mem_cons_self ..
  ·rw[decide_eq_false e,cond_false]at h
   exact List.mem_cons_of_mem _ (zmp h)
theorem mem_alook:∀{m:List (K×V)},(m.map (·.1)).Nodup→∀{p:K×V},p∈m→zu m p.1=some p.2
 |q::m,hn,p,hp=>by
  have hn':=List.nodup_cons.1 hn;simp only[zu]
  rcases List.mem_cons.1 hp with rfl|hp
  ·simp
  ·have:¬ q.1=p.1:=fun e=>hn'.1 (by show q.1∈_;rw[e];exact List.mem_map_of_mem hp)
   rw[decide_eq_false this,cond_false];exact mem_alook hn'.2 hp
theorem zji:∀(m:List (K×V)) (k:K) (v:V),(zcy m k v).map (·.1)=m.map (·.1)++if (zu m k).isSome then []else [k]
 |[],k,v=>by simp[zcy,zu]
 |p::m,k,v=>by
  by_cases h:p.1=k
  ·rw[aset_eq h,alook_eq h];simp[h]
  ·rw[aset_ne h,alook_ne h,List.map_cons,zji m k v];rfl
theorem zfY{m:List (K×V)}(h:(m.map (·.1)).Nodup)(k:K)(v:V):((zcy m k v).map (·.1)).Nodup:=by
 rw[zji];split
 ·simpa using h
 ·rename_i hs
  have:k∉m.map (·.1):=fun hk=>hs (mem_keys.1 hk)
  rw[List.nodup_append];exact⟨h,by simp,fun a ha b hb e=>by simp at hb;subst hb;subst e;exact this ha⟩
theorem zjf(m:List (K×V))(k:K)(v:V):(zcy m k v).length=m.length+if (zu m k).isSome then 0 else 1:=by
 have:=congrArg List.length (zji m k v);simp only[List.length_map,List.length_append]at this;rw[this]
 split <;> simp
theorem adel_keys:∀(m:List (K×V)) (k:K),((zka m k).map (·.1)).Sublist (m.map (·.1))
 |[],k=>by simp[zka]
 |p::m,k=>by
  simp only[zka]
  by_cases h:p.1=k
  ·simp[h]
  ·rw[decide_eq_false h,cond_false]
   exact(adel_keys m k).cons_cons _
theorem zhz{m:List (K×V)}(h:(m.map (·.1)).Nodup)(k:K):((zka m k).map (·.1)).Nodup:=h.sublist (adel_keys m k)
theorem zgd:∀{m:List (K×V)},(m.map (·.1)).Nodup→∀(k k':K),zu (zka m k) k'=if k=k' then none else zu m k'
 |[],_,k,k'=>by simp[zka,zu]
 |p::m,hn,k,k'=>by
  have hn':=List.nodup_cons.1 hn;simp only[zka]
  by_cases h:p.1=k
  ·rw[decide_eq_true h,cond_true]
   by_cases h':k=k'
   ·rw[if_pos h',alook_none.2]
    rw[←h',←h];exact hn'.1
   ·rw[if_neg h']
    have:¬ p.1=k':=fun e=>h' (h ▸ e)
    simp only[zu];rw[decide_eq_false this,cond_false]
  ·rw[decide_eq_false h,cond_false]
   simp only[zu];rw[zgd hn'.2]
   by_cases h':k=k'
   ·have:¬ p.1=k':=fun e=>h (e.trans h'.symm)
    simp[h',this]
   ·simp only[if_neg h']
end
section
variable {α S β:Type}
theorem zk4{f:α→S→(S→Option β)→(S→Option β)→Option β}{k:S→Option β}{z:β}(inv:List α→S→Prop)
  (h0:∀s,inv [] s→k s=some z) (h1:∀r s nx x j,inv r s→r[j]?=some x→(∀s',inv (r.eraseIdx j) s'→nx s'=some z)→f x s nx k=some z) :
  ∀(n:Nat) (r:List α) (s:S),r.length=n→inv r s→forM f n r s k=some z
 |0,[],s,_,h=>h0 s h
 |n+1,r,s,hn,h=>by
  unfold Go.Vc.forM
  refine ziI ⟨0,by omega⟩ fun j hj=>?_
  rw[List.getElem?_eq_getElem hj]
  exact h1 r s _ r[j] j h (List.getElem?_eq_getElem hj) fun s' hs=>zk4 inv h0 h1 n (r.eraseIdx j) s' (by rw[List.length_eraseIdx,if_pos hj];omega) hs
theorem zeR:∀{r:List α} {j:Nat} {x:α},r[j]?=some x→r.Perm (x::r.eraseIdx j)
 |[],_,_,h=>by cases h
 |y::r,0,x,h=>by
  simp at h;subst h;simp
 |y::r,j+1,x,h=>by
  simp only[List.getElem?_cons_succ]at h;rw[List.eraseIdx_cons_succ];exact((zeR h).cons y).trans (.swap x y _)
end
theorem zls(a b c:Str)(h1:decide (a≤b)=true)(h2:decide (b≤c)=true):decide (a≤c)=true:=by
 simp only[decide_eq_true_eq]at *;exact List.le_trans h1 h2
theorem zlt(a b:Str):(decide (a≤b)||decide (b≤a))=true:=by
 simp only[Bool.or_eq_true,decide_eq_true_eq];exact List.le_total a b
theorem zjM(l:List Str):(sortS l).Perm l:=List.mergeSort_perm l _
theorem znS{l l':List Str}(h:l.Perm l'):sortS l=sortS l':=by
 unfold sortS;refine List.Perm.eq_of_pairwise (le:=fun a b=>decide (a≤b)=true) (fun a b _ _ h1 h2=>?_) (List.pairwise_mergeSort zls zlt l) (List.pairwise_mergeSort zls zlt l') (((List.mergeSort_perm l _).trans h).trans (List.mergeSort_perm l' _).symm);simp only[decide_eq_true_eq]at h1 h2;exact List.le_antisymm h1 h2
theorem sortS_lt{l:List Str}(h:l.Nodup):(sortS l).Pairwise (·<·):=by
 have h1:(sortS l).Pairwise fun a b=>decide (a≤b)=true:=List.pairwise_mergeSort zls zlt l
 have h2:(sortS l).Pairwise (·≠·):=(zjM l).symm.nodup h;refine List.Pairwise.imp₂ (fun a b h3 h4=>?_) h1 h2;simp only[decide_eq_true_eq]at h3
 rcases zjN a b with h|h|h
 ·exact h
 ·exact absurd h h4
 ·exact absurd h3 (List.not_le.2 h)
section
variable {V A:Type}
def zgy(m:List (Str×V)):List Str:=sortS (m.map (·.1))
theorem mem_keysM{m:List (Str×V)}{k:Str}:k∈zgy m↔(zu m k).isSome=true:=by
 unfold zgy;rw[(zjM _).mem_iff,mem_keys]
theorem len_keysM(m:List (Str×V)):(zgy m).length=m.length:=by
 unfold zgy;rw[(zjM _).length_eq,List.length_map]
theorem zer(m:List (Str×V))(h:m.length≤274877906944) :
  forM (fun(e:Str×V) (o:List Str) nx _=>chk ((o++[e.1]).length≤274877906944) (nx (o++[e.1]))) m.length m [] (fun o=>some (sortS o))=some (zgy m):=by
 refine zk4 (fun r o=>(o++r.map (·.1)).Perm (m.map (·.1))) (fun o ho=>?_) (fun r o nx x j ho hx hnx=>?_) _ _ _ rfl (by simp)
 ·simp only[List.map_nil,List.append_nil]at ho
  unfold zgy;rw[znS ho]
 ·have hp:=(zeR hx).map (·.1)
  have hq:((o++[x.1])++(r.eraseIdx j).map (·.1)).Perm (m.map (·.1)):=by
   refine List.Perm.trans ?_ ho;rw[List.append_assoc];exact(List.Perm.append_left o hp).symm
  have hl:=hq.length_eq;simp only[List.length_append,List.length_map]at hl;rw[zg (by simp only[List.length_append];omega)];exact hnx _ hq
def Srt(key:A→Str)(l:List A):Prop:=l.Pairwise fun a b=>key a<key b
def lk(key:A→Str)(l:List A)(k:Str):Option A:=l.find? fun x=>decide (key x=k)
variable {key:A→Str}
theorem zdJ{l:List A}{k:Str}{x:A}(h:lk key l k=some x):x∈l∧key x=k:=by
 unfold lk at h;exact⟨List.mem_of_find?_eq_some h,by simpa using List.find?_some h⟩
theorem srt_inj{l:List A}(hs:Srt key l){x y:A}(hx:x∈l)(hy:y∈l)(h:key x=key y):x=y:=by
 induction l with
 |nil=>cases hx
 |cons z l ih =>
  have hs':=List.pairwise_cons.1 hs
  rcases List.mem_cons.1 hx with e|hx' <;> rcases List.mem_cons.1 hy with e'|hy'
  ·rw[e,e']
  ·subst e;exact absurd h (zlr (hs'.1 y hy'))
  ·subst e';exact absurd h.symm (zlr (hs'.1 x hx'))
  ·exact ih hs'.2 hx' hy'
theorem zh4{l:List A}(hs:Srt key l){x:A}(hx:x∈l):lk key l (key x)=some x:=by
 cases h:lk key l (key x)with
 |none =>
  unfold lk at h;have:=List.find?_eq_none.1 h x hx;simp at this
 |some y =>
  obtain⟨h1,h2⟩:=zdJ h;rw[srt_inj hs h1 hx h2]
theorem lk_none{l:List A}{k:Str}:lk key l k=none↔∀x∈l,key x≠k:=by
 unfold lk;simp
theorem srt_nodup{l:List A}(hs:Srt key l):l.Nodup:=List.Pairwise.imp (R:=fun a b=>key a<key b) (S:=fun a b=>a≠b) (fun h e=>by subst e;exact zjO _ h) hs
theorem znP{l l':List A}(h:Srt key l)(h':Srt key l')(he:∀k,lk key l k=lk key l' k):l=l':=by
 have hm:∀x,x∈l↔x∈l':=fun x=>⟨fun hx=>(zdJ ((he _).symm.trans (zh4 h hx))).1,fun hx=>(zdJ ((he _).trans (zh4 h' hx))).1⟩
 exact List.Perm.eq_of_pairwise (fun a b _ _ h1 h2=>absurd h2 (ziW h1)) h h' ((List.perm_ext_iff_of_nodup (srt_nodup h) (srt_nodup h')).2 hm)
def toL(g:Str→V→A)(d:V)(m:List (Str×V)):List A:=(zgy m).map fun k=>g k ((zu m k).getD d)
theorem toL_len(g:Str→V→A)(d:V)(m:List (Str×V)):(toL g d m).length=m.length:=by
 unfold toL;rw[List.length_map,len_keysM]
theorem zif{g:Str→V→A}{d:V}{m:List (Str×V)}(hn:(m.map (·.1)).Nodup)(hk:∀k v,zu m k=some v→key (g k v)=k):Srt key (toL g d m):=by
 unfold Srt toL;rw[List.pairwise_map]
 refine(sortS_lt hn).imp_of_mem fun {a b} ha hb h=>?_
 have ha':=mem_keysM.1 (show a∈zgy m from ha);have hb':=mem_keysM.1 (show b∈zgy m from hb);obtain⟨v,hv⟩:=Option.isSome_iff_exists.1 ha';obtain⟨w,hw⟩:=Option.isSome_iff_exists.1 hb';rw[hv,hw,Option.getD_some,Option.getD_some,hk _ _ hv,hk _ _ hw];exact h
theorem zkg{g:Str→V→A}{d:V}{m:List (Str×V)}(hk:∀k v,zu m k=some v→key (g k v)=k)(k:Str):lk key (toL g d m) k=(zu m k).map (g k):=by
 have h1:∀k'∈zgy m,∃v,zu m k'=some v∧key (g k' ((zu m k').getD d))=k':=fun k' h=>by
  obtain⟨v,hv⟩:=Option.isSome_iff_exists.1 (mem_keysM.1 h);exact⟨v,hv,by rw[hv,Option.getD_some,hk _ _ hv]⟩
 cases h:zu m k with
 |none =>
  rw[Option.map_none,lk_none];intro x hx;obtain⟨k',hk',rfl⟩:=List.mem_map.1 hx;obtain⟨v,hv,he⟩:=h1 k' hk';rw[he];rintro rfl
  rw[h]at hv;cases hv
 |some v =>
  have hm:k∈zgy m:=mem_keysM.2 (by rw[h];rfl)
  cases hl:lk key (toL g d m) k with
  |none =>
   have:=lk_none.1 hl _ (List.mem_map_of_mem hm);obtain⟨v',hv,he⟩:=h1 k hm;exact absurd he this
  |some x =>
   obtain⟨h2,h3⟩:=zdJ hl;obtain⟨k',hk',rfl⟩:=List.mem_map.1 h2;obtain⟨v',hv,he⟩:=h1 k' hk';rw[he]at h3;subst h3
   rw[h];rfl
def ins(key:A→Str)(x:A)(l:List A):List A:=l.filter (fun y=>decide (key y<key x))++x::l.filter fun y=>decide (key x<key y)
def del(key:A→Str)(k:Str)(l:List A):List A:=l.filter fun y=>!decide (key y=k)
theorem mem_ins{l:List A}{x y:A}:y∈ins key x l↔y=x∨(y∈l∧key y≠key x):=by
 unfold ins;simp only[List.mem_append,List.mem_filter,decide_eq_true_eq,List.mem_cons];constructor
 ·rintro(⟨h1,h2⟩|rfl|⟨h1,h2⟩)
  ·exact .inr ⟨h1,zlr h2⟩
  ·exact .inl rfl
  ·exact .inr ⟨h1,Ne.symm (zlr h2)⟩
 ·rintro(rfl|⟨h1,h2⟩)
  ·exact .inr (.inl rfl)
  ·rcases zjN (key y) (key x)with h|h|h
   ·exact .inl ⟨h1,h⟩
   ·exact absurd h h2
   ·exact .inr (.inr ⟨h1,h⟩)
theorem mem_del{l:List A}{k:Str}{y:A}:y∈del key k l↔y∈l∧key y≠k:=by
 unfold del;simp
theorem zgs{l:List A}(hs:Srt key l)(x:A):Srt key (ins key x l):=by
 unfold Srt ins;rw[List.pairwise_append,List.pairwise_cons];refine⟨hs.filter _,⟨fun y hy=>by simpa using (List.mem_filter.1 hy).2,hs.filter _⟩,fun a ha b hb=>?_⟩
 have h1:key a<key x:=by simpa using (List.mem_filter.1 ha).2
 rcases List.mem_cons.1 hb with rfl|hb
 ·exact h1
 ·exact zfQ h1 (by simpa using (List.mem_filter.1 hb).2)
theorem zii{l:List A}(hs:Srt key l)(k:Str):Srt key (del key k l):=hs.filter _
theorem lk_ext{l:List A}{k:Str}{o:Option A}(hs:Srt key l)(h:∀x,o=some x↔x∈l∧key x=k):lk key l k=o:=by
 cases hl:lk key l k with
 |none =>
  cases ho:o with
  |none=>rfl
  |some x =>
   obtain⟨h1,h2⟩:=(h x).1 ho;exact absurd h2 (lk_none.1 hl x h1)
 |some x=>exact((h x).2 (zdJ hl)).symm
theorem lk_iff{l:List A}(hs:Srt key l){k:Str}{x:A}:lk key l k=some x↔x∈l∧key x=k:=⟨zdJ,fun h=>by obtain⟨h1,rfl⟩:=h;exact zh4 hs h1⟩
theorem lk_ins{l:List A}(hs:Srt key l)(x:A)(k:Str):lk key (ins key x l) k=if key x=k then some x else lk key l k:=by
 refine lk_ext (zgs hs x) fun y=>?_
 rw[mem_ins];split
 ·rename_i h
  subst h;constructor
  ·intro h;cases h;exact⟨.inl rfl,rfl⟩
  ·rintro⟨rfl|⟨h1,h2⟩,h3⟩
   ·rfl
   ·exact absurd h3 h2
 ·rename_i h
  rw[lk_iff hs];constructor
  ·rintro⟨h1,rfl⟩;exact⟨.inr ⟨h1,fun e=>h e.symm⟩,rfl⟩
  ·rintro⟨rfl|⟨h1,h2⟩,h3⟩
   ·exact absurd h3 h
   ·exact⟨h1,h3⟩
theorem lk_del{l:List A}(hs:Srt key l)(k k':Str):lk key (del key k l) k'=if k=k' then none else lk key l k':=by
 refine lk_ext (zii hs k) fun y=>?_
 rw[mem_del];split
 ·rename_i h
  subst h;simp only[reduceCtorEq,false_iff];rintro⟨⟨_,h1⟩,h2⟩;exact h1 h2
 ·rename_i h
  rw[lk_iff hs];constructor
  ·rintro⟨h1,rfl⟩;exact⟨⟨h1,fun e=>h e.symm⟩,rfl⟩
  ·rintro⟨⟨h1,_⟩,h2⟩;exact⟨h1,h2⟩
theorem zlX{l:List A}(hs:Srt key l)(k:Str):l.length=(del key k l).length+if (lk key l k).isSome then 1 else 0:=by
 induction l with
 |nil=>simp[del,lk]
 |cons x l ih =>
  have hs':=List.pairwise_cons.1 hs;have ih:=ih hs'.2;unfold del lk at *
  by_cases h:key x=k
  ·have h0:∀y∈l,key y≠k:=fun y hy e=>zlr (hs'.1 y hy) (h.trans e.symm)
   have h1:l.find? (fun x=>decide (key x=k))=none:=by simpa using h0
   rw[h1]at ih;simp only[List.filter_cons,List.find?_cons,h,decide_true,Bool.not_true,Bool.false_eq_true,if_false,if_true,Option.isSome_some,Option.isSome_none,List.length_cons]at *;omega
  ·simp only[List.filter_cons,List.find?_cons,h,decide_false,Bool.not_false,if_true,List.length_cons]at *
   omega
theorem zis{l:List A}(hs:Srt key l)(x:A):(ins key x l).length=l.length+if (lk key l (key x)).isSome then 0 else 1:=by
 have h1:=zlX (zgs hs x) (key x);rw[lk_ins hs,if_pos rfl]at h1
 have h2:del key (key x) (ins key x l)=del key (key x) l:=by
  refine znP (zii (zgs hs x) _) (zii hs _) fun k=>?_
  rw[lk_del (zgs hs x),lk_del hs,lk_ins hs];split
  ·rfl
  ·rfl
 rw[h2]at h1;have h3:=zlX hs (key x);simp only[Option.isSome_some,if_true]at h1
 split at h3 <;> simp_all <;> omega
theorem znJ{g:Str→V→A}{d:V}{m:List (Str×V)}(hn:(m.map (·.1)).Nodup)(hk:∀k v,zu m k=some v→key (g k v)=k)(k:Str)(v:V)(hv:key (g k v)=k) :
  toL g d (zcy m k v)=ins key (g k v) (toL g d m):=by
 have hk':∀k' v',zu (zcy m k v) k'=some v'→key (g k' v')=k':=fun k' v' h=>by
  rw[zdo]at h;split at h
  ·rename_i e;subst e;cases h;exact hv
  ·exact hk _ _ h
 refine znP (zif (zfY hn k v) hk') (zgs (zif hn hk) _) fun k'=>?_
 rw[zkg hk',lk_ins (zif hn hk),zkg hk,zdo,hv];split
 ·rename_i e;subst e;rfl
 ·rfl
theorem znK{g:Str→V→A}{d:V}{m:List (Str×V)}(hn:(m.map (·.1)).Nodup)(hk:∀k v,zu m k=some v→key (g k v)=k)(k:Str) :
  toL g d (zka m k)=del key k (toL g d m):=by
 have hk':∀k' v',zu (zka m k) k'=some v'→key (g k' v')=k':=fun k' v' h=>by
  rw[zgd hn]at h;split at h
  ·cases h
  ·exact hk _ _ h
 refine znP (zif (zhz hn k) hk') (zii (zif hn hk) _) fun k'=>?_
 rw[zkg hk',lk_del (zif hn hk),zkg hk,zgd hn]
 split <;> rfl
def ofL(key:A→Str)(w:A→V)(l:List A):List (Str×V):=l.map fun x=>(key x,w x)
theorem aset_app(m:List (Str×V))(k:Str)(v:V)(h:k∉m.map (·.1)):zcy m k v=m++[(k,v)]:=by
 induction m with
 |nil=>rfl
 |cons p m ih =>
  have h1:¬ p.1=k:=fun e=>h (by simp[e])
  rw[zcy,decide_eq_false h1,cond_false,ih fun h'=>h (by simp at h'⊢;exact .inr h')];rfl
theorem ofL_keys(w:A→V)(l:List A):(ofL key w l).map (·.1)=l.map key:=by simp[ofL,Function.comp_def]
theorem zjc{w:A→V}{l:List A}(hs:Srt key l):((ofL key w l).map (·.1)).Nodup:=by
 rw[ofL_keys];exact(List.pairwise_map.2 (hs.imp fun h=>zlr h))
theorem zkX{w:A→V}{l:List A}(k:Str):zu (ofL key w l) k=(lk key l k).map w:=by
 unfold ofL lk
 induction l with
 |nil=>rfl
 |cons x l ih =>
  simp only[List.map_cons,zu,List.find?_cons]
  by_cases h:key x=k
  ·simp[h]
  ·rw[decide_eq_false h,cond_false,ih]
theorem ofLoop{Z:Type}{w:A→V}{f:Nat→A→List (Str×V)→(List (Str×V)→Option Z)→(List (Str×V)→Option Z)→Option Z}{k:List (Str×V)→Option Z}
  (hf:∀i x m nx k,f i x m nx k=chk ((zcy m (key x) (w x)).length≤274877906944) (nx (zcy m (key x) (w x)))) {l:List A} (hs:Srt key l) (hl:l.length≤274877906944) :
  forL l 0 f [] k=k (ofL key w l):=by
 have:∀(a b:List A) (i:Nat),l=a++b→forL b i f (ofL key w a) k=k (ofL key w l):=by
  intro a b
  induction b generalizing a with
  |nil=>intro i e;rw[List.append_nil]at e;subst e;rfl
  |cons x b ih =>
   intro i e;unfold forL
   have hx:key x∉(ofL key w a).map (·.1):=by
    rw[ofL_keys];intro h;obtain⟨y,hy,hyx⟩:=List.mem_map.1 h;have h1:=hs;unfold Srt at h1;rw[e,List.pairwise_append]at h1;exact zlr (h1.2.2 y hy x (List.mem_cons_self ..)) hyx
   have hap:zcy (ofL key w a) (key x) (w x)=ofL key w (a++[x]):=by
    rw[aset_app _ _ _ hx];simp[ofL]
   rw[hf,hap,zg]
   ·exact ih (a++[x]) (i+1) (by rw[e];simp)
   ·have:=congrArg List.length e
    simp only[List.length_append,List.length_cons]at this;simp only[ofL,List.length_map,List.length_append,List.length_cons,List.length_nil];omega
 exact this [] l 0 rfl
theorem toL_ofL{w:A→V}{g:Str→V→A}{d:V}{l:List A}(hs:Srt key l)(hg:∀x∈l,g (key x) (w x)=x):toL g d (ofL key w l)=l:=by
 have hk:∀k v,zu (ofL key w l) k=some v→key (g k v)=k:=fun k v h=>by
  rw[zkX]at h;obtain⟨x,hx,rfl⟩:=Option.map_eq_some_iff.1 h;obtain⟨h1,rfl⟩:=zdJ hx;rw[hg x h1]
 refine znP (zif (zjc hs) hk) hs fun k=>?_
 rw[zkg hk,zkX]
 cases h:lk key l k with
 |none=>rfl
 |some x =>
  obtain⟨h1,rfl⟩:=zdJ h;simp[hg x h1]
theorem ziz{Z:Type}{g:Str→V→A}{d:V}{m:List (Str×V)}{f:Nat→Str→List A→(List A→Option Z)→(List A→Option Z)→Option Z}{k:List A→Option Z}
  (hf:∀i x o nx k,f i x o nx k=chk ((o++[g x ((zu m x).getD d)]).length≤274877906944) (nx (o++[g x ((zu m x).getD d)]))) (hl:m.length≤274877906944) :
  forL (zgy m) 0 f [] k=k (toL g d m):=by
 have hk:=len_keysM m
 have:∀(a b:List Str) (i:Nat),zgy m=a++b→forL b i f (a.map fun x=>g x ((zu m x).getD d)) k=k (toL g d m):=by
  intro a b
  induction b generalizing a with
  |nil=>intro i e;rw[List.append_nil]at e;unfold toL;rw[e];rfl
  |cons x b ih =>
   intro i e;have h0:=congrArg List.length e;simp only[List.length_append,List.length_cons]at h0;unfold forL;rw[hf,zg (by simp only[List.length_append,List.length_map,List.length_cons,List.length_nil];omega)];have:=ih (a++[x]) (i+1) (by rw[e];simp);rw[List.map_append]at this;exact this
 exact this [] _ 0 rfl
end
def zhU(p d:Str):Bool:=decide (p.take (d.length+1)=d++[47])
theorem undB_app{p d:Str}(h:zhU p d=true):∃r,p=d++47::r:=by
 have:=of_decide_eq_true h;refine⟨p.drop (d.length+1),?_⟩
 conv=>lhs;rw[←List.take_append_drop (d.length+1) p,this]
 simp
theorem undB_of(d r:Str):zhU (d++47::r) d=true:=by
 unfold zhU;rw[decide_eq_true_eq,show d.length+1=(d++[47]).length by simp,show d++47::r=(d++[47])++r by simp,List.take_left]
theorem undB_lt{p d:Str}(h:zhU p d=true):d<p:=by
 obtain⟨r,rfl⟩:=undB_app h;exact slt_app _ _ (by simp)
theorem undB_at{p d:Str}:zhU p d=true↔∃i,∃h:i<p.length,p[i]=47∧d=p.take i:=by
 constructor
 ·intro h
  obtain⟨r,rfl⟩:=undB_app h;exact⟨d.length,by simp,by simp,by simp⟩
 ·rintro⟨i,h,h1,rfl⟩
  have:p=p.take i++47::p.drop (i+1):=by
   rw[←h1,←List.drop_eq_getElem_cons h,List.take_append_drop]
  conv=>lhs;arg 1;rw[this]
  exact undB_of _ _
theorem znI(p d:Str)(h:d.length<274877906944):zgM p d=some (zhU p d):=by
 unfold zgM zT zS zhU
 have hl:(d++[47]).length=d.length+1:=by simp
 rw[zg (by rw[hl];omega),zg (by intro h;simp only[decide_eq_true_eq]at h;omega)];simp only[zf,hl]
 congr 1
 by_cases hp:d.length+1≤p.length
 ·rw[decide_eq_true (by omega:((d.length+1:Nat):Int)≤(p.length:Int)),Bool.true_and]
 ·rw[decide_eq_false (by omega),Bool.false_and,eq_comm,decide_eq_false_iff_not]
  intro e;have:=congrArg List.length e;simp only[List.length_take,hl]at this;omega
theorem allI_iff{α:Type}{q:Nat→α→Bool}:∀(l:List α) (i:Nat),allI q i l=true↔∀j (h:j<l.length),q (i+j) l[j]=true
 |[],i=>by simp[allI]
 |x::l,i=>by
  unfold allI;rw[Bool.and_eq_true,allI_iff l (i+1)];constructor
  ·rintro⟨h1,h2⟩ j hj
   cases j with
   |zero=>exact h1
   |succ j=>have:=h2 j (by simpa using hj);rw[show i+(j+1)=i+1+j by omega];exact this
  ·intro h
   refine⟨h 0 (by simp),fun j hj=>?_⟩;have:=h (j+1) (by simpa using hj)
   rw[show i+1+j=i+(j+1)by omega];exact this
theorem abv_iff(m:Mp)(p:Str):abv m p=true↔∀d,zhU p d=true→(zu m d).getD false=false:=by
 unfold abv;rw[allI_iff];constructor
 ·intro h d hd
  obtain⟨i,hi,h1,rfl⟩:=undB_at.1 hd;have:=h i hi;unfold abvQ at this;rw[Nat.zero_add,h1]at this
  simpa using this
 ·intro h j hj
  unfold abvQ;rw[Nat.zero_add]
  cases hc:decide ((p[j].toNat:Int)=47)with
  |false=>rfl
  |true =>
   have h1:p[j]=47:=by
    have h2:p[j].toNat=47:=by simp only[decide_eq_true_eq]at hc;omega
    exact UInt8.toNat.inj h2
   rw[h _ (undB_at.2 ⟨j,hj,h1,rfl⟩)];rfl
theorem ord_eq(i:Nat)(a b:Str):ord i a b=(decide (0<i)&&!decide (b<a)):=by
 unfold ord strLe;rw[strLt_eq]
 congr 1
 ·exact decide_eq_decide.2 (by omega)
 ·rw[Bool.eq_iff_iff]
  simp only[Bool.or_eq_true,decide_eq_true_eq,Bool.not_eq_true',decide_eq_false_iff_not];constructor
  ·rintro(h|rfl)
   ·exact ziW h
   ·exact zjO _
  ·intro h
   rcases zjN a b with h1|h1|h1
   ·exact .inl h1
   ·exact .inr h1
   ·exact absurd h1 h
section
variable {α:Type} {nm:α→Str}
def Hd(nm:α→Str)(i:Nat)(last:Str):List α→Prop
 |[]=>True
 |x::_=>0<i→last<nm x
theorem srt_cons{x:α}{l:List α}{i:Nat}:Srt nm (x::l)↔Hd nm (i+1) (nm x) l∧Srt nm l:=by
 unfold Srt;rw[List.pairwise_cons]
 cases l with
 |nil=>simp[Hd]
 |cons y l =>
  simp only[Hd];constructor
  ·rintro⟨h1,h2⟩;exact⟨fun _=>h1 y (List.mem_cons_self ..),h2⟩
  ·rintro⟨h1,h2⟩
   refine⟨fun z hz=>?_,h2⟩
   rcases List.mem_cons.1 hz with rfl|hz
   ·exact h1 (by omega)
   ·exact zfQ (h1 (by omega)) ((List.pairwise_cons.1 h2).1 z hz)
theorem ord_false{i:Nat}{x:α}{l:List α}{last:Str}:ord i (nm x) last=false↔Hd nm i last (x::l):=by
 rw[ord_eq];simp only[Hd,Bool.and_eq_false_iff,decide_eq_false_iff_not,Bool.not_eq_false',decide_eq_true_eq];constructor
 ·rintro(h|h)
  ·intro h';exact absurd h' h
  ·exact fun _=>h
 ·intro h
  by_cases hi:0<i
  ·exact .inr (h hi)
  ·exact .inl hi
theorem znl{e:α→Int}:∀(l:List α) (i:Nat) (last:Str),zb8 e nm i last l=0↔(∀x∈l,e x=0)∧Srt nm l∧Hd nm i last l
 |[],i,last=>by simp[zb8,Srt,Hd]
 |x::l,i,last=>by
  unfold zb8
  by_cases h:e x=0
  ·rw[decide_eq_true h,Bool.not_true,cond_false]
   cases ho:ord i (nm x) last with
   |true =>
    have:¬ Hd nm i last (x::l):=fun hh=>by rw[ord_false.2 hh]at ho;cases ho
    simp[this]
   |false =>
    have hh:=(ord_false (l:=l)).1 ho;rw[cond_false,znl l,srt_cons (i:=i)];simp only[List.mem_cons,forall_eq_or_imp,h,true_and,hh,and_true];constructor
    ·rintro⟨h1,h2,h3⟩;exact⟨h1,h3,h2⟩
    ·rintro⟨h1,h3,h2⟩;exact⟨h1,h2,h3⟩
  ·rw[decide_eq_false h,Bool.not_false,cond_true]
   simp[h]
end
theorem zno:∀(l:List api_File) (i:Nat) (last:Str) (m:Mp),zhg i last m l=0 ↔
  (∀x∈l,zdN x=0)∧Srt (·.Path) l∧Hd (·.Path) i last l∧(∀x∈l,∀d,zhU x.Path d=true→(zu m d).getD false=false)∧l.Pairwise fun y x=>zhU x.Path y.Path=false
 |[],i,last,m=>by simp[zhg,Srt,Hd]
 |x::l,i,last,m=>by
  unfold zhg
  by_cases h:zdN x=0
  ·rw[decide_eq_true h,Bool.not_true,cond_false]
   cases ho:ord i x.Path last with
   |true =>
    have:¬ Hd (·.Path) i last (x::l):=fun hh=>by rw[(ord_false (nm:=fun x:api_File=>x.Path)).2 hh]at ho;cases ho
    simp[this]
   |false =>
    have hh:=(ord_false (nm:=fun x:api_File=>x.Path) (l:=l)).1 ho;rw[cond_false]
    cases ha:abv m x.Path with
    |false =>
     have:¬ ∀d,zhU x.Path d=true→(zu m d).getD false=false:=fun hh=>by rw[(abv_iff m x.Path).2 hh]at ha;cases ha
     rw[Bool.not_false,cond_true];simp[this]
    |true =>
     have ha':=(abv_iff m x.Path).1 ha;rw[Bool.not_true,cond_false,zno l,srt_cons (i:=i),List.pairwise_cons];simp only[List.mem_cons,forall_eq_or_imp,h,true_and,hh];constructor
     ·rintro⟨h1,h2,h3,h4,h5⟩
      refine⟨h1,⟨h3,h2⟩,⟨ha',fun y hy d hd=>?_⟩,fun y hy=>?_,h5⟩
      ·have:=h4 y hy d hd
       rw[zdo]at this;split at this
       ·cases this
       ·exact this
      ·cases hu:zhU y.Path x.Path with
       |false=>rfl
       |true =>
        have:=h4 y hy _ hu;rw[zdo,if_pos rfl]at this;cases this
     ·rintro⟨h1,⟨h3,h2⟩,⟨_,h4⟩,h6,h5⟩
      refine⟨h1,h2,h3,fun y hy d hd=>?_,h5⟩;rw[zdo];split
      ·rename_i e
       subst e
       rw[h6 y hy]at hd;cases hd
      ·exact h4 y hy d hd
  ·rw[decide_eq_false h,Bool.not_false,cond_true]
   simp[h]
structure Good(m:api_Machine):Prop where
 c1:m.Facts.length≤100
 c2:m.Files.length≤2000
 c3:m.Settings.length≤2000
 c4:m.Services.length≤100
 f1:∀x∈m.Facts,zkK x=0
 f2:Srt (·.Key) m.Facts
 g1:∀x∈m.Files,zdN x=0
 g2:Srt (·.Path) m.Files
 g3:∀x∈m.Files,∀y∈m.Files,zhU x.Path y.Path=false
 s1:∀x∈m.Settings,znq x=0
 s2:Srt (·.Key) m.Settings
 v1:∀x∈m.Services,zoz x=0
 v2:Srt (·.Name) m.Services
theorem hd0{α:Type}{nm:α→Str}{l:List α}{last:Str}:Hd nm 0 last l:=by
 cases l with
 |nil=>trivial
 |cons x l=>intro h;omega
theorem or2_zero(a b:Int):or2 a b=0↔a=0∧b=0:=by
 unfold or2
 by_cases h:a=0
 ·simp[h]
 ·rw[decide_eq_false h,Bool.not_false,cond_true]
  simp[h]
theorem pw_und{l:List api_File}(hs:Srt (·.Path) l):(l.Pairwise fun y x=>zhU x.Path y.Path=false)↔∀x∈l,∀y∈l,zhU x.Path y.Path=false:=by
 constructor
 ·intro h
  induction l with
  |nil=>intro x hx;cases hx
  |cons z l ih =>
   have hs':=List.pairwise_cons.1 hs;have h':=List.pairwise_cons.1 h
   have irr:∀p:Str,zhU p p=false:=fun p=>by
    cases hu:zhU p p with
    |false=>rfl
    |true=>exact absurd (undB_lt hu) (zjO _)
   have asy:∀a b:Str,a<b→zhU a b=false:=fun a b hab=>by
    cases hu:zhU a b with
    |false=>rfl
    |true=>exact absurd (undB_lt hu) (ziW hab)
   intro x hx y hy
   rcases List.mem_cons.1 hx with e|hx' <;> rcases List.mem_cons.1 hy with e'|hy'
   ·rw[e,e'];exact irr _
   ·subst e;exact asy _ _ (hs'.1 y hy')
   ·subst e';exact h'.1 x hx'
   ·exact ih hs'.2 h'.2 x hx' y hy'
 ·intro h
  exact List.pairwise_iff_forall_sublist.2 fun {a b} hab=>h b (hab.subset (by simp)) a (hab.subset (by simp))
theorem zgA(m:api_Machine):zjt m=0↔Good m:=by
 unfold zjt
 cases hB:(((decide (100<(m.Facts.length:Int)))||(decide (2000<(m.Files.length:Int))))||(decide (2000<(m.Settings.length:Int))))||(decide (100<(m.Services.length:Int)))with
 |true =>
  simp only[cond_true];simp only[Bool.or_eq_true,decide_eq_true_eq]at hB;constructor
  ·intro h;cases h
  ·intro h
   have:=h.c1;have:=h.c2;have:=h.c3;have:=h.c4;omega
 |false =>
  simp only[Bool.or_eq_false_iff,decide_eq_false_iff_not]at hB;simp only[cond_false,or2_zero,znl,zno];constructor
  ·rintro⟨⟨a1,a2,_⟩,⟨b1,b2,_,_,b3⟩,⟨d1,d2,_⟩,e1,e2,_⟩
   exact⟨by omega,by omega,by omega,by omega,a1,a2,b1,b2,(pw_und b2).1 b3,d1,d2,e1,e2⟩
  ·intro h
   exact⟨⟨h.f1,h.f2,hd0⟩,⟨h.g1,h.g2,hd0,fun _ _ _ _=>rfl,(pw_und h.g2).2 h.g3⟩,⟨h.s1,h.s2,hd0⟩,h.v1,h.v2,hd0⟩
theorem zbJ{p:Str}(h:zbz p=true):p.length≤200:=by
 unfold zbz at h;simp only[Bool.and_eq_true,decide_eq_true_eq]at h;omega
theorem zcH{f:api_File}(h:zdN f=0):zbz f.Path=true∧f.Data.length≤65536:=by
 unfold zdN at h
 cases hp:zbz f.Path <;> rw[hp]at h
 ·cases h
 ·simp only[Bool.not_true,cond_false]at h
  by_cases hd:65536<(f.Data.length:Int)
  ·rw[decide_eq_true hd]at h;cases h
  ·exact⟨rfl,by omega⟩
theorem zoA{s:api_Setting}(h:znq s=0):zbz s.Key=true∧zcP s.Value=true:=by
 unfold znq at h
 cases hp:zbz s.Key <;> cases hv:zcP s.Value <;> rw[hp,hv]at h <;> first|cases h;done|exact⟨rfl,rfl⟩
theorem zmb{s:api_Service}(h:zoz s=0):zbe s.Name=true∧zbz s.Path=true:=by
 unfold zoz at h
 cases hp:zbe s.Name <;> cases hv:zbz s.Path <;> rw[hp,hv]at h <;> first|cases h;done|exact⟨rfl,rfl⟩
theorem zne{p:Str}(h:zbe p=true):p.length≤40:=by
 unfold zbe at h;simp only[Bool.and_eq_true,decide_eq_true_eq]at h;omega
theorem valueOk_len{p:Str}(h:zcP p=true):p.length≤1000:=by
 unfold zcP at h;simp only[Bool.and_eq_true,decide_eq_true_eq]at h;omega
theorem Good.fit{m:api_Machine}(h:Good m):Fit m:=by
 have:=h.c1;have:=h.c2;have:=h.c3;have:=h.c4;refine⟨by omega,by omega,by omega,by omega,fun x hx=>?_,fun x hx=>?_,fun x hx=>?_⟩
 ·have:=zbJ (zcH (h.g1 x hx)).1
  unfold Sm;omega
 ·have:=zbJ (zoA (h.s1 x hx)).1
  unfold Sm;omega
 ·have:=zbJ (zmb (h.v1 x hx)).2
  unfold Sm;omega
def noMach:api_Machine:=⟨[],[],[],[]⟩
abbrev lkF(l:List api_File)(k:Str):=lk (fun x:api_File=>x.Path) l k
abbrev lkS(l:List api_Setting)(k:Str):=lk (fun x:api_Setting=>x.Key) l k
abbrev lkV(l:List api_Service)(k:Str):=lk (fun x:api_Service=>x.Name) l k
def zfG(p:Str)(f:api_File):Bool:=zhU f.Path p||zhU p f.Path
def zbB(c:api_Change)(M:api_Machine):Int×api_Machine :=
 bif !decide (eCh c=0)then(eCh c,M)else
 bif decide (c.Kind=2)then(bif !(lkF M.Files c.File.Path).isSome then(10,M)else(0,⟨M.Facts,del (·.Path) c.File.Path M.Files,M.Settings,M.Services⟩))else
 bif decide (c.Kind=4)then(bif !(lkS M.Settings c.Setting.Key).isSome then(10,M)else(0,⟨M.Facts,M.Files,del (·.Key) c.Setting.Key M.Settings,M.Services⟩))else
 bif decide (c.Kind=6)then(bif !(lkV M.Services c.Service.Name).isSome then(10,M)else(0,⟨M.Facts,M.Files,M.Settings,del (·.Name) c.Service.Name M.Services⟩))else
 bif decide (c.Kind=1)then(bif M.Files.any (zfG c.File.Path)then(11,M)else bif !(lkF M.Files c.File.Path).isSome&&decide (2000≤(M.Files.length:Int))then(4,M)else(0,⟨M.Facts,ins (·.Path) c.File M.Files,M.Settings,M.Services⟩))else
 bif decide (c.Kind=3)then(bif !(lkS M.Settings c.Setting.Key).isSome&&decide (2000≤(M.Settings.length:Int))then(4,M)else(0,⟨M.Facts,M.Files,ins (·.Key) c.Setting M.Settings,M.Services⟩))else
 (bif !(lkV M.Services c.Service.Name).isSome&&decide (100≤(M.Services.length:Int))then(4,M)else(0,⟨M.Facts,M.Files,M.Settings,ins (·.Name) c.Service M.Services⟩))
def zcU:List api_Change→api_Machine→api_Machine×Int
 |[],M=>(M,0)
 |c::l,M=>bif !decide ((zbB c M).1=0)then(noMach,(zbB c M).1)else zcU l (zbB c M).2
def zmo(M:api_Machine)(l:List api_Change):api_Machine×Int:=bif !decide (zjt M=0)then(noMach,zjt M)else zcU l M
theorem ziu:(decide ((1:Int)=1)=true∧decide ((1:Int)=2)=false∧decide ((1:Int)=3)=false∧decide ((1:Int)=4)=false∧decide ((1:Int)=5)=false∧decide ((1:Int)=6)=false) ∧
  (decide ((2:Int)=1)=false∧decide ((2:Int)=2)=true∧decide ((2:Int)=3)=false∧decide ((2:Int)=4)=false∧decide ((2:Int)=5)=false∧decide ((2:Int)=6)=false) ∧
  (decide ((3:Int)=1)=false∧decide ((3:Int)=2)=false∧decide ((3:Int)=3)=true∧decide ((3:Int)=4)=false∧decide ((3:Int)=5)=false∧decide ((3:Int)=6)=false) ∧
  (decide ((4:Int)=1)=false∧decide ((4:Int)=2)=false∧decide ((4:Int)=3)=false∧decide ((4:Int)=4)=true∧decide ((4:Int)=5)=false∧decide ((4:Int)=6)=false) ∧
  (decide ((5:Int)=1)=false∧decide ((5:Int)=2)=false∧decide ((5:Int)=3)=false∧decide ((5:Int)=4)=false∧decide ((5:Int)=5)=true∧decide ((5:Int)=6)=false) ∧
  (decide ((6:Int)=1)=false∧decide ((6:Int)=2)=false∧decide ((6:Int)=3)=false∧decide ((6:Int)=4)=false∧decide ((6:Int)=5)=false∧decide ((6:Int)=6)=true):=by decide
theorem zoB{c:api_Change}(h:eCh c=0):c.Kind=1∨c.Kind=2∨c.Kind=3∨c.Kind=4∨c.Kind=5∨c.Kind=6:=kinds6 (zhF h).1
theorem eCh_put{c:api_Change}(h:eCh c=0)(hk:c.Kind=1):zdN c.File=0:=by
 have:=(zhF h).2.1;unfold zmc at this;rw[hk]at this;exact this
theorem eCh_set{c:api_Change}(h:eCh c=0)(hk:c.Kind=3):znq c.Setting=0:=by
 have:=(zhF h).2.1;unfold zmc at this;rw[hk]at this;exact this
theorem eCh_svc{c:api_Change}(h:eCh c=0)(hk:c.Kind=5):zoz c.Service=0:=by
 have:=(zhF h).2.1;unfold zmc at this;rw[hk]at this;exact this
theorem clash_irr(p:Str):zhU p p=false:=by
 cases hu:zhU p p with
 |false=>rfl
 |true=>exact absurd (undB_lt hu) (zjO _)
theorem zjo{M:api_Machine}(h:Good M)(c:api_Change):Good (zbB c M).2:=by
 unfold zbB
 by_cases he:eCh c=0
 ·rw[decide_eq_true he,Bool.not_true,cond_false]
  have hc1:=h.c1;have hc2:=h.c2;have hc3:=h.c3;have hc4:=h.c4
  rcases zoB he with e|e|e|e|e|e
  all_goals simp only[e,ziu,decide_true,cond_true,cond_false]
  ·cases ha:M.Files.any (zfG c.File.Path)
   ·simp only[cond_false]
    cases hb:!(lkF M.Files c.File.Path).isSome&&decide (2000≤(M.Files.length:Int))
    ·simp only[cond_false]
     have hcl:∀x∈M.Files,zhU x.Path c.File.Path=false∧zhU c.File.Path x.Path=false:=fun x hx=>by
      have:=List.any_eq_false.1 ha x hx
      simpa [zfG]using this
     refine { h with c2:=?_,g1:=?_,g2:=zgs h.g2 _,g3:=?_ }
     ·show(ins (fun x:api_File=>x.Path) c.File M.Files).length≤2000
      rw[zis h.g2];simp only[Bool.and_eq_false_iff,Bool.not_eq_false',decide_eq_false_iff_not]at hb
      rcases hb with hb|hb
      ·rw[if_pos hb];omega
      ·split <;> omega
     ·intro x hx
      rcases mem_ins.1 hx with rfl|⟨hx,_⟩
      ·exact eCh_put he e
      ·exact h.g1 x hx
     ·intro x hx y hy
      rcases mem_ins.1 hx with rfl|⟨hx,_⟩ <;> rcases mem_ins.1 hy with rfl|⟨hy,_⟩
      ·exact clash_irr _
      ·exact(hcl y hy).2
      ·exact(hcl x hx).1
      ·exact h.g3 x hx y hy
    ·exact h
   ·exact h
  ·cases hb:!(lkF M.Files c.File.Path).isSome
   ·simp only[cond_false]
    refine { h with c2:=?_,g1:=?_,g2:=zii h.g2 _,g3:=?_ }
    ·have:=zlX h.g2 c.File.Path
     show(del (fun x:api_File=>x.Path) c.File.Path M.Files).length≤2000
     omega
    ·intro x hx;exact h.g1 x (mem_del.1 hx).1
    ·intro x hx y hy;exact h.g3 x (mem_del.1 hx).1 y (mem_del.1 hy).1
   ·exact h
  ·cases hb:!(lkS M.Settings c.Setting.Key).isSome&&decide (2000≤(M.Settings.length:Int))
   ·simp only[cond_false]
    refine { h with c3:=?_,s1:=?_,s2:=zgs h.s2 _ }
    ·show(ins (fun x:api_Setting=>x.Key) c.Setting M.Settings).length≤2000
     rw[zis h.s2];simp only[Bool.and_eq_false_iff,Bool.not_eq_false',decide_eq_false_iff_not]at hb
     rcases hb with hb|hb
     ·rw[if_pos hb];omega
     ·split <;> omega
    ·intro x hx
     rcases mem_ins.1 hx with rfl|⟨hx,_⟩
     ·exact eCh_set he e
     ·exact h.s1 x hx
   ·exact h
  ·cases hb:!(lkS M.Settings c.Setting.Key).isSome
   ·simp only[cond_false]
    refine { h with c3:=?_,s1:=?_,s2:=zii h.s2 _ }
    ·have:=zlX h.s2 c.Setting.Key
     show(del (fun x:api_Setting=>x.Key) c.Setting.Key M.Settings).length≤2000
     omega
    ·intro x hx;exact h.s1 x (mem_del.1 hx).1
   ·exact h
  ·cases hb:!(lkV M.Services c.Service.Name).isSome&&decide (100≤(M.Services.length:Int))
   ·simp only[cond_false]
    refine { h with c4:=?_,v1:=?_,v2:=zgs h.v2 _ }
    ·show(ins (fun x:api_Service=>x.Name) c.Service M.Services).length≤100
     rw[zis h.v2];simp only[Bool.and_eq_false_iff,Bool.not_eq_false',decide_eq_false_iff_not]at hb
     rcases hb with hb|hb
     ·rw[if_pos hb];omega
     ·split <;> omega
    ·intro x hx
     rcases mem_ins.1 hx with rfl|⟨hx,_⟩
     ·exact eCh_svc he e
     ·exact h.v1 x hx
   ·exact h
  ·cases hb:!(lkV M.Services c.Service.Name).isSome
   ·simp only[cond_false]
    refine { h with c4:=?_,v1:=?_,v2:=zii h.v2 _ }
    ·have:=zlX h.v2 c.Service.Name
     show(del (fun x:api_Service=>x.Name) c.Service.Name M.Services).length≤100
     omega
    ·intro x hx;exact h.v1 x (mem_del.1 hx).1
   ·exact h
 ·rw[decide_eq_false he];exact h
abbrev gF:Str→api_File→api_File:=fun _ v=>v
abbrev gV:Str→api_Service→api_Service:=fun _ v=>v
structure Wr(m1:List (Str×api_File))(m2:List (Str×Str))(m3:List (Str×api_Service))(M:api_Machine):Prop where
 n1:(m1.map (·.1)).Nodup
 n2:(m2.map (·.1)).Nodup
 n3:(m3.map (·.1)).Nodup
 k1:∀k v,zu m1 k=some v→v.Path=k
 k3:∀k v,zu m3 k=some v→v.Name=k
 e1:toL gF zaQ m1=M.Files
 e2:toL api_Setting.mk [] m2=M.Settings
 e3:toL gV zcf m3=M.Services
theorem clone_set(l:List api_Setting)(h:l.length≤274877906944):zN l=some l:=by
 unfold zN
 refine ziI ⟨false,fun h=>by cases h⟩ fun b hb=>?_
 cases b with
 |true=>rw[hb rfl];rfl
 |false=>rw[cond_false,zg (by simpa using h)];rfl
theorem zcC{M:api_Machine}(h:Good M):∃m1 m2 m3,zbP M=some (m1,m2,m3,M.Facts)∧Wr m1 m2 m3 M:=by
 have hc2:=h.c2;have hc3:=h.c3;have hc4:=h.c4;refine⟨ofL (·.Path) id M.Files,ofL (·.Key) (·.Value) M.Settings,ofL (·.Name) id M.Services,?_,?_⟩
 ·unfold zbP
  simp only[zaw];refine(ofLoop (key:=fun x:api_File=>x.Path) (w:=id) (fun _ _ _ _ _=>rfl) h.g2 (by omega)).trans ?_;refine(ofLoop (key:=fun x:api_Setting=>x.Key) (w:=fun x=>x.Value) (fun _ _ _ _ _=>rfl) h.s2 (by omega)).trans ?_;exact ofLoop (key:=fun x:api_Service=>x.Name) (w:=id) (fun _ _ _ _ _=>rfl) h.v2 (by omega)
 ·refine⟨zjc h.g2,zjc h.s2,zjc h.v2,fun k v hv=>?_,fun k v hv=>?_,toL_ofL h.g2 fun _ _=>rfl,toL_ofL h.s2 fun _ _=>rfl,toL_ofL h.v2 fun _ _=>rfl⟩
  ·rw[zkX]at hv
   obtain⟨x,hx,rfl⟩:=Option.map_eq_some_iff.1 hv;exact(zdJ hx).2
  ·rw[zkX]at hv
   obtain⟨x,hx,rfl⟩:=Option.map_eq_some_iff.1 hv;exact(zdJ hx).2
section
variable {m1:List (Str×api_File)} {m2:List (Str×Str)} {m3:List (Str×api_Service)} {M:api_Machine}
theorem Wr.l1(h:Wr m1 m2 m3 M):m1.length=M.Files.length:=by rw[←h.e1,toL_len]
theorem Wr.l2(h:Wr m1 m2 m3 M):m2.length=M.Settings.length:=by rw[←h.e2,toL_len]
theorem Wr.l3(h:Wr m1 m2 m3 M):m3.length=M.Services.length:=by rw[←h.e3,toL_len]
theorem Wr.look1(h:Wr m1 m2 m3 M)(k:Str):zu m1 k=lkF M.Files k:=by
 rw[←h.e1];refine Eq.trans ?_ (zkg (key:=fun x:api_File=>x.Path) (g:=gF) (d:=zaQ) h.k1 k).symm
 cases zu m1 k <;> rfl
theorem Wr.look2(h:Wr m1 m2 m3 M)(k:Str):(zu m2 k).map (api_Setting.mk k)=lkS M.Settings k:=by
 rw[←h.e2];exact(zkg (key:=fun x:api_Setting=>x.Key) (g:=api_Setting.mk) (fun _ _ _=>rfl) k).symm
theorem Wr.look3(h:Wr m1 m2 m3 M)(k:Str):zu m3 k=lkV M.Services k:=by
 rw[←h.e3];refine Eq.trans ?_ (zkg (key:=fun x:api_Service=>x.Name) (g:=gV) (d:=zcf) h.k3 k).symm
 cases zu m3 k <;> rfl
theorem Wr.is2(h:Wr m1 m2 m3 M)(k:Str):(zu m2 k).isSome=(lkS M.Settings k).isSome:=by
 rw[←h.look2,Option.isSome_map]
theorem Wr.mem1(h:Wr m1 m2 m3 M){p:Str×api_File}(hp:p∈m1):p.2∈M.Files∧p.2.Path=p.1:=by
 have:=mem_alook h.n1 hp;exact⟨(zdJ ((h.look1 _).symm.trans this)).1,h.k1 _ _ this⟩
theorem Wr.put1(h:Wr m1 m2 m3 M)(f:api_File):Wr (zcy m1 f.Path f) m2 m3 ⟨M.Facts,ins (·.Path) f M.Files,M.Settings,M.Services⟩ :=
 { h with
  n1:=zfY h.n1 _ _
  k1:=fun k v hv=>by
   rw[zdo]at hv;split at hv
   ·rename_i e;cases hv;exact e
   ·exact h.k1 _ _ hv
  e1:=by rw[←h.e1];exact znJ (key:=fun x:api_File=>x.Path) (g:=gF) h.n1 h.k1 _ _ rfl }
theorem Wr.put2(h:Wr m1 m2 m3 M)(f:api_Setting):Wr m1 (zcy m2 f.Key f.Value) m3 ⟨M.Facts,M.Files,ins (·.Key) f M.Settings,M.Services⟩ :=
 { h with
  n2:=zfY h.n2 _ _
  e2:=by rw[←h.e2];exact znJ (key:=fun x:api_Setting=>x.Key) (g:=api_Setting.mk) h.n2 (fun _ _ _=>rfl) _ _ rfl }
theorem Wr.put3(h:Wr m1 m2 m3 M)(f:api_Service):Wr m1 m2 (zcy m3 f.Name f) ⟨M.Facts,M.Files,M.Settings,ins (·.Name) f M.Services⟩ :=
 { h with
  n3:=zfY h.n3 _ _
  k3:=fun k v hv=>by
   rw[zdo]at hv;split at hv
   ·rename_i e;cases hv;exact e
   ·exact h.k3 _ _ hv
  e3:=by rw[←h.e3];exact znJ (key:=fun x:api_Service=>x.Name) (g:=gV) h.n3 h.k3 _ _ rfl }
theorem Wr.del1(h:Wr m1 m2 m3 M)(k:Str):Wr (zka m1 k) m2 m3 ⟨M.Facts,del (·.Path) k M.Files,M.Settings,M.Services⟩ :=
 { h with
  n1:=zhz h.n1 _
  k1:=fun k v hv=>by
   rw[zgd h.n1]at hv;split at hv
   ·cases hv
   ·exact h.k1 _ _ hv
  e1:=by rw[←h.e1];exact znK (key:=fun x:api_File=>x.Path) (g:=gF) h.n1 h.k1 _ }
theorem Wr.del2(h:Wr m1 m2 m3 M)(k:Str):Wr m1 (zka m2 k) m3 ⟨M.Facts,M.Files,del (·.Key) k M.Settings,M.Services⟩ :=
 { h with
  n2:=zhz h.n2 _
  e2:=by rw[←h.e2];exact znK (key:=fun x:api_Setting=>x.Key) (g:=api_Setting.mk) h.n2 (fun _ _ _=>rfl) _ }
theorem Wr.del3(h:Wr m1 m2 m3 M)(k:Str):Wr m1 m2 (zka m3 k) ⟨M.Facts,M.Files,M.Settings,del (·.Name) k M.Services⟩ :=
 { h with
  n3:=zhz h.n3 _
  k3:=fun k v hv=>by
   rw[zgd h.n3]at hv;split at hv
   ·cases hv
   ·exact h.k3 _ _ hv
  e3:=by rw[←h.e3];exact znK (key:=fun x:api_Service=>x.Name) (g:=gV) h.n3 h.k3 _ }
theorem zf0(h:Wr m1 m2 m3 M)(hM:Good M):zW M.Facts m1 m2 m3=some M:=by
 have h1:=h.l1;have h2:=h.l2;have h3:=h.l3;have hc1:=hM.c1;have hc2:=hM.c2;have hc3:=hM.c3;have hc4:=hM.c4;have e1:zaa m1=some (zgy m1):=zer m1 (by omega);have e2:zaM m2=some (zgy m2):=zer m2 (by omega);have e3:zab m3=some (zgy m3):=zer m3 (by omega);unfold zW;simp only[zaw,clone_set _ (show M.Facts.length≤274877906944 by omega),zf,e1,e2,e3];refine(ziz (g:=gF) (d:=zaQ) (m:=m1) (fun _ _ _ _ _=>rfl) (by omega)).trans ?_;refine(ziz (g:=api_Setting.mk) (d:=[]) (m:=m2) (fun _ _ _ _ _=>rfl) (by omega)).trans ?_;refine(ziz (g:=gV) (d:=zcf) (m:=m3) (fun _ _ _ _ _=>rfl) (by omega)).trans ?_;rw[h.e1,h.e2,h.e3]
theorem do_eq(h:Wr m1 m2 m3 M)(hM:Good M)(c:api_Change)(hc:SmC c)(o:List api_Setting) :
  ∃a b d,zbX c o m1 m2 m3=some ((zbB c M).1,a,b,d)∧Wr a b d (zbB c M).2:=by
 have h1:=h.l1;have h2:=h.l2;have h3:=h.l3;have hc1:=hM.c1;have hc2:=hM.c2;have hc3:=hM.c3;have hc4:=hM.c4;unfold zbX zbB;rw[zmu c hc,zf]
 by_cases he:eCh c=0
 ·rw[decide_eq_true he,Bool.not_true,cond_false]
  simp only[zaw,zhb,h.look1,h.look3,h.is2,h1,h2,h3]
  rcases zoB he with e|e|e|e|e|e
  all_goals simp only[e,ziu,decide_true,cond_true,cond_false]
  ·have hp:=zbJ (zcH (eCh_put he e)).1
   have hfor:∀(X:Int×List (Str×api_File)×List (Str×Str)×List (Str×api_Service)) (k:Unit→Option (Int×List (Str×api_File)×List (Str×Str)×List (Str×api_Service))) (Y:Int×List (Str×api_File)×List (Str×Str)×List (Str×api_Service)),k ()=some Y →
     forM (fun(e_260:Str×api_File) (s:Unit) nx_254 k_253 =>
      call (zgM e_260.1 c.File.Path) fun r_262 =>
      callG (!r_262) (zgM c.File.Path e_260.1) false fun r_263 =>
      bif (r_262||r_263)then some X else nx_254 ()) M.Files.length m1 () k=some (bif M.Files.any (zfG c.File.Path)then X else Y):=by
    intro X k Y hk
    have hany:M.Files.any (zfG c.File.Path)=m1.any fun p=>zfG c.File.Path p.2:=by
     rw[Bool.eq_iff_iff];simp only[List.any_eq_true];constructor
     ·rintro⟨x,hx,hx'⟩
      exact⟨(x.Path,x),zmp ((h.look1 _).trans (zh4 hM.g2 hx)),hx'⟩
     ·rintro⟨p,hp',hx'⟩
      exact⟨p.2,(h.mem1 hp').1,hx'⟩
    rw[hany];refine zk4 (fun r _=>(∀p∈r,p∈m1)∧(m1.any fun p=>zfG c.File.Path p.2)=r.any fun p=>zfG c.File.Path p.2) (fun s hs=>?_) (fun r s nx x j hr hx hnx=>?_) _ _ _ h1 ⟨fun _ h=>h,rfl⟩
    ·rw[hs.2];exact hk
    ·have hxm:=hr.1 x (List.mem_of_getElem? hx)
     obtain⟨q1,q2⟩:=h.mem1 hxm;have hl:=zbJ (zcH (hM.g1 _ q1)).1;rw[q2]at hl;rw[znI _ _ (by omega),znI _ _ (by omega),zf,zad]
     have hcl:zfG c.File.Path x.2=(zhU x.1 c.File.Path||zhU c.File.Path x.1):=by unfold zfG;rw[q2]
     have hp2:=zeR hx
     have hany2:(r.any fun p=>zfG c.File.Path p.2)=(zfG c.File.Path x.2||(r.eraseIdx j).any fun p=>zfG c.File.Path p.2):=by
      rw[Bool.eq_iff_iff];simp only[Bool.or_eq_true,List.any_eq_true];constructor
      ·rintro⟨y,hy,hy'⟩
       rcases List.mem_cons.1 (hp2.mem_iff.1 hy)with rfl|hy
       ·exact .inl hy'
       ·exact .inr ⟨y,hy,hy'⟩
      ·rintro(hy'|⟨y,hy,hy'⟩)
       ·exact⟨x,hp2.mem_iff.2 (List.mem_cons_self ..),hy'⟩
       ·exact⟨y,hp2.mem_iff.2 (List.mem_cons_of_mem _ hy),hy'⟩
     cases hu:zhU x.1 c.File.Path with
     |true =>
      rw[hu,Bool.true_or]at hcl;rw[Bool.true_or,cond_true,hr.2,hany2,hcl,Bool.true_or,cond_true]
     |false =>
      rw[hu,Bool.false_or]at hcl;rw[Bool.false_or,Bool.not_false,cond_true]
      cases hv:zhU c.File.Path x.1 with
      |true =>
       rw[hv]at hcl;rw[cond_true,hr.2,hany2,hcl,Bool.true_or,cond_true]
      |false =>
       rw[hv]at hcl;rw[hcl,Bool.false_or]at hany2;rw[cond_false];exact hnx () ⟨fun p hp=>hr.1 p (hp2.mem_iff.2 (List.mem_cons_of_mem _ hp)),hr.2.trans hany2⟩
   have ha:=zjf m1 c.File.Path c.File
   have ha':(zcy m1 c.File.Path c.File).length≤274877906944:=by split at ha <;> omega
   rw[zg ha'];rw[hfor _ _ (bif !(lkF M.Files c.File.Path).isSome&&decide (2000≤(M.Files.length:Int))then(4,m1,m2,m3)else(0,zcy m1 c.File.Path c.File,m2,m3)) (zeX _ _ _)];cases M.Files.any (zfG c.File.Path)
   ·simp only[cond_false]
    cases !(lkF M.Files c.File.Path).isSome&&decide (2000≤(M.Files.length:Int))
    ·exact⟨_,_,_,rfl,h.put1 _⟩
    ·exact⟨_,_,_,rfl,h⟩
   ·exact⟨_,_,_,rfl,h⟩
  ·cases (lkF M.Files c.File.Path).isSome
   ·exact⟨_,_,_,rfl,h⟩
   ·exact⟨_,_,_,rfl,h.del1 _⟩
  ·have ha:=zjf m2 c.Setting.Key c.Setting.Value
   have ha':(zcy m2 c.Setting.Key c.Setting.Value).length≤274877906944:=by split at ha <;> omega
   rw[zg ha'];cases !(lkS M.Settings c.Setting.Key).isSome&&decide (2000≤(M.Settings.length:Int))
   ·exact⟨_,_,_,rfl,h.put2 _⟩
   ·exact⟨_,_,_,rfl,h⟩
  ·cases (lkS M.Settings c.Setting.Key).isSome
   ·exact⟨_,_,_,rfl,h⟩
   ·exact⟨_,_,_,rfl,h.del2 _⟩
  ·have ha:=zjf m3 c.Service.Name c.Service
   have ha':(zcy m3 c.Service.Name c.Service).length≤274877906944:=by split at ha <;> omega
   rw[zg ha'];cases !(lkV M.Services c.Service.Name).isSome&&decide (100≤(M.Services.length:Int))
   ·exact⟨_,_,_,rfl,h.put3 _⟩
   ·exact⟨_,_,_,rfl,h⟩
  ·cases (lkV M.Services c.Service.Name).isSome
   ·exact⟨_,_,_,rfl,h⟩
   ·exact⟨_,_,_,rfl,h.del3 _⟩
 ·rw[decide_eq_false he]
  exact⟨_,_,_,rfl,h⟩
end
theorem zjL(c:api_Change)(M:api_Machine):(zbB c M).2.Facts=M.Facts:=by
 unfold zbB;generalize hg1:(!decide (eCh c=0))=b1;generalize decide (c.Kind=2)=b2;generalize decide (c.Kind=4)=b3;generalize decide (c.Kind=6)=b4;generalize decide (c.Kind=1)=b5;generalize decide (c.Kind=3)=b6
 cases b1 <;> cases b2 <;> cases b3 <;> cases b4 <;> cases b5 <;> cases b6 <;> simp only[cond_true,cond_false] <;> (first|rfl|(split <;> rfl)|skip)
 all_goals repeat' (first|rfl|(rw[Bool.cond_eq_ite];split))
theorem zhL(M:api_Machine)(hf:Fit M)(l:List api_Change)(hl:∀c∈l,SmC c):zfI M l=some (zmo M l):=by
 unfold zfI zmo;rw[znB M hf,zf]
 by_cases h0:zjt M=0
 ·rw[decide_eq_true h0,Bool.not_true,cond_false,cond_false]
  have hM:=(zgA M).1 h0;obtain⟨m1,m2,m3,e,hw⟩:=zcC hM;rw[e,zf];simp only[zaw]
  have:∀(l:List api_Change) (i:Nat) (m1:List (Str×api_File)) (m2:List (Str×Str)) (m3:List (Str×api_Service)) (N:api_Machine),(∀c∈l,SmC c)→Good N→N.Facts=M.Facts→Wr m1 m2 m3 N →
    forL l i (fun i_36 c_38 s nx_35 k_34 =>
     match s with
     |(m3_29,m4_30,m5_31) =>
      call (zbX c_38 M.Facts m3_29 m4_30 m5_31) fun r_39 =>
      bif !decide (r_39.1=0)then
       some ((api_Machine.mk [] [] [] []),r_39.1)
      else
      nx_35 (r_39.2.1,r_39.2.2.1,r_39.2.2.2)) (m1,m2,m3) (fun s=>match s with
     |(m3_29,m4_30,m5_31) =>
      call (zW M.Facts m3_29 m4_30 m5_31) fun r_24 =>
       some (r_24,(0:Int)))=some (zcU l N):=by
   intro l
   induction l with
   |nil =>
    intro i m1 m2 m3 N _ hN hF hw;unfold forL;simp only
    rw[←hF,zf0 hw hN,zf];rfl
   |cons c l ih =>
    intro i m1 m2 m3 N hc hN hF hw;unfold forL;simp only;obtain⟨a,b,d,e,hw'⟩:=do_eq hw hN c (hc c (List.mem_cons_self ..)) M.Facts;rw[e,zf];simp only[zcU];rw[ih _ _ _ _ _ (fun x hx=>hc x (List.mem_cons_of_mem _ hx)) (zjo hN c) ((zjL c N).trans hF) hw'];exact zeX _ _ _
  exact this l 0 m1 m2 m3 M hl hM rfl hw
 ·rw[decide_eq_false h0];rfl
def Ends{Z:Type}(m:Option Z)(P:Z→Prop):Prop:=∃z,m=some z∧P z
section
variable {Z A S α:Type} {P:Z→Prop}
theorem Ends.call{a:Option A}{k:A→Option Z}{Q:A→Prop}(h:Ends a Q)(hk:∀x,Q x→Ends (k x) P):Ends (Vc.call a k) P:=by
 obtain⟨x,rfl,hx⟩:=h;exact hk x hx
theorem forL_ex{f:Nat→α→S→(S→Option Z)→(S→Option Z)→Option Z}{k:S→Option Z}(inv:Nat→List α→S→Prop)
  (h0:∀i s,inv i [] s→Ends (k s) P) (h1:∀i x l s nx,inv i (x::l) s→(∀s',inv (i+1) l s'→Ends (nx s') P)→Ends (f i x s nx k) P) :
  ∀(l:List α) (i:Nat) (s:S),inv i l s→Ends (forL l i f s k) P
 |[],i,s,h=>h0 i s h
 |x::l,i,s,h=>h1 i x l s _ h fun s' hs=>forL_ex inv h0 h1 l (i+1) s' hs
theorem loopN_ex{f:S→(S→Option Z)→(S→Option Z)→Option Z}{k:S→Option Z}(inv:S→Prop)(mu:S→Nat)
  (h:∀s nx,inv s→(∀s',inv s'→mu s'<mu s→Ends (nx s') P)→Ends (f s nx k) P):∀(N:Nat) (s:S),inv s→mu s<N→Ends (loopN N f s k) P
 |0,s,_,hm=>by omega
 |N+1,s,hi,hm=>by
  unfold loopN
  exact h s _ hi fun s' hs' hlt=>loopN_ex inv mu h N s' hs' (by omega)
theorem zf1{f:S→(S→Option Z)→(S→Option Z)→Option Z}{k:S→Option Z}(inv:S→Prop)(mu:S→Nat)
  (h:∀s nx,inv s→(∀s',inv s'→mu s'<mu s→Ends (nx s') P)→Ends (f s nx k) P) (s:S) (hi:inv s) (hm:mu s<1099511627776):Ends (loopN zib f s k) P:=by
 obtain⟨N,hN⟩:∃N,zib=N:=⟨_,rfl⟩;have hN2:1099511627776≤N:=hN ▸ zgC;rw[hN];exact loopN_ex inv mu h N s hi (by omega)
end
abbrev kAt(o:List api_Setting)(p:Nat):Str:=(o.getD p (api_Setting.mk [] [])).Key
theorem fit1_eq(a b:api_Setting):zjB a b=some (cmpB a.Key b.Key):=rfl
theorem zor{α:Type}(o:List α)(i p:Nat)(x d:α)(h:i<o.length):(o.set i x).getD p d=if i=p then x else o.getD p d:=by
 simp only[List.getD_eq_getElem?_getD,List.getElem?_set]
 by_cases e:i=p
 ·subst e;simp[h]
 ·simp[e]
theorem zos{α:Type}(o:List α)(i:Nat)(d:α)(h:i<o.length):o.getD i d∈o:=by
 simp only[List.getD_eq_getElem?_getD,List.getElem?_eq_getElem h,Option.getD_some];exact List.getElem_mem h
structure Sorted(o0 o:List api_Setting):Prop where
 len:o.length=o0.length
 sub:∀x∈o,x∈o0
 ord:∀p q,p<q→q<o.length→¬ kAt o q<kAt o p
theorem insSort(o0:List api_Setting)(hn:o0.length≤1073741824):Ends (zk 0 (o0.length:Int) o0) (Sorted o0):=by
 unfold zk;rw[show IntKind.i64.wrap ((0:Int)+1)=((1:Nat):Int)from rfl];refine zf1 (fun st:Int×List api_Setting=>∃i:Nat,st.1=i∧1≤i∧(i≤o0.length∨i=1)∧st.2.length=o0.length∧(∀x∈st.2,x∈o0)∧∀p q,p<q→q<i→q<o0.length→¬ kAt st.2 q<kAt st.2 p) (fun st=>o0.length-st.1.toNat) ?_ _ ⟨1,rfl,by omega,by omega,rfl,fun _ h=>h,fun p q h1 h2=>by omega⟩ (by simp only;omega);rintro⟨i',o⟩ nx ⟨i,rfl,hi1,hi,hl,hs,ho⟩ hnx;simp only at hl hs ho hnx⊢
 by_cases hlt:i<o0.length
 ·rw[decide_eq_true (by omega),cond_true,zaw]
  refine zf1 (fun st:Int×List api_Setting=>∃j:Nat,st.1=j∧j≤i∧st.2.length=o0.length∧(∀x∈st.2,x∈o0)∧∀p q,p<q→q≤i→q≠j→¬ kAt st.2 q<kAt st.2 p) (fun st=>st.1.toNat) ?_ _ ⟨i,rfl,Nat.le_refl _,hl,hs,fun p q h1 h2 h3=>ho p q h1 (by omega) (by omega)⟩ (by simp only;omega);rintro⟨j',o1⟩ nx1 ⟨j,rfl,hj,hl1,hs1,ho1⟩ hnx1;simp only at hl1 hs1 ho1 hnx1⊢
  have hend:(j=0∨¬ kAt o1 j<kAt o1 (j-1))→Ends (nx (IntKind.i64.wrap ((i:Int)+1),o1)) (Sorted o0):=by
   intro hj0;rw[ze2 i (by omega)];refine hnx _ ⟨i+1,rfl,by omega,by omega,hl1,hs1,fun p q h1 h2 h3=>?_⟩ (by simp only;omega)
   by_cases hq:q=j
   ·subst hq
    rcases hj0 with hj0|hj0
    ·omega
    ·by_cases hp:p=q-1
     ·rw[hp];exact hj0
     ·have h4:=ho1 p (q-1) (by omega) (by omega) (by omega)
      intro h5
      rcases zjN (kAt o1 q) (kAt o1 (q-1))with h6|h6|h6
      ·exact hj0 h6
      ·exact h4 (h6 ▸ h5)
      ·exact h4 (zfQ h6 h5)
   ·exact ho1 p q h1 (by omega) hq
  by_cases hj0:0<j
  ·have hw:IntKind.i64.wrap ((j:Int)-1)=((j-1:Nat):Int):=wrapm1 _ hj0 (by omega)
   simp only[hw];rw[decide_eq_true (by omega),zg (by intro _;omega),zg (by intro _;omega),zj6,fit1_eq,zf,Bool.true_and,cmpB_lt];simp only[Int.toNat_natCast]
   by_cases hc:kAt o1 j<kAt o1 (j-1)
   ·rw[decide_eq_true hc,cond_true,zg (by omega),zg (by omega),zg (by omega),zg (by simp only[List.length_set];omega)]
    refine hnx1 _ ⟨j-1,rfl,by omega,by simpa using hl1,fun x hx=>?_,fun p q h1 h2 h3=>?_⟩ (by simp only;omega)
    ·rcases List.mem_or_eq_of_mem_set hx with hx|rfl
     ·rcases List.mem_or_eq_of_mem_set hx with hx|rfl
      ·exact hs1 x hx
      ·exact hs1 _ (zos _ _ _ (by omega))
     ·exact hs1 _ (zos _ _ _ (by omega))
    ·have hset:∀p,kAt ((o1.set j (o1.getD (j-1) (api_Setting.mk [] []))).set (j-1) (o1.getD j (api_Setting.mk [] []))) p=if p=j-1 then kAt o1 j else if p=j then kAt o1 (j-1)else kAt o1 p:=by
      intro p;unfold kAt;rw[zor _ _ _ _ _ (by simp only[List.length_set];omega),zor _ _ _ _ _ (by omega)]
      by_cases e1:j-1=p
      ·rw[if_pos e1,if_pos e1.symm]
      ·have e1':¬ p=j-1:=fun e=>e1 e.symm
       rw[if_neg e1,if_neg e1']
       by_cases e2:j=p
       ·rw[if_pos e2,if_pos e2.symm]
       ·have e2':¬ p=j:=fun e=>e2 e.symm
        rw[if_neg e2,if_neg e2']
     show ¬ kAt ((o1.set j (o1.getD (j-1) (api_Setting.mk [] []))).set (j-1) (o1.getD j (api_Setting.mk [] []))) q<kAt ((o1.set j (o1.getD (j-1) (api_Setting.mk [] []))).set (j-1) (o1.getD j (api_Setting.mk [] []))) p
     rw[hset,hset,if_neg h3]
     by_cases hq:q=j
     ·subst hq
      rw[if_pos rfl]
      by_cases hp:p=q-1
      ·rw[if_pos hp];exact ziW hc
      ·rw[if_neg hp,if_neg (by omega)]
       exact ho1 p (q-1) (by omega) (by omega) (by omega)
     ·rw[if_neg hq]
      by_cases hp:p=j-1
      ·rw[if_pos hp]
       exact ho1 j q (by omega) h2 hq
      ·rw[if_neg hp]
       by_cases hp2:p=j
       ·rw[if_pos hp2]
        exact ho1 (j-1) q (by omega) h2 hq
       ·rw[if_neg hp2]
        exact ho1 p q h1 h2 hq
   ·rw[decide_eq_false hc,cond_false]
    exact hend (.inr hc)
  ·rw[decide_eq_false (by omega),zg (by intro h;cases h),zg (by intro h;cases h),zmi,Bool.false_and,cond_false]
   exact hend (.inl (by omega))
 ·rw[decide_eq_false (by omega),cond_false]
  exact⟨_,rfl,hl,hs,fun p q h1 h2=>ho p q h1 (by omega) (by omega)⟩
theorem insSort20(o:List api_Setting):zk 20 20 o=some o:=by
 unfold zk;obtain⟨N,hN⟩:∃N,zib=N+1:=⟨1099511627775,rfl⟩;rw[hN];unfold loopN;rfl
theorem loopOnce{Z S:Type}{f:S→(S→Option Z)→(S→Option Z)→Option Z}{k:S→Option Z}{s:S}(h:∀nx,f s nx k=k s):loopN zib f s k=k s:=by
 obtain⟨N,hN⟩:∃N,zib=N+1:=⟨1099511627775,rfl⟩;rw[hN];unfold loopN;exact h _
theorem sortStable(o0:List api_Setting)(hn:o0.length≤20):Ends (zw o0) (Sorted o0):=by
 unfold zw zae
 refine Ends.call (Q:=Sorted o0) ?_ fun x hx=>⟨x,rfl,hx⟩
 rw[zaw]
 by_cases h20:o0.length=20
 ·obtain⟨o,e,ho⟩:=insSort o0 (by omega)
  rw[h20]at e⊢;have e':zk 0 20 o0=some o:=e;refine zf1 (fun st:Int×Int×List api_Setting=>(st=(0,20,o0))∨st=(20,40,o)) (fun st=>40-st.2.1.toNat) ?_ _ (.inl rfl) (by simp only;omega);rintro st nx (rfl|rfl) hnx
  ·simp only
   rw[decide_eq_true (by omega),cond_true,e',zf];exact hnx _ (.inr rfl) (show 40-(IntKind.i64.wrap (20+20)).toNat<40-(20:Int).toNat by decide)
  ·simp only
   rw[decide_eq_false (by omega),cond_false];refine Ends.call (Q:=fun x=>x=o) ⟨o,insSort20 o,rfl⟩ ?_;rintro x rfl;rw[loopOnce (fun nx=>by simp only;rw[decide_eq_false (by omega),cond_false])];exact⟨_,rfl,ho⟩
 ·refine zf1 (fun st:Int×Int×List api_Setting=>st=(0,20,o0)) (fun st=>0) ?_ _ rfl (by omega)
  rintro st nx rfl hnx;simp only;rw[decide_eq_false (by omega),cond_false]
  refine Ends.call (insSort o0 (by omega)) fun o ho=>?_
  rw[loopOnce (fun nx=>by simp only;rw[decide_eq_false (by omega),cond_false])];exact⟨_,rfl,ho⟩
def cutL(z:Nat×Nat×List api_Setting):List api_Setting:=List.take z.2.1 (List.drop z.1 z.2.2)
structure Compacted(o:List api_Setting)(z:Nat×Nat×List api_Setting):Prop where
 len:(cutL z).length≤o.length
 sub:∀x∈cutL z,x∈o
 srt:Srt (·.Key) (cutL z)
theorem fit2_eq(a b:api_Setting):zht a b=some (decide (a.Key=b.Key)):=rfl
theorem zlp{l:List api_Setting}(h:∀p q,p<q→q<l.length→kAt l p<kAt l q):Srt (·.Key) l:=by
 unfold Srt;rw[List.pairwise_iff_getElem];intro i j hi hj hij;have:=h i j hij hj
 simpa [kAt,List.getD_eq_getElem?_getD,hi,hj]using this
theorem kAt_take{o:List api_Setting}{n p:Nat}(h:p<n):kAt (o.take n) p=kAt o p:=by
 simp[kAt,List.getD_eq_getElem?_getD,List.getElem?_take,h]
theorem compact(o:List api_Setting)(hl:o.length≤1073741824)(ho:∀p q,p<q→q<o.length→¬ kAt o q<kAt o p) :
  Ends (zz o) (Compacted o):=by
 unfold zz
 have h0:List.take o.length o=o:=by simp
 rw[h0]
 by_cases h2:(o.length:Int)<2
 ·rw[decide_eq_true h2,cond_true]
  refine⟨_,rfl,?_,?_,?_⟩
  ·simp[cutL]
  ·intro x hx;simpa [cutL]using hx
  ·refine zlp fun p q hp hq=>?_
   simp[cutL]at hq;omega
 ·rw[decide_eq_false h2,cond_false,zaw]
  refine zf1 (fun k:Int=>∃i:Nat,k=i∧1≤i∧i≤o.length∧∀p q,p<q→q<i→kAt o p<kAt o q) (fun k=>o.length-k.toNat) ?_ _ ⟨1,rfl,Nat.le_refl _,by omega,fun p q h1 h2=>by omega⟩ (by omega);rintro k' nx ⟨K0,rfl,hK1,hK2,hK⟩ hnx
  by_cases hlt:K0<o.length
  ·have hw:IntKind.i64.wrap ((K0:Int)-1)=((K0-1:Nat):Int):=wrapm1 _ hK1 (by omega)
   simp only[hw,Int.toNat_natCast,Nat.zero_add];rw[decide_eq_true (by omega),cond_true,zaw,zg (by omega),zg (by omega),fit2_eq,zf]
   by_cases he:kAt o K0=kAt o (K0-1)
   ·rw[decide_eq_true he,cond_true,zg (by omega),zaw]
    refine zf1 (fun st:Int×Int×List api_Setting=>∃k k2:Nat,st.1=k∧st.2.1=k2∧K0≤k∧1≤k2∧k+1≤K0+k2∧K0+k2≤o.length∧st.2.2.length=o.length∧(∀x∈st.2.2,x∈o) ∧
      (∀p,K0+k2≤p+1→kAt st.2.2 p=kAt o p∧st.2.2.getD p (api_Setting.mk [] [])=o.getD p (api_Setting.mk [] []))∧(∀p q,p<q→q<k→kAt st.2.2 p<kAt st.2.2 q)∧kAt st.2.2 (k-1)=kAt o (K0+k2-1)) (fun st=>o.length-st.2.1.toNat) ?_ _
     ⟨K0,1,rfl,rfl,Nat.le_refl _,Nat.le_refl _,Nat.le_refl _,by omega,rfl,fun _ h=>h,fun _ _=>⟨rfl,rfl⟩,hK,by simpa using he.symm⟩ (by simp only;omega)
    rintro⟨ki,k2i,o1⟩ nx1 ⟨k,k2,rfl,rfl,q1,q2,q3,q4,q5,q6,q7,q8,q9⟩ hnx1;simp only at q5 q6 q7 q8 q9 hnx1⊢
    have hlen:(List.take (o.length-K0) (List.drop K0 o1)).length=o.length-K0:=by simp[q5]
    by_cases hk2:K0+k2<o.length
    ·have hw2:IntKind.i64.wrap ((k2:Int)-1)=((k2-1:Nat):Int):=wrapm1 _ q2 (by omega)
     simp only[hw2,Int.toNat_natCast];rw[decide_eq_true (by omega),cond_true,zg (by omega),zg (by omega),zg (by omega),zg (by omega),fit2_eq,zf]
     have e1:K0+(k2-1)=K0+k2-1:=by omega
     have r1:=(q7 (K0+k2) (by omega)).1;have r2:=(q7 (K0+k2-1) (by omega)).1
     have hdec:decide ((api_Setting.mk ((o1.getD (K0+k2) (api_Setting.mk [] [])).Key) ((o1.getD (K0+k2) (api_Setting.mk [] [])).Value)).Key=(api_Setting.mk ((o1.getD (K0+(k2-1)) (api_Setting.mk [] [])).Key) ((o1.getD (K0+(k2-1)) (api_Setting.mk [] [])).Value)).Key)=decide (kAt o (K0+k2)=kAt o (K0+k2-1)):=by
      simp only[e1]
      show decide (kAt o1 (K0+k2)=kAt o1 (K0+k2-1))=_
      rw[r1,r2]
     rw[hdec]
     by_cases heq:kAt o (K0+k2)=kAt o (K0+k2-1)
     ·rw[decide_eq_true heq,Bool.not_true,cond_false,ze2 k2 (by omega)]
      refine hnx1 _ ⟨k,k2+1,rfl,rfl,q1,by omega,by omega,by omega,q5,q6,fun p hp=>q7 p (by omega),q8,?_⟩ (by simp only;omega);simp only;rw[q9,show K0+(k2+1)-1=K0+k2 by omega,heq]
     ·rw[decide_eq_false heq,Bool.not_false,cond_true,zg (by omega),zg (by omega),zg (by omega),zg (by omega),ze2 k2 (by omega),ze2 k (by omega)]
      have hgt:kAt o (K0+k2-1)<kAt o (K0+k2):=by
       rcases zjN (kAt o (K0+k2-1)) (kAt o (K0+k2))with h|h|h
       ·exact h
       ·exact absurd h.symm heq
       ·exact absurd h (ho _ _ (by omega) (by omega))
      have hset:∀p,(o1.set k (api_Setting.mk ((o1.getD (K0+k2) (api_Setting.mk [] [])).Key) ((o1.getD (K0+k2) (api_Setting.mk [] [])).Value))).getD p (api_Setting.mk [] [])=if k=p then o1.getD (K0+k2) (api_Setting.mk [] [])else o1.getD p (api_Setting.mk [] []):=by
       intro p;rw[zor _ _ _ _ _ (by omega)]
      refine hnx1 _ ⟨k+1,k2+1,rfl,rfl,by omega,by omega,by omega,by omega,by simpa using q5,fun x hx=>?_,fun p hp=>?_,fun p q hp hq=>?_,?_⟩ (by simp only;omega)
      ·rcases List.mem_or_eq_of_mem_set hx with hx|rfl
       ·exact q6 x hx
       ·exact q6 _ (zos _ _ _ (by omega))
      ·simp only[kAt,hset]
       rw[if_neg (by omega)];exact q7 p (by omega)
      ·simp only[kAt,hset]
       rw[if_neg (by omega)]
       by_cases hqk:q=k
       ·subst hqk
        rw[if_pos rfl]
        show kAt o1 p<kAt o1 (K0+k2)
        rw[r1]
        by_cases hpk:p=q-1
        ·subst hpk;rw[q9];exact hgt
        ·have:=q8 p (q-1) (by omega) (by omega)
         rw[q9]at this;exact zfQ this hgt
       ·rw[if_neg (fun e=>hqk e.symm)]
        exact q8 p q hp (by omega)
      ·simp only[kAt,hset]
       rw[if_pos (by omega)]
       show kAt o1 (K0+k2)=kAt o (K0+(k2+1)-1)
       rw[r1];rfl
    ·rw[decide_eq_false (by omega),cond_false,zg (by omega),zg (by omega)]
     have hcut:cutL (0,k,List.take k o1++List.replicate (o.length-k) (api_Setting.mk [] [])++List.drop (k+(o.length-k)) o1)=o1.take k:=by
      unfold cutL;simp only[List.drop_zero,List.append_assoc];rw[List.take_append_of_le_length (by simp only[List.length_take];omega),List.take_take,Nat.min_self]
     refine⟨_,rfl,?_,?_,?_⟩
     ·show(cutL (0,k,_)).length≤_
      rw[Int.toNat_natCast,hcut,List.length_take];omega
     ·show ∀x∈cutL (0,k,_),_
      rw[Int.toNat_natCast,hcut]
      exact fun x hx=>q6 x (List.mem_of_mem_take hx)
     ·show Srt _ (cutL (0,k,_))
      rw[Int.toNat_natCast,hcut]
      refine zlp fun p q hp hq=>?_
      rw[List.length_take]at hq;rw[kAt_take (by omega),kAt_take (by omega)];exact q8 p q hp (by omega)
   ·rw[decide_eq_false he,cond_false,ze2 K0 (by omega)]
    refine hnx _ ⟨K0+1,rfl,by omega,by omega,fun p q h1 h2=>?_⟩ (by omega)
    have hgt:kAt o (K0-1)<kAt o K0:=by
     rcases zjN (kAt o (K0-1)) (kAt o K0)with h|h|h
     ·exact h
     ·exact absurd h.symm he
     ·exact absurd h (ho _ _ (by omega) (by omega))
    by_cases hq:q=K0
    ·subst hq
     by_cases hp:p=q-1
     ·subst hp;exact hgt
     ·exact zfQ (hK p (q-1) (by omega) (by omega)) hgt
    ·exact hK p q h1 (by omega)
  ·rw[decide_eq_false (by omega),cond_false]
   refine⟨_,rfl,?_,?_,?_⟩
   ·simp[cutL]
   ·intro x hx;simpa [cutL]using hx
   ·have e0:cutL (0,o.length,o)=o:=by simp[cutL]
    show Srt _ (cutL (0,o.length,o))
    rw[e0]
    exact zlp fun p q hp hq=>hK p q hp (by omega)
structure Fw(a b d:Nat)(M:api_Machine):Prop where
 good:Good M
 facts:M.Facts.length≤20
 files:M.Files.length≤a
 data:∀f∈M.Files,f.Data.length≤3000
 sets:M.Settings.length≤b
 svcs:M.Services.length≤d
def zfh(f:api_File):api_Change:=⟨1,f,⟨[],[]⟩,⟨[],[],false,false⟩⟩
def ziC(s:api_Setting):api_Change:=⟨3,⟨[],[],false⟩,s,⟨[],[],false,false⟩⟩
def ziB(s:api_Service):api_Change:=⟨5,⟨[],[],false⟩,⟨[],[]⟩,s⟩
theorem fit3_eq(c:api_Change)(hc:SmC c)(M:api_Machine)(h:Good M):zbS c M.Facts M.Files M.Settings M.Services=some (bif decide ((zbB c M).1=0)then((zbB c M).2.Facts,(zbB c M).2.Files,(zbB c M).2.Settings,(zbB c M).2.Services)else(M.Facts,M.Files,M.Settings,M.Services)):=by
 unfold zbS;rw[zhL _ h.fit [c] (fun x hx=>by rcases List.mem_cons.1 hx with rfl|hx;exact hc;cases hx),zf];unfold zmo;rw[decide_eq_true ((zgA M).2 h),Bool.not_true,cond_false];unfold zcU zcU
 by_cases h0:(zbB c M).1=0
 ·rw[decide_eq_true h0];rfl
 ·rw[decide_eq_false h0]
  simp only[Bool.not_false,cond_true]
  rw[decide_eq_false h0];rfl
section
variable {a b d:Nat} {M:api_Machine}
theorem Fw.next(h:Fw a b d M)(c:api_Change):Good (zbB c M).2∧(zbB c M).2.Facts.length≤20:=⟨zjo h.good c,by rw[zjL];exact h.facts⟩
theorem step_put(f:api_File)(M:api_Machine):(zbB (zfh f) M).2=M∨(zbB (zfh f) M).2=⟨M.Facts,ins (·.Path) f M.Files,M.Settings,M.Services⟩:=by
 unfold zbB;have hk:(zfh f).Kind=1:=rfl;rw[hk];simp only[ziu,decide_true,cond_true,cond_false];cases !decide (eCh (zfh f)=0)
 ·cases M.Files.any (zfG (zfh f).File.Path)
  ·cases !(lkF M.Files (zfh f).File.Path).isSome&&decide (2000≤(M.Files.length:Int))
   ·exact .inr rfl
   ·exact .inl rfl
  ·exact .inl rfl
 ·exact .inl rfl
theorem step_set(f:api_Setting)(M:api_Machine):(zbB (ziC f) M).2=M∨(zbB (ziC f) M).2=⟨M.Facts,M.Files,ins (·.Key) f M.Settings,M.Services⟩:=by
 unfold zbB;have hk:(ziC f).Kind=3:=rfl;rw[hk];simp only[ziu,decide_true,cond_true,cond_false];cases !decide (eCh (ziC f)=0)
 ·cases !(lkS M.Settings (ziC f).Setting.Key).isSome&&decide (2000≤(M.Settings.length:Int))
  ·exact .inr rfl
  ·exact .inl rfl
 ·exact .inl rfl
theorem step_svc(f:api_Service)(M:api_Machine):(zbB (ziB f) M).2=M∨(zbB (ziB f) M).2=⟨M.Facts,M.Files,M.Settings,ins (·.Name) f M.Services⟩:=by
 unfold zbB;have hk:(ziB f).Kind=5:=rfl;rw[hk];simp only[ziu,decide_true,cond_true,cond_false];cases !decide (eCh (ziB f)=0)
 ·cases !(lkV M.Services (ziB f).Service.Name).isSome&&decide (100≤(M.Services.length:Int))
  ·exact .inr rfl
  ·exact .inl rfl
 ·exact .inl rfl
theorem Fw.put(h:Fw a b d M)(f:api_File)(hf:f.Data.length≤3000):Fw (a+1) b d (zbB (zfh f) M).2:=by
 obtain⟨h1,h2⟩:=h.next (zfh f)
 rcases step_put f M with e|e <;> rw[e]at h1 h2⊢
 ·exact⟨h1,h2,by have:=h.files;omega,h.data,h.sets,h.svcs⟩
 ·refine⟨h1,h2,?_,fun x hx=>?_,h.sets,h.svcs⟩
  ·have:=h.files
   show(ins (fun x:api_File=>x.Path) f M.Files).length≤_
   rw[zis h.good.g2]
   split <;> omega
  ·rcases mem_ins.1 hx with rfl|⟨hx,_⟩
   ·exact hf
   ·exact h.data x hx
theorem Fw.set(h:Fw a b d M)(f:api_Setting):Fw a (b+1) d (zbB (ziC f) M).2:=by
 obtain⟨h1,h2⟩:=h.next (ziC f)
 rcases step_set f M with e|e <;> rw[e]at h1 h2⊢
 ·exact⟨h1,h2,h.files,h.data,by have:=h.sets;omega,h.svcs⟩
 ·refine⟨h1,h2,h.files,h.data,?_,h.svcs⟩
  have:=h.sets
  show(ins (fun x:api_Setting=>x.Key) f M.Settings).length≤_
  rw[zis h.good.s2]
  split <;> omega
theorem Fw.svc(h:Fw a b d M)(f:api_Service):Fw a b (d+1) (zbB (ziB f) M).2:=by
 obtain⟨h1,h2⟩:=h.next (ziB f)
 rcases step_svc f M with e|e <;> rw[e]at h1 h2⊢
 ·exact⟨h1,h2,h.files,h.data,h.sets,by have:=h.svcs;omega⟩
 ·refine⟨h1,h2,h.files,h.data,h.sets,?_⟩
  have:=h.svcs
  show(ins (fun x:api_Service=>x.Name) f M.Services).length≤_
  rw[zis h.good.v2]
  split <;> omega
end
abbrev M4:=List api_Setting×List api_File×List api_Setting×List api_Service
def m4(M:api_Machine):M4:=(M.Facts,M.Files,M.Settings,M.Services)
theorem zou{a b d:Nat}{M:api_Machine}(h:Fw a b d M){c:api_Change}(hc:SmC c){a' b' d':Nat}(hn:Fw a' b' d' (zbB c M).2)(ha:a≤a')(hb:b≤b')(hd:d≤d') :
  Ends (zbS c M.Facts M.Files M.Settings M.Services) fun r=>∃N,r=m4 N∧Fw a' b' d' N:=by
 refine⟨_,fit3_eq c hc M h.good,?_⟩;cases decide ((zbB c M).1=0)
 ·exact⟨M,rfl,h.good,h.facts,Nat.le_trans h.files ha,h.data,Nat.le_trans h.sets hb,Nat.le_trans h.svcs hd⟩
 ·exact⟨_,rfl,hn⟩
theorem putLoop{Z α:Type}{P:Z→Prop}{f:Nat→α→M4→(M4→Option Z)→(M4→Option Z)→Option Z}{k:M4→Option Z}(F:Nat→api_Machine→Prop)(n0:Nat)(Q:α→Prop)
  (hk:∀n M,n≤n0→F n M→Ends (k (m4 M)) P) (hf:∀i x nx k n M,Q x→F n M→(∀N,F (n+1) N→Ends (nx (m4 N)) P)→Ends (f i x (m4 M) nx k) P) (l:List α) (hl:l.length≤n0) (hq:∀x∈l,Q x) {M:api_Machine} (hM:F 0 M) :
  Ends (forL l 0 f (m4 M) k) P:=by
 refine forL_ex (fun i r st=>∃M,st=m4 M∧F i M∧(∀x∈r,Q x)∧i+r.length=l.length) (fun i s h=>?_) (fun i x r s nx h hnx=>?_) l 0 _ ⟨M,rfl,hM,hq,by omega⟩
 ·obtain⟨M,rfl,h1,_,h2⟩:=h
  exact hk i M (by simp at h2;omega) h1
 ·obtain⟨M,rfl,h1,h2,h3⟩:=h
  exact hf i x nx k i M (h2 x (List.mem_cons_self ..)) h1 fun N hN=>hnx _ ⟨N,rfl,hN,fun y hy=>h2 y (List.mem_cons_of_mem _ hy),by simp only[List.length_cons]at h3;omega⟩
theorem fit_ends(m:api_Machine)(hm:Fit m):Ends (zmx m) (Fw 40 40 40):=by
 have hm1:=hm.facts;have hm2:=hm.files;have hm3:=hm.sets;have hm4:=hm.svcs;unfold zmx;rw[zaw];refine forL_ex (fun i r o=>o.length≤20∧o.length≤i∧i+r.length=m.Facts.length∧∀x∈o,zkK x=0) (fun i o h=>?_) (fun i x r o nx h hnx=>?_) m.Facts 0 [] ⟨by simp,by simp,by simp,by simp⟩
 ·obtain⟨h1,_,_,h2⟩:=h
  refine Ends.call (sortStable o h1) fun o1 hs=>?_
  refine Ends.call (compact o1 (by have:=hs.len;omega) hs.ord) fun z hz=>?_
  have hz1:=hz.len;have hz2:=hs.len
  have hF:Fw 0 0 0 ⟨cutL z,[],[],[]⟩:=by
   refine⟨⟨by simp only;omega,by simp,by simp,by simp,fun x hx=>h2 x (hs.sub x (hz.sub x hx)),hz.srt,by simp,by simp[Srt],by simp,by simp,by simp[Srt],by simp,by simp[Srt]⟩,by simp only;omega,by simp,by simp,by simp,by simp⟩
  rw[zaw,zg (by omega)];refine putLoop (F:=fun n M=>Fw n 0 0 M) (n0:=40) (Q:=fun f:api_File=>Sm f.Path) (fun n M hn hM=>?_) (fun i f nx k n M hf hM hnx=>?_) _ (by simp only[List.length_take];omega) (fun x hx=>hm.fp x (List.mem_of_mem_take hx)) hF
  ·have hM40:Fw 40 0 0 M:=⟨hM.good,hM.facts,Nat.le_trans hM.files hn,hM.data,hM.sets,hM.svcs⟩
   show Ends (jp _ _) _
   rw[zaw,zg (by omega)];refine putLoop (F:=fun n M=>Fw 40 n 0 M) (n0:=40) (Q:=fun f:api_Setting=>Sm f.Key) (fun n M hn hM=>?_) (fun i f nx k n M hf hM hnx=>?_) _ (by simp only[List.length_take];omega) (fun x hx=>hm.sp x (List.mem_of_mem_take hx)) hM40
   ·have hM40:Fw 40 40 0 M:=⟨hM.good,hM.facts,hM.files,hM.data,Nat.le_trans hM.sets hn,hM.svcs⟩
    show Ends (jp _ _) _
    rw[zaw,zg (by omega)];refine putLoop (F:=fun n M=>Fw 40 40 n M) (n0:=40) (Q:=fun f:api_Service=>Sm f.Path) (fun n M hn hM=>?_) (fun i f nx k n M hf hM hnx=>?_) _ (by simp only[List.length_take];omega) (fun x hx=>hm.vp x (List.mem_of_mem_take hx)) hM40
    ·exact⟨_,rfl,hM.good,hM.facts,hM.files,hM.data,hM.sets,Nat.le_trans hM.svcs hn⟩
    ·show Ends (call _ _) _
     refine Ends.call (zou hM (c:=ziB f) ⟨by simp[Sm,ziB],by simp[Sm,ziB],hf⟩ (hM.svc f) (Nat.le_refl _) (Nat.le_refl _) (Nat.le_succ _)) ?_;rintro r ⟨N,rfl,hN⟩;exact hnx N hN
   ·show Ends (call _ _) _
    refine Ends.call (zou hM (c:=ziC f) ⟨by simp[Sm,ziC],hf,by simp[Sm,ziC]⟩ (hM.set f) (Nat.le_refl _) (Nat.le_succ _) (Nat.le_refl _)) ?_;rintro r ⟨N,rfl,hN⟩;exact hnx N hN
  ·show Ends (chk _ _) _
   rw[zg (by omega)];have hN:Fw (n+1) 0 0 _:=hM.put ⟨f.Path,List.take ((min (f.Data.length:Int) 3000).toNat) f.Data,f.Runs⟩ (by simp only[List.length_take];omega);refine Ends.call (zou hM (c:=zfh ⟨f.Path,List.take ((min (f.Data.length:Int) 3000).toNat) f.Data,f.Runs⟩) ⟨hf,by simp[Sm,zfh],by simp[Sm,zfh]⟩ hN (Nat.le_succ _) (Nat.le_refl _) (Nat.le_refl _)) ?_;rintro r ⟨N,rfl,hN⟩;exact hnx N hN
 ·obtain⟨h1,h2,h3,h4⟩:=h
  simp only[List.length_cons]at h3;rw[zdb,zhr,zf,zad];cases hb:(zbe x.Key&&(bif zbe x.Key then zcP x.Value else false))&&decide ((o.length:Int)<20)
  ·exact hnx _ ⟨h1,by omega,by omega,h4⟩
  ·simp only[Bool.and_eq_true,decide_eq_true_eq]at hb
   obtain⟨⟨hb1,hb2⟩,hb3⟩:=hb;rw[hb1,cond_true]at hb2;rw[cond_true,zg (by simp only[List.length_append,List.length_cons,List.length_nil];omega)];refine hnx _ ⟨by simp only[List.length_append,List.length_cons,List.length_nil];omega,by simp only[List.length_append,List.length_cons,List.length_nil];omega,by omega,fun y hy=>?_⟩
   rcases List.mem_append.1 hy with hy|hy
   ·exact h4 y hy
   ·simp at hy
    subst hy;unfold zkK
    rw[hb1,hb2];rfl
theorem landed_eq:zgj=some true:=by
 unfold zgj
 rw[zdu];rfl
section
variable {A:Type} {key:A→Str}
end
section
variable {b:Nat} {m1:List (Str×api_File)} {m2:List (Str×Int)} {m3:List (Str×api_Setting)} {m4:List (Str×api_Service)} {M:api_Machine}
end
section
variable {A:Type} {key:A→Str}
def eqO(eqb:A→A→Bool)(o:Option A)(y:A):Bool:=match o with|some x=>eqb x y|none=>false
def goneL(key:A→Str)(a b:List A):List A:=a.filter fun x=>!(lk key b (key x)).isSome
def comeL(key:A→Str)(eqb:A→A→Bool)(a b:List A):List A:=b.filter fun y=>!eqO eqb (lk key a (key y)) y
end
def zhj(k:Str):api_Change:=⟨2,⟨k,[],false⟩,zeg,zcf⟩
def chUns(k:Str):api_Change:=⟨4,zaQ,⟨k,[]⟩,zcf⟩
def chDrp(k:Str):api_Change:=⟨6,zaQ,zeg,⟨k,[],false,false⟩⟩
def zkL(a b:api_Machine):List api_Change :=
 (goneL (·.Path) a.Files b.Files).map (fun f=>zhj f.Path)++(goneL (·.Key) a.Settings b.Settings).map (fun s=>chUns s.Key)++(goneL (·.Name) a.Services b.Services).map (fun s=>chDrp s.Name) ++
  (comeL (·.Path) zhh a.Files b.Files).map zfh++(comeL (·.Key) zmO a.Settings b.Settings).map ziC++(comeL (·.Name) zl9 a.Services b.Services).map ziB
section
variable {A C:Type}
theorem zgY{Z:Type}{q:A→Bool}{g:A→C}{f:Nat→A→List C→(List C→Option Z)→(List C→Option Z)→Option Z}{k:List C→Option Z}(hf:∀i x o nx k',f i x o nx k'=bif q x then chk ((o++[g x]).length≤274877906944) (nx (o++[g x]))else nx o) :
  ∀(l:List A) (i:Nat) (o:List C),o.length+l.length≤274877906944→forL l i f o k=k (o++(l.filter q).map g)
 |[],i,o,_=>by simp[forL]
 |x::l,i,o,h=>by
  simp only[List.length_cons]at h;unfold forL;rw[hf];cases hq:q x
  ·rw[cond_false,zgY hf l (i+1) o (by omega)]
   simp[hq]
  ·rw[cond_true,zg (by simp only[List.length_append,List.length_cons,List.length_nil];omega),zgY hf l (i+1) _ (by simp only[List.length_append,List.length_cons,List.length_nil];omega)]
   simp[hq]
theorem zop(key:A→Str)(a b:List A):(goneL key a b).length≤a.length:=List.length_filter_le _ _
theorem zoF(key:A→Str)(e:A→A→Bool)(a b:List A):(comeL key e a b).length≤b.length:=List.length_filter_le _ _
end
section
variable {V A:Type} {key:A→Str}
theorem zgq{g:Str→V→A}{d:V}{m:List (Str×V)}(hk:∀k v,zu m k=some v→key (g k v)=k):(toL g d m).map key=zgy m:=by
 unfold toL;rw[List.map_map]
 conv=>rhs;rw[←List.map_id (zgy m)]
 refine List.map_congr_left fun k hkm=>?_
 obtain⟨v,hv⟩:=Option.isSome_iff_exists.1 (mem_keysM.1 hkm);simp only[Function.comp_apply,hv,Option.getD_some,id];exact hk _ _ hv
theorem goneK{C:Type}(a b:List A)(g:Str→C)(q:Str→Bool)(hq:∀k,q k=!(lk key b k).isSome):((a.map key).filter q).map g=(goneL key a b).map fun x=>g (key x):=by
 unfold goneL
 rw[List.filter_map,List.map_map,show(q∘key)=fun x=>!(lk key b (key x)).isSome from funext fun x=>hq _];rfl
theorem comeK{C:Type}{a b:List A}(hb:Srt key b)(eqb:A→A→Bool)(g:A→C)(g':Str→C)(q:Str→Bool)(hq:∀y∈b,q (key y)=!eqO eqb (lk key a (key y)) y)(hg:∀y∈b,g' (key y)=g y) :
  ((b.map key).filter q).map g'=(comeL key eqb a b).map g:=by
 unfold comeL;rw[List.filter_map,List.map_map];rw[List.filter_congr (p:=q∘key) (q:=fun y=>!eqO eqb (lk key a (key y)) y) (fun y hy=>hq y hy)]
 exact List.map_congr_left fun y hy=>hg y (List.mem_filter.1 hy).1
end
theorem R_Diff_eq{a b:api_Machine}(ha:Good a)(hb:Good b):R_Diff a b=some (zkL a b):=by
 have a2:=ha.c2;have a3:=ha.c3;have a4:=ha.c4;have b2:=hb.c2;have b3:=hb.c3;have b4:=hb.c4;obtain⟨p1,p2,p3,ep,hp⟩:=zcC ha;obtain⟨q1,q2,q3,eq,hq⟩:=zcC hb;have l1:=hp.l1;have l2:=hp.l2;have l3:=hp.l3;have m1:=hq.l1;have m2:=hq.l2;have m3:=hq.l3;have ep1:zaa p1=some (a.Files.map (·.Path)):=(zer p1 (by omega)).trans (congrArg some (by rw[←hp.e1];exact(zgq (key:=fun x:api_File=>x.Path) hp.k1).symm));have ep2:zaM p2=some (a.Settings.map (·.Key)):=(zer p2 (by omega)).trans (congrArg some (by rw[←hp.e2];exact(zgq (key:=fun x:api_Setting=>x.Key) (fun _ _ _=>rfl)).symm));have ep3:zab p3=some (a.Services.map (·.Name)):=(zer p3 (by omega)).trans (congrArg some (by rw[←hp.e3];exact(zgq (key:=fun x:api_Service=>x.Name) hp.k3).symm));have eq1:zaa q1=some (b.Files.map (·.Path)):=(zer q1 (by omega)).trans (congrArg some (by rw[←hq.e1];exact(zgq (key:=fun x:api_File=>x.Path) hq.k1).symm));have eq2:zaM q2=some (b.Settings.map (·.Key)):=(zer q2 (by omega)).trans (congrArg some (by rw[←hq.e2];exact(zgq (key:=fun x:api_Setting=>x.Key) (fun _ _ _=>rfl)).symm));have eq3:zab q3=some (b.Services.map (·.Name)):=(zer q3 (by omega)).trans (congrArg some (by rw[←hq.e3];exact(zgq (key:=fun x:api_Service=>x.Name) hq.k3).symm));unfold R_Diff;rw[ep,eq];simp only[zf,zaw,zhb,ep1,ep2,ep3,eq1,eq2,eq3]
 have hfl:∀{A C:Type} (p:A→Bool) (g:A→C) (l:List A),((l.filter p).map g).length≤l.length:=fun p g l=>by rw[List.length_map];exact List.length_filter_le _ _
 have z1:=hfl (fun k=>!(zu q1 k).isSome) zhj (a.Files.map (·.Path));have z2:=hfl (fun k=>!(zu q2 k).isSome) chUns (a.Settings.map (·.Key));have z3:=hfl (fun k=>!(zu q3 k).isSome) chDrp (a.Services.map (·.Name));have z4:=hfl (fun k=>!(zu p1 k).isSome||!zhh ((zu p1 k).getD zaQ) ((zu q1 k).getD zaQ)) (fun k=>zfh ((zu q1 k).getD zaQ)) (b.Files.map (·.Path));have z5:=hfl (fun k=>!(zu p2 k).isSome||!decide ((zu p2 k).getD []=(zu q2 k).getD [])) (fun k=>ziC ⟨k,(zu q2 k).getD []⟩) (b.Settings.map (·.Key));have z6:=hfl (fun k=>!(zu p3 k).isSome||!zl9 ((zu p3 k).getD zcf) ((zu q3 k).getD zcf)) (fun k=>ziB ((zu q3 k).getD zcf)) (b.Services.map (·.Name));simp only[List.length_map]at z1 z2 z3 z4 z5 z6;refine(zgY (q:=fun k=>!(zu q1 k).isSome) (g:=zhj) (fun _ _ _ _ _=>rfl) _ _ _ (by simp only[List.length_nil,List.length_append,List.length_map];omega)).trans ?_;refine(zgY (q:=fun k=>!(zu q2 k).isSome) (g:=chUns) (fun _ _ _ _ _=>rfl) _ _ _ (by simp only[List.length_nil,List.length_append,List.length_map];omega)).trans ?_;refine(zgY (q:=fun k=>!(zu q3 k).isSome) (g:=chDrp) (fun _ _ _ _ _=>rfl) _ _ _ (by simp only[List.length_nil,List.length_append,List.length_map];omega)).trans ?_;refine(zgY (q:=fun k=>!(zu p1 k).isSome||!zhh ((zu p1 k).getD zaQ) ((zu q1 k).getD zaQ)) (g:=fun k=>zfh ((zu q1 k).getD zaQ)) (fun _ _ _ _ _=>rfl) _ _ _ (by simp only[List.length_nil,List.length_append,List.length_map];omega)).trans ?_;refine(zgY (q:=fun k=>!(zu p2 k).isSome||!decide ((zu p2 k).getD []=(zu q2 k).getD [])) (g:=fun k=>ziC ⟨k,(zu q2 k).getD []⟩) (fun _ _ _ _ _=>rfl) _ _ _ (by simp only[List.length_nil,List.length_append,List.length_map];omega)).trans ?_
 refine(zgY (q:=fun k=>!(zu p3 k).isSome||!zl9 ((zu p3 k).getD zcf) ((zu q3 k).getD zcf)) (g:=fun k=>ziB ((zu q3 k).getD zcf)) (fun _ _ _ _ _=>rfl) _ _ _ (by simp only[List.length_nil,List.length_append,List.length_map];omega)).trans ?_;rw[List.nil_append];refine congrArg some ?_;unfold zkL
 have s2:∀k,zu q2 k=(lkS b.Settings k).map (·.Value):=fun k=>by
  rw[←hq.look2];cases zu q2 k <;> rfl
 have t2:∀k,zu p2 k=(lkS a.Settings k).map (·.Value):=fun k=>by
  rw[←hp.look2];cases zu p2 k <;> rfl
 rw[goneK (key:=fun x:api_File=>x.Path) a.Files b.Files zhj _ (fun k=>by rw[hq.look1])];rw[goneK (key:=fun x:api_Setting=>x.Key) a.Settings b.Settings chUns _ (fun k=>by rw[hq.is2])];rw[goneK (key:=fun x:api_Service=>x.Name) a.Services b.Services chDrp _ (fun k=>by rw[hq.look3])]
 rw[comeK (key:=fun x:api_File=>x.Path) (a:=a.Files) hb.g2 zhh zfh _ _ (fun y hy=>by
  have hy':lkF b.Files y.Path=some y:=zh4 hb.g2 hy;rw[hp.look1,hq.look1,hy']
  show _=!eqO zhh (lkF a.Files y.Path) y
  cases lkF a.Files y.Path <;> rfl) (fun y hy=>by
  have hy':lkF b.Files y.Path=some y:=zh4 hb.g2 hy
  rw[hq.look1,hy'];rfl)]
 rw[comeK (key:=fun x:api_Setting=>x.Key) (a:=a.Settings) hb.s2 zmO ziC _ _ (fun y hy=>by
  have hy':lkS b.Settings y.Key=some y:=zh4 hb.s2 hy;rw[t2,s2,hy']
  show _=!eqO zmO (lkS a.Settings y.Key) y
  cases hx:lkS a.Settings y.Key with
  |none=>rfl
  |some x =>
   have:=(zdJ hx).2
   simp[eqO,zmO,this]) (fun y hy=>by
  have hy':lkS b.Settings y.Key=some y:=zh4 hb.s2 hy
  rw[s2,hy'];rfl)]
 rw[comeK (key:=fun x:api_Service=>x.Name) (a:=a.Services) hb.v2 zl9 ziB _ _ (fun y hy=>by
  have hy':lkV b.Services y.Name=some y:=zh4 hb.v2 hy;rw[hp.look3,hq.look3,hy']
  show _=!eqO zl9 (lkV a.Services y.Name) y
  cases lkV a.Services y.Name <;> rfl) (fun y hy=>by
  have hy':lkV b.Services y.Name=some y:=zh4 hb.v2 hy
  rw[hq.look3,hy'];rfl)]
theorem clone_ends{α:Type}(l:List α)(hl:l.length≤137438953472):(anyOf (fun b_5:Bool=>b_5=true→l=[]) fun b_5 =>
 bif b_5 then
  some []
 else
 chk (([]++l).length≤274877906944) <|
 some ([]++l))=some l:=by
 refine ziI ⟨false,fun h=>by cases h⟩ fun b hb=>?_
 cases b with
 |false=>rw[cond_false,zg (by simp;omega)];rfl
 |true=>rw[hb rfl];rfl
def halfF(f:api_File):api_File:=⟨f.Path,List.take ((IntKind.i64.wrap (Int.tdiv (f.Data.length:Int) 2)).toNat) f.Data,f.Runs⟩
theorem half_len{n:Nat}(h:n≤65536):IntKind.i64.wrap (Int.tdiv (n:Int) 2)=((n / 2:Nat):Int):=by
 have e:Int.tdiv (n:Int) 2=((n / 2:Nat):Int):=rfl;rw[e,zdq (by omega) (by omega)]
theorem eFile_half{f:api_File}(h:zdN f=0):zdN (halfF f)=0:=by
 obtain⟨h1,h2⟩:=zcH h;unfold zdN halfF;simp only[h1,List.length_take,Bool.not_true,cond_false]
 rw[decide_eq_false (by omega)];rfl
theorem good_put{M:api_Machine}(h:Good M)(f:api_File)(he:zdN f=0)(ha:M.Files.any (zfG f.Path)=false)(hb:(!(lkF M.Files f.Path).isSome&&decide (2000≤(M.Files.length:Int)))=false) :
  Good ⟨M.Facts,ins (·.Path) f M.Files,M.Settings,M.Services⟩:=by
 have hc2:=h.c2
 have hcl:∀x∈M.Files,zhU x.Path f.Path=false∧zhU f.Path x.Path=false:=fun x hx=>by
  have:=List.any_eq_false.1 ha x hx
  simpa [zfG]using this
 refine { h with c2:=?_,g1:=?_,g2:=zgs h.g2 _,g3:=?_ }
 ·show(ins (fun x:api_File=>x.Path) f M.Files).length≤2000
  rw[zis h.g2];simp only[Bool.and_eq_false_iff,Bool.not_eq_false',decide_eq_false_iff_not]at hb
  rcases hb with hb|hb
  ·rw[if_pos hb];omega
  ·split <;> omega
 ·intro x hx
  rcases mem_ins.1 hx with e|⟨hx,_⟩
  ·rw[e];exact he
  ·exact h.g1 x hx
 ·intro x hx y hy
  rcases mem_ins.1 hx with e|⟨hx,_⟩ <;> rcases mem_ins.1 hy with e'|⟨hy,_⟩
  ·rw[e,e'];exact clash_irr _
  ·rw[e];exact(hcl y hy).2
  ·rw[e'];exact(hcl x hx).1
  ·exact h.g3 x hx y hy
theorem step_put1{M:api_Machine}{c:api_Change}(hk:c.Kind=1)(hs:(zbB c M).1=0):zdN c.File=0∧M.Files.any (zfG c.File.Path)=false∧(!(lkF M.Files c.File.Path).isSome&&decide (2000≤(M.Files.length:Int)))=false:=by
 unfold zbB at hs
 by_cases he:eCh c=0
 ·rw[decide_eq_true he]at hs
  simp only[hk,ziu,decide_true,Bool.not_true,cond_true,cond_false]at hs;refine⟨eCh_put he hk,?_,?_⟩
  ·cases ha:M.Files.any (zfG c.File.Path)
   ·rfl
   ·rw[ha]at hs;cases hs
  ·cases ha:M.Files.any (zfG c.File.Path)
   ·rw[ha]at hs
    cases hb:!(lkF M.Files c.File.Path).isSome&&decide (2000≤(M.Files.length:Int))
    ·rfl
    ·rw[hb]at hs;cases hs
   ·rw[ha]at hs;cases hs
 ·rw[decide_eq_false he]at hs
  exact absurd hs he
section
variable {b:Nat} {m1:List (Str×api_File)} {m2:List (Str×Int)} {m3:List (Str×api_Setting)} {m4:List (Str×api_Service)} {M:api_Machine}
end
structure Dk where
 M:api_Machine
 off:Bool
 cut:Bool
 after:Int
 torn:Bool
 writes:Int
def stepD(c:api_Change)(d:Dk):Int×Dk :=
 bif d.off then(12,d)else
 bif !decide ((zbB c d.M).1=0)then((zbB c d.M).1,d)else
 bif d.cut&&decide (d.after=0)then
  (bif d.torn&&decide (c.Kind=1)then(18,⟨⟨d.M.Facts,ins (·.Path) (halfF c.File) d.M.Files,d.M.Settings,d.M.Services⟩,true,false,d.after,d.torn,IntKind.i64.wrap (d.writes+1)⟩)
   else(18,⟨d.M,true,false,d.after,d.torn,d.writes⟩))else
 (0,⟨(zbB c d.M).2,d.off,d.cut,bif d.cut then IntKind.i64.wrap (d.after-1)else d.after,d.torn,IntKind.i64.wrap (d.writes+1)⟩)
def cutD(after:Int)(torn:Bool)(d:Dk):Int×Dk :=
 bif decide (after<0)||decide (1000000<after)then(3,d)else bif d.off then(12,d)else(0,⟨d.M,d.off,true,after,torn,d.writes⟩)
structure Rd_(m1:List (Str×api_File))(m2:List (Str×Str))(m3:List (Str×api_Service))(fs:List api_Setting)(off:Bool)(after:Int)(torn armed:Bool)(writes:Int)(d:Dk):Prop where
 good:Good d.M
 wr:Wr m1 m2 m3 d.M
 fs:fs=d.M.Facts
 off:off=d.off
 cut:armed=d.cut
 after:d.cut=true→after=d.after
 torn:d.cut=true→torn=d.torn
 writes:writes=d.writes
 oc:d.off=true→d.cut=false
theorem stepM_err{c:api_Change}{M:api_Machine}(h:(zbB c M).1≠0):(zbB c M).2=M:=by
 unfold zbB at h⊢
 by_cases he:eCh c=0
 ·rw[decide_eq_true he]at h⊢
  simp only[Bool.not_true,cond_false]at h⊢
  rcases zoB he with e|e|e|e|e|e
  all_goals simp only[e,ziu,decide_true,cond_true,cond_false]at h⊢
  ·cases ha:M.Files.any (zfG c.File.Path)
   ·rw[ha]at h
    cases hb:!(lkF M.Files c.File.Path).isSome&&decide (2000≤(M.Files.length:Int))
    ·rw[hb]at h;exact absurd rfl h
    ·rfl
   ·rfl
  ·cases hb:!(lkF M.Files c.File.Path).isSome
   ·rw[hb]at h;exact absurd rfl h
   ·rfl
  ·cases hb:!(lkS M.Settings c.Setting.Key).isSome&&decide (2000≤(M.Settings.length:Int))
   ·rw[hb]at h;exact absurd rfl h
   ·rfl
  ·cases hb:!(lkS M.Settings c.Setting.Key).isSome
   ·rw[hb]at h;exact absurd rfl h
   ·rfl
  ·cases hb:!(lkV M.Services c.Service.Name).isSome&&decide (100≤(M.Services.length:Int))
   ·rw[hb]at h;exact absurd rfl h
   ·rfl
  ·cases hb:!(lkV M.Services c.Service.Name).isSome
   ·rw[hb]at h;exact absurd rfl h
   ·rfl
 ·rw[decide_eq_false he];rfl
section
variable {b:Nat} {m1:List (Str×api_File)} {m2:List (Str×Int)} {m3:List (Str×api_Setting)} {m4:List (Str×api_Service)} {fs:List api_Setting} {off cut torn:Bool} {after writes:Int} {d:Dk}
end
section
variable {m1:List (Str×api_File)} {m2:List (Str×Str)} {m3:List (Str×api_Service)} {fs:List api_Setting} {off armed torn:Bool} {after writes:Int} {d:Dk}
theorem Q_Do(h:Rd_ m1 m2 m3 fs off after torn armed writes d)(c:api_Change)(hc:SmC c) :
  ∃r,zdp c off after torn armed writes fs m1 m2 m3=some r∧r.1=(stepD c d).1 ∧
   Rd_ r.2.2.2.2.2.2.1 r.2.2.2.2.2.2.2.1 r.2.2.2.2.2.2.2.2 r.2.2.2.2.2.1 r.2.1 r.2.2.2.2.1 torn r.2.2.1 r.2.2.2.1 (stepD c d).2:=by
 have h0:=h;obtain⟨hg,hwr,hfs,hoff,hcut,haft,htorn,hw,hoc⟩:=h
 subst hfs;subst hoff;subst hcut;subst hw
 have hc2:=hg.c2;unfold zdp stepD
 cases hof:d.off with
 |true=>exact⟨_,rfl,rfl,by rw[hof]at h0;exact h0⟩
 |false =>
  rw[hof]at h0;simp only[cond_false];rw[zf0 hwr hg,zf];obtain⟨a,b,e',e,hw'⟩:=do_eq hwr hg c hc d.M.Facts;rw[e,zf]
  by_cases hs:(zbB c d.M).1=0
  ·rw[decide_eq_true hs,Bool.not_true,cond_false,cond_false]
   by_cases hca:d.cut=true∧d.after=0
   ·obtain⟨hc1,hc2'⟩:=hca
    have ea:=haft hc1;have et:=htorn hc1
    subst ea;subst et
    rw[hc1,hc2',decide_eq_true rfl,Bool.and_self,cond_true,cond_true];obtain⟨n1,n2,n3,en,hn⟩:=zcC hg;rw[en,zf]
    cases ht:d.torn&&decide (c.Kind=1)with
    |false =>
     rw[cond_false,cond_false];exact⟨_,rfl,rfl,hg,hn,rfl,rfl,rfl,fun e=>(by cases e),fun e=>(by cases e),rfl,fun _=>rfl⟩
    |true =>
     rw[cond_true,cond_true];simp only[Bool.and_eq_true,decide_eq_true_eq]at ht;obtain⟨p1,p2,p3⟩:=step_put1 ht.2 hs;have pl:=(zcH p1).2;have hl:=hn.l1;have hla:=zjf n1 c.File.Path (halfF c.File)
     have hla':(zcy n1 c.File.Path (halfF c.File)).length≤274877906944:=by split at hla <;> omega
     rw[zg (by decide),zg (by rw[half_len pl];omega),zg (by exact hla')];exact⟨_,rfl,rfl,good_put hg (halfF c.File) (eFile_half p1) p2 p3,hn.put1 (halfF c.File),rfl,rfl,rfl,fun e=>(by cases e),fun e=>(by cases e),rfl,fun _=>rfl⟩
   ·have hif:(d.cut&&decide (after=0))=false:=by
     cases hq:d.cut with
     |false=>rfl
     |true =>
      rw[haft hq,Bool.true_and]
      exact decide_eq_false fun e=>hca ⟨hq,e⟩
    have hif2:(d.cut&&decide (d.after=0))=false:=by
     cases hq:d.cut with
     |false=>rfl
     |true =>
      rw[Bool.true_and]
      exact decide_eq_false fun e=>hca ⟨hq,e⟩
    rw[hif,hif2,cond_false,cond_false];refine⟨_,rfl,rfl,zjo hg c,hw',(zjL c d.M).symm,rfl,rfl,fun hq=>?_,htorn,rfl,fun e=>(by cases e)⟩;have hq':d.cut=true:=hq;simp only[hq',cond_true];rw[haft hq']
  ·rw[decide_eq_false hs,Bool.not_false,cond_true,cond_true]
   rw[stepM_err hs]at hw';exact⟨_,rfl,rfl,hg,hw',rfl,hof.symm,rfl,haft,htorn,rfl,hoc⟩
theorem Q_Cut(h:Rd_ m1 m2 m3 fs off after torn armed writes d)(a:Int)(t:Bool) :
  ∃r,zdT a t off after torn armed writes fs m1 m2 m3=some r∧r.1=(cutD a t d).1∧Rd_ m1 m2 m3 fs off r.2.1 r.2.2.1 r.2.2.2 writes (cutD a t d).2:=by
 have h0:=h;obtain⟨hg,hwr,hfs,hoff,hcut,haft,htorn,hw,hoc⟩:=h;unfold zdT cutD
 cases decide (a<0)||decide (1000000<a)with
 |true=>exact⟨_,rfl,rfl,h0⟩
 |false =>
  rw[cond_false,cond_false,hoff]
  cases hof:d.off with
  |true=>rw[hoff,hof]at h0;exact⟨_,rfl,rfl,h0⟩
  |false=>exact⟨_,rfl,rfl,hg,hwr,hfs,rfl,rfl,fun _=>rfl,fun _=>rfl,hw,fun e=>(by cases e)⟩
theorem Q_Machine(h:Rd_ m1 m2 m3 fs off after torn armed writes d):zbQ off after torn armed writes fs m1 m2 m3=some (bif d.off then(noMach,12)else(d.M,0)):=by
 unfold zbQ;rw[h.off,h.fs,zf0 h.wr h.good,zf];exact zeX _ _ _
theorem Q_Peek(h:Rd_ m1 m2 m3 fs off after torn armed writes d):zc2 off after torn armed writes fs m1 m2 m3=some d.M:=by
 unfold zc2;rw[h.fs,zf0 h.wr h.good,zf]
end
def newD(M:api_Machine):Dk:=⟨M,false,false,0,false,0⟩
theorem Q_New{M:api_Machine}(hg:Good M):∃m1 m2 m3,zhq M=some (M.Facts,M.Files,M.Settings,M.Services,m1,m2,m3,M.Facts,false,0,false,false,0)∧Rd_ m1 m2 m3 M.Facts false 0 false false 0 (newD M):=by
 obtain⟨m1,m2,m3,e,h⟩:=zcC hg;unfold zhq;rw[e,zf];exact⟨_,_,_,rfl,hg,h,rfl,rfl,rfl,fun _=>rfl,fun _=>rfl,rfl,fun _=>rfl⟩
section
variable {M:api_Machine} {l:List api_Change}
end
section
variable {A:Type} {key:A→Str}
end
section
variable {l:List api_Change}
end
theorem lv_{A Z:Type}(x:A)(k:A→Option Z):zhb x k=k x:=rfl
def zkf:Str:=[115,116,97,103,101]
def wJrn:Str:=[115,116,97,103,101,47,106,111,117,114,110,97,108]
def wDone:Str:=[115,116,97,103,101,47,100,111,110,101]
def wBack:Str:=[115,116,97,103,101,47,98,97,99,107]
def stg(p:Str):Bool:=zhU p zkf
theorem zhs(p:Str):zeG p=some (stg p):=by
 unfold zeG;exact(congrArg (fun x=>Vc.call x fun r_2=>some r_2) (znI p zkf (by decide))).trans rfl
def zga(M:api_Machine):api_Machine:=⟨M.Facts,M.Files.filter (fun f=>!stg f.Path),M.Settings,M.Services⟩
theorem good_filter{M:api_Machine}(h:Good M)(q:api_File→Bool):Good ⟨M.Facts,M.Files.filter q,M.Settings,M.Services⟩ :=
 { h with
  c2:=Nat.le_trans (List.length_filter_le _ _) h.c2
  g1:=fun x hx=>h.g1 x (List.mem_filter.1 hx).1
  g2:=h.g2.filter _
  g3:=fun x hx y hy=>h.g3 x (List.mem_filter.1 hx).1 y (List.mem_filter.1 hy).1 }
theorem zj4{M:api_Machine}(h:Good M):Good (zga M):=good_filter h _
theorem Wr.keys1{m1:List (Str×api_File)}{m2:List (Str×Str)}{m3:List (Str×api_Service)}{M:api_Machine}(h:Wr m1 m2 m3 M):zgy m1=M.Files.map (·.Path):=by
 rw[←h.e1];exact(zgq (key:=fun x:api_File=>x.Path) h.k1).symm
theorem Wr.mem_key{m1:List (Str×api_File)}{m2:List (Str×Str)}{m3:List (Str×api_Service)}{M:api_Machine}(h:Wr m1 m2 m3 M){f:api_File}(hf:f∈M.Files):f.Path∈m1.map (·.1):=by
 rw[mem_keys,←mem_keysM,h.keys1];exact List.mem_map_of_mem hf
theorem znA{M:api_Machine}(hM:Good M):zkc M=some (zga M):=by
 obtain⟨m1,m2,m3,e,hw⟩:=zcC hM;unfold zkc;rw[e,zf];simp only[zaw];rw[zg hw.n1];refine zk4 (fun r s=>(r.map (·.1)).Nodup∧Wr s m2 m3 ⟨M.Facts,M.Files.filter (fun f=>!stg f.Path||decide (f.Path∈r.map (·.1))),M.Settings,M.Services⟩) (fun s hs=>?_) (fun r s nx x j hs hx hnx=>?_) _ _ _ rfl ⟨hw.n1,?_⟩
 ·have h2:=hs.2
  simp only[List.map_nil,List.not_mem_nil,decide_false,Bool.or_false]at h2;rw[show zW M.Facts s m2 m3=some (zga M)from zf0 (M:=zga M) h2 (zj4 hM),zf]
 ·obtain⟨hn,hs⟩:=hs
  have hp:=(zeR hx).map (fun p:Str×api_File=>p.1);rw[List.map_cons]at hp;have hn':=hp.nodup_iff.1 hn;rw[List.nodup_cons]at hn';rw[zhs,zf]
  cases hst:stg x.1 with
  |true =>
   rw[cond_true];refine hnx _ ⟨hn'.2,?_⟩;have:=hs.del1 x.1;unfold del at this;rw[List.filter_filter]at this
   have hf:(M.Files.filter fun a=>(!decide (a.Path=x.1))&&(!stg a.Path||decide (a.Path∈r.map (·.1))))=M.Files.filter fun f=>!stg f.Path||decide (f.Path∈(r.eraseIdx j).map (·.1)):=by
    refine List.filter_congr fun f _=>?_
    by_cases h:f.Path=x.1
    ·rw[decide_eq_true h,h,hst]
     simp only[Bool.not_true,Bool.false_and,Bool.false_or];exact(decide_eq_false hn'.1).symm
    ·rw[decide_eq_false h,Bool.not_false,Bool.true_and]
     congr 1
     refine decide_eq_decide.2 ?_;rw[hp.mem_iff,List.mem_cons];exact⟨fun q=>q.resolve_left h,.inr⟩
   simp only[hf]at this;exact this
  |false =>
   rw[cond_false];refine hnx _ ⟨hn'.2,?_⟩
   have hf:(M.Files.filter fun f=>!stg f.Path||decide (f.Path∈r.map (·.1)))=M.Files.filter fun f=>!stg f.Path||decide (f.Path∈(r.eraseIdx j).map (·.1)):=by
    refine List.filter_congr fun f _=>?_
    by_cases h:f.Path=x.1
    ·rw[h,hst];rfl
    ·congr 1
     refine decide_eq_decide.2 ?_;rw[hp.mem_iff,List.mem_cons];exact⟨fun q=>q.resolve_left h,.inr⟩
   rw[hf]at hs;exact hs
 ·have hf:(M.Files.filter fun f=>!stg f.Path||decide (f.Path∈m1.map (·.1)))=M.Files:=by
   rw[List.filter_eq_self];intro f hf;rw[decide_eq_true (hw.mem_key hf),Bool.or_true]
  rw[hf];exact hw
structure SmX(c:api_Change):Prop where
 sm:SmC c
 n:Sm c.Service.Name
def zeK(c:api_Change):Str :=
 bif decide (c.Kind=1)||decide (c.Kind=2)then [102,105,108,101,32]++c.File.Path else
 bif decide (c.Kind=3)||decide (c.Kind=4)then [115,101,116,116,105,110,103,32]++c.Setting.Key else [115,101,114,118,105,99,101,32]++c.Service.Name
theorem R_Place_eq(c:api_Change)(h:SmX c):zhp c=some (zeK c):=by
 have h1:=h.sm.fp;have h2:=h.sm.sp;have h3:=h.n;unfold Sm at h1 h2 h3;unfold zhp zeK;simp only[zaw];rw[zg (by simp;omega),zg (by simp;omega),zg (by simp;omega)]
 cases decide (c.Kind=1) <;> cases decide (c.Kind=2) <;> cases decide (c.Kind=3) <;> cases decide (c.Kind=4) <;> rfl
def denied(c:api_Change):Bool:=(decide (c.Kind=1)||decide (c.Kind=2))&&(decide (c.File.Path=zkf)||stg c.File.Path)
def zco(M:api_Machine)(l:List api_Change):Int :=
 bif (lkF M.Files zkf).isSome then 11 else bif !l.all (fun c=>!denied c)then 17 else
 bif !decide ((zcU l (zga M)).2=0)then(zcU l (zga M)).2 else bif decide ((l.length:Int)=0)then 9 else
 bif decide (l.map zeK).Nodup then 0 else 6
theorem zm5{Z:Type}(k:Option Z)(z:Z):∀(l:List api_Change) (i:Nat) (m:List (Str×Bool)),(∀c∈l,SmX c)→m.length+l.length≤274877906944→(m.map (·.1)).Nodup→(∀p∈m,p.2=true) →
  forL l i (fun i_67 c_69 m2_57 nx_66 k_65 =>
   call (zhp c_69) fun r_70 =>
   zhb (zu m2_57 r_70) fun q_71 =>
   bif (q_71.getD false)then
    some z
   else
   call (zhp c_69) fun r_73 =>
   chk ((zcy m2_57 r_73 true).length≤274877906944) <|
   nx_66 (zcy m2_57 r_73 true)) m (fun m2_57=>k)=bif decide (m.map (·.1)++l.map zeK).Nodup then k else some z
 |[],i,m,_,_,hn,_=>by
  unfold forL
  rw[List.map_nil,List.append_nil,decide_eq_true hn];rfl
 |c::l,i,m,hl,hlen,hn,ht=>by
  unfold forL;have hc:=R_Place_eq c (hl c (List.mem_cons_self ..));have hla:=zjf m (zeK c) true;simp only[List.length_cons]at hlen;dsimp only;rw[hc,zf,zf,lv_]
  cases ha:zu m (zeK c)with
  |some b =>
   have hb:=ht _ (zmp ha);simp only at hb;rw[hb];simp only[Option.getD_some,cond_true]
   rw[decide_eq_false];· rfl
   intro hd;have:=(List.nodup_append.1 hd).2.2 (zeK c) (mem_keys.2 (by rw[ha];rfl)) (zeK c) (by simp);exact this rfl
  |none =>
   rw[ha]at hla;simp only[Option.getD_none,cond_false];rw[zg (by rw[hla];simp;omega),zm5 k z l _ _ (fun x hx=>hl x (List.mem_cons_of_mem _ hx)) (by rw[hla];simp;omega) (zfY hn _ _) ?_]
   ·rw[zji,ha]
    simp
   ·intro p hp
    rw[aset_app _ _ _ (alook_none.1 ha)]at hp
    rcases List.mem_append.1 hp with hp|hp
    ·exact ht p hp
    ·rw[List.mem_singleton]at hp;rw[hp]
theorem deniedCond(a b c d:Bool):((a||b)&&(c||bif (a||b)&&!c then d else false))=((a||b)&&(c||d)):=by
 cases a <;> cases b <;> cases c <;> rfl
theorem zmv{M:api_Machine}(hM:Good M)(l:List api_Change)(hl:∀c∈l,SmX c)(hn:l.length≤134217728):zbg M l=some (zco M l):=by
 obtain⟨m1,m2,m3,e,hw⟩:=zcC hM;unfold zbg zco;rw[znB M hM.fit,zf,(zgA M).2 hM,decide_eq_true rfl,Bool.not_true,cond_false,e,zf,lv_];rw[show zu m1 ([115,116,97,103,101]:Str)=lkF M.Files zkf from hw.look1 _];cases (lkF M.Files zkf).isSome
 ·simp only[cond_false,zaw]
  rw[zc4 (fun c=>!denied c) (z:=(17:Int)) fun i c nx k=>?_]
  ·cases hd:l.all fun c=>!denied c
   ·rfl
   ·simp only[cond_true,Bool.not_true,cond_false]
    have hg:=zj4 hM;rw[znA hM,zf,zhL _ hg.fit l (fun c hc=>(hl c hc).sm),zf];unfold zmo;rw[(zgA _).2 hg,decide_eq_true rfl,Bool.not_true,cond_false];cases hs:decide ((zcU l (zga M)).2=0)
    ·rfl
    ·simp only[Bool.not_true,cond_false]
     cases h0:decide ((l.length:Int)=0)
     ·simp only[cond_false]
      rw[zm5 _ _ l 0 [] hl (by simp;omega) (by simp) (by simp)];simp only[List.map_nil,List.nil_append];exact zeX _ _ _
     ·rfl
  ·rw[zhs,zad]
   unfold denied;rw[show(decide (c.File.Path=([115,116,97,103,101]:Str)))=decide (c.File.Path=zkf)from rfl,deniedCond,zmR]
 ·rfl
def zgm(M:api_Machine)(l:List api_Change):List api_Change :=
 (l.take 12).foldl (fun o c=>bif decide (zco M (o++[c])=0)then o++[c]else o) []
theorem zic(M:api_Machine)(hM:Good M):∀(r:List api_Change) (i:Nat) (o:List api_Change),(∀c∈r,SmX c)→(∀c∈o,SmX c)→o.length+r.length≤1000 →
  forL r i (fun i_46 c_48 o1_38 nx_45 k_44 =>
  call (zK o1_38) fun r_49 =>
  chk ((r_49++[c_48]).length≤274877906944) <|
  call (zbg M (r_49++[c_48])) fun r_51 =>
  bif decide (r_51=0)then
   chk ((o1_38++[c_48]).length≤274877906944) <|
   nx_45 (o1_38++[c_48])
  else
  nx_45 o1_38) o (fun o1_38=>some o1_38)=some (r.foldl (fun o c=>bif decide (zco M (o++[c])=0)then o++[c]else o) o)
 |[],_,_,_,_,_=>rfl
 |c::r,i,o,hr,ho,hn=>by
  unfold forL;simp only[List.length_cons]at hn
  have ho':∀x∈o++[c],SmX x:=fun x hx=>by
   rcases List.mem_append.1 hx with hx|hx
   ·exact ho x hx
   ·rw[List.mem_singleton.1 hx];exact hr c (List.mem_cons_self ..)
  dsimp only;rw[show zK o=some o from clone_ends o (by omega),zf,zg (by simp;omega),zmv hM _ ho' (by simp;omega),zf,List.foldl_cons]
  have hr':∀x∈r,SmX x:=fun x hx=>hr x (List.mem_cons_of_mem _ hx)
  cases decide (zco M (o++[c])=0)
  ·simp only[cond_false]
   exact zic M hM r (i+1) o hr' ho (by omega)
  ·simp only[cond_true]
   rw[zg (by simp;omega)];exact zic M hM r (i+1) (o++[c]) hr' ho' (by simp;omega)
theorem within_eq{M:api_Machine}(hM:Good M)(l:List api_Change)(hl:∀c∈l,SmX c)(hn:l.length≤134217728):zgi M l false=some (zgm M l):=by
 unfold zgi zgm;simp only[cond_false,zaw]
 have hmin:(min (l.length:Int) 12).toNat=min l.length 12:=by omega
 rw[zg (by omega),hmin]
 have ht:l.take (min l.length 12)=l.take 12:=by rw[←List.take_take,List.take_of_length_le (by simp;omega)]
 rw[ht];exact zic M hM (l.take 12) 0 [] (fun c hc=>hl c (List.mem_of_mem_take hc)) (by simp) (by simp;omega)
theorem zmT(M:api_Machine):∀(r o:List api_Change),∀c∈r.foldl (fun o c=>bif decide (zco M (o++[c])=0)then o++[c]else o) o,c∈o∨c∈r
 |[],o,c,h=>.inl h
 |x::r,o,c,h=>by
  rw[List.foldl_cons]at h
  rcases zmT M r _ c h with h|h
  ·cases hd:decide (zco M (o++[x])=0) <;> rw[hd]at h
   ·exact .inl h
   ·rcases List.mem_append.1 h with h|h
    ·exact .inl h
    ·rw[List.mem_singleton.1 h];exact .inr (List.mem_cons_self ..)
  ·exact .inr (List.mem_cons_of_mem _ h)
theorem zjE{M:api_Machine}{l:List api_Change}:∀c∈zgm M l,c∈l:=fun c h=>by
 rcases zmT M _ _ c h with h|h
 ·cases h
 ·exact List.mem_of_mem_take h
theorem zmU(M:api_Machine):∀(r o:List api_Change),(r.foldl (fun o c=>bif decide (zco M (o++[c])=0)then o++[c]else o) o).length≤o.length+r.length
 |[],o=>Nat.le_refl _
 |x::r,o=>by
  rw[List.foldl_cons];have:=zmU M r (bif decide (zco M (o++[x])=0)then o++[x]else o)
  have h2:(bif decide (zco M (o++[x])=0)then o++[x]else o).length≤o.length+1:=by
   cases decide (zco M (o++[x])=0) <;> simp
  simp only[List.length_cons];omega
theorem within_le(M:api_Machine)(l:List api_Change):(zgm M l).length≤12:=by
 have:=zmU M (l.take 12) [];simp only[List.length_take,List.length_nil]at this;unfold zgm;omega
noncomputable def parseJ(s:Str):api_Journal×Int:=(za7 s).getD (ZJ,8)
theorem zm6(s:Str)(hs:s.length≤4194304):zaG s=some (parseJ s)∧za7 s=some (parseJ s):=by
 obtain⟨L,t,_,_,_,_,h5,h6⟩:=parse_same s hs;unfold parseJ;rw[h6];exact⟨h5,rfl⟩
noncomputable def zoe(M:api_Machine):api_Journal×Int:=match lkF M.Files wJrn with
 |none=>(ZJ,0)
 |some f=>bif !decide ((parseJ f.Data).2=0)then(ZJ,1)else((parseJ f.Data).1,2)
theorem file_data{M:api_Machine}(hM:Good M){f:api_File}(hf:f∈M.Files):f.Data.length≤65536:=(zcH (hM.g1 f hf)).2
theorem R_Look_eq{M:api_Machine}(hM:Good M):znz M=some (zoe M):=by
 obtain⟨m1,m2,m3,e,hw⟩:=zcC hM;unfold znz zoe;rw[e,zf,lv_,show zu m1 ([115,116,97,103,101,47,106,111,117,114,110,97,108]:Str)=lkF M.Files wJrn from hw.look1 _]
 cases h:lkF M.Files wJrn with
 |none=>rfl
 |some f =>
  have hd:=file_data hM (zdJ h).1;simp only[Option.isSome_some,Bool.not_true,cond_false,Option.getD_some];rw[(zm6 f.Data (by omega)).2,zf];exact zeX _ _ _
theorem idxFile(p:Str)(l:List api_File):∀(r:List api_File) (i:Nat),l.drop i=r →
  (forL r i (fun i_37 f_39 s nx_36 k_35 =>
  call (zba f_39 p) fun r_40 =>
  bif r_40 then
   some (i_37:Int)
  else
  nx_36 ()) () (fun _=>some (-1))=some (-1)∧lkF r p=none) ∨
  ∃j:Nat,∃h:j<l.length,forL r i (fun i_37 f_39 s nx_36 k_35 =>
  call (zba f_39 p) fun r_40 =>
  bif r_40 then
   some (i_37:Int)
  else
  nx_36 ()) () (fun _=>some (-1))=some (j:Int)∧lkF r p=some l[j]
 |[],i,_=>.inl ⟨rfl,rfl⟩
 |f::r,i,hd=>by
  have hi:i<l.length:=by
   rcases Nat.lt_or_ge i l.length with h|h
   ·exact h
   ·rw[List.drop_eq_nil_of_le h]at hd;cases hd
  have hx:=List.drop_eq_getElem_cons hi;rw[hd]at hx;obtain⟨h1,h2⟩:=List.cons.inj hx;unfold forL;dsimp only;unfold zba;rw[zf]
  by_cases hp:f.Path=p
  ·refine .inr ⟨i,hi,?_,?_⟩
   ·rw[decide_eq_true hp];rfl
   ·show List.find? _ (f::r)=_
    rw[List.find?_cons_of_pos (by simpa using hp),h1]
  ·rw[decide_eq_false hp,cond_false]
   have hf:lkF (f::r) p=lkF r p:=by
    show List.find? _ (f::r)=List.find? _ r
    rw[List.find?_cons_of_neg (by simpa using hp)]
   rw[hf];exact idxFile p l r (i+1) h2.symm
theorem fileOf_eq(M:api_Machine)(p:Str):zde M p=some (match lkF M.Files p with|none=>(zaQ,false)|some f=>(f,true)):=by
 unfold zde z7;simp only[zaw]
 rcases idxFile p M.Files M.Files 0 rfl with⟨h1,h2⟩|⟨j,hj,h1,h2⟩
 ·rw[h1,h2,zf];rfl
 ·rw[h1,h2,zf,decide_eq_false (by omega),cond_false,zd0 hj]
theorem look_eq{M:api_Machine}(hM:Good M):zfM M=some (zoe M):=by
 unfold zfM zoe;rw[show zde M ([115,116,97,103,101,47,106,111,117,114,110,97,108]:Str)=_ from fileOf_eq M wJrn,zf]
 cases h:lkF M.Files wJrn with
 |none=>rfl
 |some f =>
  have hd:=file_data hM (zdJ h).1;simp only[Bool.not_true,cond_false];rw[(zm6 f.Data (by omega)).1,zf];exact zeX _ _ _
theorem Look_eq{M:api_Machine}(hM:Good M):zfN M=some ((zoe M).1,(zoe M).2,0):=by
 unfold zfN;rw[zoD M hM.fit,zf,(zgA M).2 hM,decide_eq_true rfl,Bool.not_true,cond_false,look_eq hM,zf]
def zjs(last:Str)(M:api_Machine):List api_Change :=
 ((M.Files.map (·.Path)).filter (fun k=>!decide (k=last)&&stg k)).map zhj++bif decide (last∈M.Files.map (·.Path))then [zhj last]else []
theorem zhG{Z:Type}(last:Str)(K:Bool×List api_Change→Option Z):∀(l:List Str) (i:Nat) (e:Bool) (o:List api_Change),o.length+l.length≤100000 →
  forL l i (fun i_98 s_100 s nx_97 k_96 =>
  match s with
  |(end_89,o4_91) =>
   bif decide (s_100=last)then
    nx_97 (true,o4_91)
   else
   call (zeG s_100) fun r_101 =>
   bif r_101 then
    call (zc5 s_100) fun r_102 =>
    chk ((o4_91++[r_102]).length≤274877906944) <|
    nx_97 (end_89,o4_91++[r_102])
   else
   nx_97 (end_89,o4_91)) (e,o) (fun s=>match s with
  |(end_89,o4_91)=>K (end_89,o4_91))=K (e||decide (last∈l),o++(l.filter fun k=>!decide (k=last)&&stg k).map zhj)
 |[],i,e,o,_=>by
  unfold forL;simp
 |x::l,i,e,o,hn=>by
  unfold forL;simp only[List.length_cons]at hn;dsimp only
  by_cases hx:x=last
  ·rw[decide_eq_true hx,cond_true,zhG last K l (i+1) true o (by omega)]
   subst hx;simp
  ·rw[decide_eq_false hx,cond_false,zhs,zf]
   have hm:decide (last∈x::l)=decide (last∈l):=decide_eq_decide.2 (by rw[List.mem_cons];exact⟨fun q=>q.resolve_left fun e=>hx e.symm,.inr⟩);rw[hm,List.filter_cons,decide_eq_false hx];cases stg x
   ·simp only[cond_false,Bool.and_false,Bool.false_eq_true,if_false]
    rw[zhG last K l (i+1) e o (by omega)]
   ·simp only[cond_true,Bool.not_false,Bool.and_self,if_true]
    rw[show zc5 x=some (zhj x)from rfl,zf,zg (by simp;omega),zhG last K l (i+1) e _ (by simp;omega)];simp
theorem R_clear_eq{m1:List (Str×api_File)}{m2:List (Str×Str)}{m3:List (Str×api_Service)}{M:api_Machine}(hw:Wr m1 m2 m3 M)(hM:Good M)(last:Str)(fs:List api_Setting) :
  zcc last fs m1 m2 m3=some (zjs last M):=by
 have h2:=hM.c2;have hl:=hw.l1;unfold zcc zjs;simp only[zaw];rw[show zaa m1=some (M.Files.map (·.Path))from(zer m1 (by omega)).trans (congrArg some hw.keys1),zf];refine(zhG last (fun s=>bif s.1 then call (zc5 last) fun r_80=>chk ((s.2++[r_80]).length≤274877906944) <| some (s.2++[r_80])else some s.2) (M.Files.map (·.Path)) 0 false [] (by simp;omega)).trans ?_;simp only[Bool.false_or,List.nil_append];have hfl:=List.length_filter_le (fun k=>!decide (k=last)&&stg k) (M.Files.map (·.Path));rw[List.length_map]at hfl;cases decide (last∈M.Files.map (·.Path))
 ·simp
 ·rw[cond_true,show zc5 last=some (zhj last)from rfl,zf,zg (by simp only[List.length_append,List.length_map,List.length_singleton];omega)]
  rfl
theorem mem_diff{a b:api_Machine}{c:api_Change}(h:c∈zkL a b) :
  (∃f∈a.Files,c=zhj f.Path)∨(∃s∈a.Settings,c=chUns s.Key)∨(∃s∈a.Services,c=chDrp s.Name)∨(∃f∈b.Files,c=zfh f)∨(∃s∈b.Settings,c=ziC s)∨(∃s∈b.Services,c=ziB s):=by
 unfold zkL at h;simp only[List.mem_append,List.mem_map]at h
 rcases h with((((⟨f,hf,rfl⟩|⟨f,hf,rfl⟩)|⟨f,hf,rfl⟩)|⟨f,hf,rfl⟩)|⟨f,hf,rfl⟩)|⟨f,hf,rfl⟩
 ·exact .inl ⟨f,(List.mem_filter.1 hf).1,rfl⟩
 ·exact .inr (.inl ⟨f,(List.mem_filter.1 hf).1,rfl⟩)
 ·exact .inr (.inr (.inl ⟨f,(List.mem_filter.1 hf).1,rfl⟩))
 ·exact .inr (.inr (.inr (.inl ⟨f,(List.mem_filter.1 hf).1,rfl⟩)))
 ·exact .inr (.inr (.inr (.inr (.inl ⟨f,(List.mem_filter.1 hf).1,rfl⟩))))
 ·exact .inr (.inr (.inr (.inr (.inr ⟨f,(List.mem_filter.1 hf).1,rfl⟩))))
structure Brf(c:api_Change):Prop where
 fp:c.File.Path.length≤1000
 fd:c.File.Data.length≤65536
 sk:c.Setting.Key.length≤1000
 sv:c.Setting.Value.length≤1000
 vn:c.Service.Name.length≤1000
 vp:c.Service.Path.length≤1000
theorem Brf.x{c:api_Change}(h:Brf c):SmX c:=⟨⟨by have:=h.fp;unfold Sm;omega,by have:=h.sk;unfold Sm;omega,by have:=h.vp;unfold Sm;omega⟩,by have:=h.vn;unfold Sm;omega⟩
theorem Brf.d{c:api_Change}(h:Brf c):SmD c:=⟨by have:=h.fd;omega,by have:=h.sv;omega⟩
theorem zmk{k:Str}(h:k.length≤1000):Brf (zhj k):=⟨h,Nat.zero_le _,Nat.zero_le _,Nat.zero_le _,Nat.zero_le _,Nat.zero_le _⟩
theorem brf_put{f:api_File}(h:f.Path.length≤1000)(h':f.Data.length≤65536):Brf (zfh f):=⟨h,h',Nat.zero_le _,Nat.zero_le _,Nat.zero_le _,Nat.zero_le _⟩
theorem zoE{a b:api_Machine}(ha:Good a)(hb:Good b){c:api_Change}(h:c∈zkL a b):Brf c:=by
 have z:=Nat.zero_le
 rcases mem_diff h with⟨f,hf,rfl⟩|⟨f,hf,rfl⟩|⟨f,hf,rfl⟩|⟨f,hf,rfl⟩|⟨f,hf,rfl⟩|⟨f,hf,rfl⟩
 ·have:=zbJ (zcH (ha.g1 f hf)).1
  exact zmk (by omega)
 ·have:=zbJ (zoA (ha.s1 f hf)).1
  exact⟨z _,z _,by show f.Key.length≤1000;omega,z _,z _,z _⟩
 ·have:=zne (zmb (ha.v1 f hf)).1
  exact⟨z _,z _,z _,z _,by show f.Name.length≤1000;omega,z _⟩
 ·have:=zcH (hb.g1 f hf)
  have h1:=zbJ this.1;exact brf_put (by omega) this.2
 ·have:=zoA (hb.s1 f hf)
  have h1:=zbJ this.1;have h2:=valueOk_len this.2;exact⟨z _,z _,by show f.Key.length≤1000;omega,by show f.Value.length≤1000;omega,z _,z _⟩
 ·have:=zmb (hb.v1 f hf)
  have h1:=zne this.1;have h2:=zbJ this.2;exact⟨z _,z _,z _,z _,by show f.Name.length≤1000;omega,by show f.Path.length≤1000;omega⟩
theorem diff_len{a b:api_Machine}(ha:Good a)(hb:Good b):(zkL a b).length≤10000:=by
 have a2:=ha.c2;have a3:=ha.c3;have a4:=ha.c4;have b2:=hb.c2;have b3:=hb.c3;have b4:=hb.c4;have h1:=zop (·.Path) a.Files b.Files;have h2:=zop (·.Key) a.Settings b.Settings;have h3:=zop (·.Name) a.Services b.Services;have h4:=zoF (·.Path) zhh a.Files b.Files;have h5:=zoF (·.Key) zmO a.Settings b.Settings;have h6:=zoF (·.Name) zl9 a.Services b.Services;unfold zkL;simp only[List.length_append,List.length_map];omega
theorem line_few{c:api_Change}(h:Brf c):(zmL c).length+1≤300000:=by
 have q1:=zhy c.File.Data;have q2:=zhy c.Setting.Value;have b1:=zhI c.Service.Auto;have b2:=zhI c.Service.On;obtain⟨h1,h2,h3,h4,h5,h6⟩:=h;unfold zmL fileW setW svcW;cases decide (c.Kind=1)
 ·cases decide (c.Kind=2)
  ·cases decide (c.Kind=3)
   ·cases decide (c.Kind=4)
    ·cases decide (c.Kind=5)
     ·simp only[cond_false,List.length_append,List.length_cons,List.length_nil];omega
     ·simp only[cond_false,cond_true,List.length_append,List.length_cons,List.length_nil,b1,b2];omega
    ·simp only[cond_false,cond_true,List.length_append,List.length_cons,List.length_nil];omega
   ·simp only[cond_false,cond_true,List.length_append,List.length_cons,List.length_nil];omega
  ·simp only[cond_false,cond_true,List.length_append,List.length_cons,List.length_nil];omega
 ·cases c.File.Runs <;> (simp only[cond_false,cond_true,List.length_append,List.length_cons,List.length_nil];omega)
theorem print_few:∀l:List api_Change,(∀c∈l,Brf c)→(zb1 l).length≤300000*l.length
 |[],_=>by simp[zb1]
 |c::l,h=>by
  have h1:=line_few (h c (List.mem_cons_self ..))
  have h2:=print_few l fun d hd=>h d (List.mem_cons_of_mem _ hd)
  rw[zgt];simp only[List.length_append,List.length_cons,List.length_nil];omega
structure SmW(l:List api_Change):Prop where
 c:∀c∈l,SmC c
 d:∀c∈l,SmD c
 p:(zb1 l).length≤8589934592
 n:l.length≤4194304
theorem diff_smw{a b:api_Machine}(ha:Good a)(hb:Good b):SmW (zkL a b):=by
 have h1:=diff_len ha hb
 have h2:=print_few (zkL a b) fun c hc=>zoE ha hb hc
 exact⟨fun c hc=>(zoE ha hb hc).x.sm,fun c hc=>(zoE ha hb hc).d,by omega,by omega⟩
theorem R_printW(l:List api_Change)(h:SmW l)(he:zfn l=0):za6 l=some (zb1 l) :=
 zny l h.d (fun c hc=>(zhF (zmd he c hc)).1) (by have:=h.p;omega)
theorem part_lenW(w:Str)(l:List api_Change)(hw:w.length≤10)(h:SmW l):(zhN w l).length≤9000000000:=by
 have h1:=h.p;have h2:=ze0 h.n;unfold zhN;simp only[List.length_append,List.length_cons];omega
theorem R_printJW(j:api_Journal)(h1:SmW j.Changes)(h2:SmW j.Old):zaF j=some (pJ j):=by
 unfold zaF pJ;rw[zdb,zf];cases hn:zbe j.Id
 ·rfl
 have hl:=zkY hn;have g1:=part_lenW zlb _ (by decide) h1;have g2:=part_lenW zkQ _ (by decide) h2;have i1:=ze0 h1.n;have i2:=ze0 h2.n;have p1:=h1.p;have p2:=h2.p;simp only[Bool.not_true,cond_false];rw[zfz _ h1.c,zf,zfz _ h2.c,zf,R_first2,zf]
 show(bif !decide (eJ j=0)then some ([],eJ j)else _)=_
 cases he:decide (eJ j=0)
 ·rfl
 obtain⟨e1,e2⟩:=eJ_zero (of_decide_eq_true he);simp only[Bool.not_true,cond_false]
 have hb:((((((((([106,111,117,114,110,97,108,32]:Str)++j.Id)++([10,99,104,97,110,103,101,115,32]:Str))++Go.Lib.itoa (j.Changes.length:Int))++([10]:Str))++zb1 j.Changes)++([111,108,100,32]:Str))++Go.Lib.itoa (j.Old.length:Int))++([10]:Str))++zb1 j.Old=zhT j:=by
  simp[zhT,zhN,wJou,zlb,zkQ]
 have hbl:(zhT j).length≤40000000000:=by
  unfold zhT;simp only[List.length_append,List.length_cons,show wJou.length=7 from rfl];omega
 have hs:=zll (zhT j)
 have hp:zhT j++((([115,117,109,32]:Str)++sumS (zhT j))++([10]:Str))=zgN j:=by
  simp[zgN,sealJ,wSum]
 rw[←hb]at hp hs hbl;rw[zg (by simp;omega),zg (by simp;omega),zjj _ h1.n,zf,zg (by simp;omega),zg (by simp;omega),R_printW _ h1 e1,zf,zg (by simp;omega),zg (by simp;omega),zjj _ h2.n,zf,zg (by simp;omega),zg (by simp;omega),R_printW _ h2 e2,zf,zg (by simp;omega)];rw[zkb,zf,zg (by simp only[List.length_append];rw[hs];simp),zg (by simp only[List.length_append];rw[hs];simp),zg (by simp only[List.length_append]at hbl⊢;rw[hs];simp only[List.length_cons,List.length_nil]at hbl⊢;omega)];exact(zeX _ _ _).trans (congrArg (fun t:Str=>some (bif decide (65536<((t.length:Nat):Int))then(([]:Str),(4:Int))else(t,0))) hp)
theorem zj3:∀(l:List api_Change) {M:api_Machine},Good M→(zcU l M).2=0→Good (zcU l M).1
 |[],M,h,_=>h
 |c::l,M,h,hs=>by
  unfold zcU at hs⊢
  by_cases h0:(zbB c M).1=0
  ·rw[decide_eq_true h0]at hs⊢
   exact zj3 l (zjo h c) hs
  ·rw[decide_eq_false h0]at hs
   exact absurd hs h0
theorem staged_zero{M:api_Machine}{l:List api_Change}(h:zco M l=0):(zcU l (zga M)).2=0:=by
 unfold zco at h;cases h1:(lkF M.Files zkf).isSome
 ·rw[h1,cond_false]at h
  cases h2:!l.all (fun c=>!denied c)
  ·rw[h2,cond_false]at h
   cases h3:decide ((zcU l (zga M)).2=0)
   ·rw[h3]at h
    exact h
   ·exact of_decide_eq_true h3
  ·rw[h2]at h;cases h
 ·rw[h1]at h;cases h
def outS(M:api_Machine)(id:Str)(l:List api_Change)(t:Str):List api_Change :=
 (zjs wJrn M++[zfh ⟨wJrn,t,false⟩])++l++[zfh ⟨wDone,id,false⟩,zhj wJrn,zhj wDone]
def oldS(M:api_Machine)(l:List api_Change):List api_Change:=zkL (zcU l (zga M)).1 (zga M)
noncomputable def zgl(M:api_Machine)(id:Str)(l:List api_Change):List api_Change×Int :=
 bif !decide (zco M l=0)then([],zco M l)else bif !zbe id then([],5)else
 bif ((lkF M.Files wDone).isSome||(lkF M.Files wBack).isSome)||decide ((zoe M).2=2)then([],12)else
 bif !decide ((pJ ⟨id,l,oldS M l⟩).2=0)then([],(pJ ⟨id,l,oldS M l⟩).2)else
 bif !decide ((zcU (outS M id l (pJ ⟨id,l,oldS M l⟩).1) M).2=0)then([],(zcU (outS M id l (pJ ⟨id,l,oldS M l⟩).1) M).2)else(outS M id l (pJ ⟨id,l,oldS M l⟩).1,0)
theorem clear_len{M:api_Machine}(hM:Good M)(last:Str):(zjs last M).length≤2001:=by
 have h2:=hM.c2;have hfl:=List.length_filter_le (fun k=>!decide (k=last)&&stg k) (M.Files.map (·.Path));rw[List.length_map]at hfl;unfold zjs
 cases decide (last∈M.Files.map (·.Path)) <;> (simp only[cond_true,cond_false,List.length_append,List.length_map,List.length_singleton,List.length_nil];omega)
theorem path_len{M:api_Machine}(hM:Good M){k:Str}(h:k∈M.Files.map (·.Path)):k.length≤1000:=by
 obtain⟨f,hf,rfl⟩:=List.mem_map.1 h;have:=zbJ (zcH (hM.g1 f hf)).1;omega
theorem clear_brf{M:api_Machine}(hM:Good M)(last:Str):∀c∈zjs last M,Brf c:=fun c hc=>by
 unfold zjs at hc
 rcases List.mem_append.1 hc with hc|hc
 ·obtain⟨k,hk,rfl⟩:=List.mem_map.1 hc
  exact zmk (path_len hM (List.mem_filter.1 hk).1)
 ·cases hd:decide (last∈M.Files.map (·.Path)) <;> rw[hd]at hc
  ·cases hc
  ·rw[List.mem_singleton.1 hc]
   exact zmk (path_len hM (of_decide_eq_true hd))
theorem pJ_len{j:api_Journal}(h:(pJ j).2=0):(pJ j).1.length≤65536:=by
 obtain⟨ok,e⟩:=pJ_ok h;rw[e];exact ok.len
theorem out_smx{M:api_Machine}(hM:Good M){id:Str}(hid:id.length≤40){l:List api_Change}(hl:∀c∈l,SmX c){t:Str}(ht:t.length≤65536):∀c∈outS M id l t,SmX c:=fun c hc=>by
 unfold outS at hc;simp only[List.mem_append,List.mem_cons,List.not_mem_nil,or_false]at hc
 rcases hc with((hc|rfl)|hc)|rfl|rfl|rfl
 ·exact(clear_brf hM _ c hc).x
 ·exact(brf_put (f:=⟨wJrn,t,false⟩) (show wJrn.length≤1000 by decide) ht).x
 ·exact hl c hc
 ·exact(brf_put (f:=⟨wDone,id,false⟩) (show wDone.length≤1000 by decide) (by show id.length≤65536;omega)).x
 ·exact(zmk (by decide)).x
 ·exact(zmk (by decide)).x
theorem R_UndoS{M:api_Machine}(hM:Good M)(l:List api_Change)(hl:∀c∈l,SmX c)(hs:(zcU l M).2=0):R_Undo M l=some (zkL (zcU l M).1 M,0):=by
 unfold R_Undo;rw[zhL M hM.fit l (fun c hc=>(hl c hc).sm),zf];unfold zmo;rw[(zgA _).2 hM,decide_eq_true rfl,Bool.not_true,cond_false,decide_eq_true hs,Bool.not_true,cond_false,R_Diff_eq (zj3 l hM hs) hM,zf]
theorem R_Writes_eq{M:api_Machine}(hM:Good M)(id:Str)(l:List api_Change)(hl:∀c∈l,SmX c)(hw:SmW l):zjz M id l=some (zgl M id l):=by
 obtain⟨m1,m2,m3,e,hr⟩:=zcC hM;have hn:=hw.n;have hcl:=clear_len hM wJrn;unfold zjz zgl;rw[zmv hM l hl (by omega),zf]
 by_cases h0:zco M l=0
 ·rw[decide_eq_true h0,Bool.not_true,cond_false,cond_false,e,zf,lv_,lv_,R_Look_eq hM,zf,zdb,zf]
  cases hid:zbe id
  ·rfl
  have hidl:=zkY hid;have hs:=staged_zero h0;have hgc:=zj4 hM;have hg:=zj3 l hgc hs;simp only[Bool.not_true,cond_false];rw[show zu m1 ([115,116,97,103,101,47,100,111,110,101]:Str)=lkF M.Files wDone from hr.look1 _,show zu m1 ([115,116,97,103,101,47,98,97,99,107]:Str)=lkF M.Files wBack from hr.look1 _]
  cases ((lkF M.Files wDone).isSome||(lkF M.Files wBack).isSome)||decide ((zoe M).2=2)
  ·simp only[cond_false]
   rw[znA hM,zf,R_UndoS hgc l hl hs,zf,decide_eq_true rfl,Bool.not_true,cond_false];rw[show zaF ⟨id,l,zkL (zcU l (zga M)).1 (zga M)⟩=some (pJ ⟨id,l,oldS M l⟩)from R_printJW ⟨id,l,oldS M l⟩ hw (diff_smw hg hgc),zf]
   by_cases hp:(pJ ⟨id,l,oldS M l⟩).2=0
   ·have hpl:=pJ_len hp
    rw[decide_eq_true hp,Bool.not_true,cond_false,cond_false];rw[show zcc ([115,116,97,103,101,47,106,111,117,114,110,97,108]:Str) M.Facts m1 m2 m3=some (zjs wJrn M)from R_clear_eq hr hM wJrn M.Facts,zf];rw[show R_put ([115,116,97,103,101,47,106,111,117,114,110,97,108]:Str) (pJ ⟨id,l,oldS M l⟩).1=some (zfh ⟨wJrn,(pJ ⟨id,l,oldS M l⟩).1,false⟩)from rfl,zf];rw[zg (by simp only[List.length_append,List.length_singleton];omega),zg (by simp only[List.length_append,List.length_singleton];omega)]
    rw[show R_put ([115,116,97,103,101,47,100,111,110,101]:Str) id=some (zfh ⟨wDone,id,false⟩)from rfl,zf,show zc5 ([115,116,97,103,101,47,106,111,117,114,110,97,108]:Str)=some (zhj wJrn)from rfl,zf,
     show zc5 ([115,116,97,103,101,47,100,111,110,101]:Str)=some (zhj wDone)from rfl,zf]
    rw[zg (by simp only[List.length_append,List.length_singleton,List.length_cons,List.length_nil];omega)];rw[show zfI M (((zjs wJrn M++[zfh ⟨wJrn,(pJ ⟨id,l,oldS M l⟩).1,false⟩])++l)++[zfh ⟨wDone,id,false⟩,zhj wJrn,zhj wDone])=some (zmo M (outS M id l (pJ ⟨id,l,oldS M l⟩).1))from zhL M hM.fit _ (fun c hc=>(out_smx hM hidl hl hpl c hc).sm),zf];unfold zmo;rw[(zgA _).2 hM,decide_eq_true rfl,Bool.not_true,cond_false];exact zeX _ _ _
   ·rw[decide_eq_false hp];rfl
  ·rfl
 ·rw[decide_eq_false h0];rfl
theorem writes_smx{M:api_Machine}(hM:Good M)(id:Str)(l:List api_Change)(hl:∀c∈l,SmX c):∀c∈(zgl M id l).1,SmX c:=fun c hc=>by
 unfold zgl at hc;cases h0:!decide (zco M l=0)
 ·rw[h0,cond_false]at hc
  cases hid:zbe id
  ·rw[hid]at hc;cases hc
  rw[hid]at hc;simp only[Bool.not_true,cond_false]at hc
  cases h1:((lkF M.Files wDone).isSome||(lkF M.Files wBack).isSome)||decide ((zoe M).2=2)
  ·rw[h1,cond_false]at hc
   by_cases hp:(pJ ⟨id,l,oldS M l⟩).2=0
   ·rw[decide_eq_true hp,Bool.not_true,cond_false]at hc
    cases h2:!decide ((zcU (outS M id l (pJ ⟨id,l,oldS M l⟩).1) M).2=0)
    ·rw[h2,cond_false]at hc
     exact out_smx hM (zkY hid) hl (pJ_len hp) c hc
    ·rw[h2]at hc;cases hc
   ·rw[decide_eq_false hp]at hc;cases hc
  ·rw[h1]at hc;cases hc
 ·rw[h0]at hc;cases hc
def allD:List api_Change→Dk→Int×Dk
 |[],d=>(0,d)
 |c::l,d=>bif !decide ((stepD c d).1=0)then stepD c d else allD l (stepD c d).2
noncomputable def ziL(id:Str)(l:List api_Change)(d:Dk):Int×Dk :=
 bif d.off then(12,d)else bif !decide ((zgl d.M id l).2=0)then((zgl d.M id l).2,d)else allD (zgl d.M id l).1 d
section
variable {m1:List (Str×api_File)} {m2:List (Str×Str)} {m3:List (Str×api_Service)} {fs:List api_Setting} {off armed torn:Bool} {after writes:Int} {d:Dk}
theorem Q_all:∀(l:List api_Change) (i:Nat) (m1:List (Str×api_File)) (m2:List (Str×Str)) (m3:List (Str×api_Service)) (fs:List api_Setting) (off:Bool) (after:Int) (armed:Bool) (writes:Int) (d:Dk),
  Rd_ m1 m2 m3 fs off after torn armed writes d→(∀c∈l,SmX c) →
  ∃r,forL l i (fun i_105 c_107 s nx_104 k_103 =>
  match s with
  |(o0_1_93,o0_2_94,o0_4_95,o0_5_96,o1_0_97,m2_98,m3_99,m4_100) =>
   call (zdp c_107 o0_1_93 o0_2_94 torn o0_4_95 o0_5_96 o1_0_97 m2_98 m3_99 m4_100) fun r_108 =>
   bif !decide (r_108.1=0)then
    some (r_108.1,r_108.2.1,r_108.2.2.2.2.1,r_108.2.2.1,r_108.2.2.2.1,r_108.2.2.2.2.2.1,r_108.2.2.2.2.2.2.1,r_108.2.2.2.2.2.2.2.1,r_108.2.2.2.2.2.2.2.2)
   else
   nx_104 (r_108.2.1,r_108.2.2.2.2.1,r_108.2.2.1,r_108.2.2.2.1,r_108.2.2.2.2.2.1,r_108.2.2.2.2.2.2.1,r_108.2.2.2.2.2.2.2.1,r_108.2.2.2.2.2.2.2.2)) (off,after,armed,writes,fs,m1,m2,m3) (fun s=>match s with
  |(o0_1_93,o0_2_94,o0_4_95,o0_5_96,o1_0_97,m2_98,m3_99,m4_100) =>
   some ((0:Int),o0_1_93,o0_2_94,o0_4_95,o0_5_96,o1_0_97,m2_98,m3_99,m4_100))=some r∧r.1=(allD l d).1 ∧
   Rd_ r.2.2.2.2.2.2.1 r.2.2.2.2.2.2.2.1 r.2.2.2.2.2.2.2.2 r.2.2.2.2.2.1 r.2.1 r.2.2.1 torn r.2.2.2.1 r.2.2.2.2.1 (allD l d).2
 |[],i,m1,m2,m3,fs,off,after,armed,writes,d,h,_=>⟨_,rfl,rfl,h⟩
 |c::l,i,m1,m2,m3,fs,off,after,armed,writes,d,h,hl=>by
  obtain⟨r,e,h1,h2⟩:=Q_Do h c (hl c (List.mem_cons_self ..)).sm;unfold forL allD;dsimp only;rw[e,zf,←h1];cases h0:decide (r.1=0)
  ·exact⟨_,rfl,h1,h2⟩
  ·simp only[Bool.not_true,cond_false]
   exact Q_all l (i+1) _ _ _ _ _ _ _ _ _ h2 (fun x hx=>hl x (List.mem_cons_of_mem _ hx))
theorem Q_Run(h:Rd_ m1 m2 m3 fs off after torn armed writes d)(id:Str)(l:List api_Change)(hl:∀c∈l,SmX c)(hw:SmW l) :
  ∃r,zjA id l off after torn armed writes fs m1 m2 m3=some r∧r.1=(ziL id l d).1 ∧
   Rd_ r.2.2.2.2.2.2.1 r.2.2.2.2.2.2.2.1 r.2.2.2.2.2.2.2.2 r.2.2.2.2.2.1 r.2.1 r.2.2.1 torn r.2.2.2.1 r.2.2.2.2.1 (ziL id l d).2:=by
 unfold zjA ziL;rw[Q_Machine h,zf]
 cases hof:d.off with
 |true=>exact⟨_,rfl,rfl,h⟩
 |false =>
  simp only[cond_false,decide_true,Bool.not_true];rw[R_Writes_eq h.good id l hl hw,zf];cases h0:decide ((zgl d.M id l).2=0)
  ·exact⟨_,rfl,rfl,h⟩
  ·simp only[Bool.not_true,cond_false]
   unfold zeZ;simp only[zaw];obtain⟨r,e,h1,h2⟩:=Q_all (torn:=torn) (zgl d.M id l).1 0 m1 m2 m3 fs off after armed writes d h (writes_smx h.good id l hl);rw[e,zf];exact⟨_,rfl,h1,h2⟩
end
theorem law_lk(m:api_Machine)(id:Str)(l:List api_Change)(cut:Int)(torn:Bool)(hm:Fit m)(hl:∀c∈l,SmX c)(hw:∀c∈l,(zmL c).length≤300000000∧SmD c)(hn:l.length≤134217728):zet m id l cut torn=some true:=by
 unfold zet;rw[landed_eq,zf,Bool.not_true,cond_false];obtain⟨M,hM,hF⟩:=fit_ends m hm;have hg:=hF.good;rw[hM,zf,within_eq hg l hl hn,zf];obtain⟨q1,q2,q3,eq,hq⟩:=Q_New hg;rw[eq,zf]
 have hls:∀c∈zgm M l,SmX c:=fun c hc=>hl c (zjE c hc)
 have hlw:SmW (zgm M l):=by
  have h12:=within_le M l
  have hp:∀(L:List api_Change),(∀c∈L,(zmL c).length≤300000000)→(zb1 L).length≤300000001*L.length:=by
   intro L
   induction L with
   |nil=>intro _;simp[zb1]
   |cons c L ih =>
    intro h;have h1:=h c (List.mem_cons_self ..)
    have h2:=ih fun d hd=>h d (List.mem_cons_of_mem _ hd)
    rw[zgt];simp only[List.length_append,List.length_cons,List.length_nil];omega
  have:=hp (zgm M l) fun c hc=>(hw c (zjE c hc)).1
  exact⟨fun c hc=>(hls c hc).sm,fun c hc=>(hw c (zjE c hc)).2,by omega,by omega⟩
 obtain⟨r,e,h1,h2⟩:=Q_Cut hq (min (max cut 0) 40) torn;dsimp only;rw[e,zf];obtain⟨r',e',h1',h2'⟩:=Q_Run h2 id (zgm M l) hls hlw;rw[e',zf,Q_Peek h2',zf];have hG:=h2'.good;rw[Look_eq hG,zf,R_Look_eq hG,zf];simp only[decide_true,Bool.and_self,zj6,same_J,zf]
end Go.Md

