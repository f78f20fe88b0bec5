/- An abstract machine for the model: what it computes on, its operations, the walk of a body, and that all of it is true of the model (part 3). -/
import Derived.Test.YtbcjkdopkcbblaaGreatDoorVc2
import Derived.Lib.AppendIntMem
import Derived.Lib.AtoiBound
import Derived.Lib.ItoaLen
import Derived.Lib.SliceRun
import Derived.Shelf.SlIter.Nil
import Derived.Shelf.SortM.Plain
import Derived.Shelf.SortM.SortNone
import Derived.Shelf.Strconv.Atoi
import Derived.Shelf.Strconv.AtoiAll
import Derived.Shelf.Strconv.AtoiErr
import Derived.Shelf.Strconv.Itoa3
import Derived.Shelf.Strings.Builder1
import Derived.Shelf.Strings.SlTrimAscii
set_option linter.unusedSectionVars false
set_option linter.unusedVariables false
open List
namespace Go.Vc
variable [Tabs]
section
variable {α β S:Type}
noncomputable def forM(f:α->S->(S->Option β)->(S->Option β)->Option β):Nat->List α->S->(S->Option β)->Option β
 |0,_,s,k=>k s
 |n+1,r,s,k=>ve (fun j:Nat=>j<r.length) fun j=>match r[j]? with
  |some x=>f x s (fun s'=>forM f n (r.eraseIdx j) s' k) k
  |none=>none
theorem HU{z:β}{f:α->S->(S->Option β)->(S->Option β)->Option β}{n:Nat}{r:List α}{s:S}{F:S->Option β}(h:forM f n r s F=some z):∃k,(∀s,k s=some z->F s=some z)/\forM f n r s k=some z:=⟨F,fun _ h=>h,h⟩
theorem HI{z:β}{f:α->S->(S->Option β)->(S->Option β)->Option β}{r:List α}{s:S}{k:S->Option β}(h:forM f r.length r s k=some z)(hr:r.length=0):k s=some z:=by
 rw[hr]at h;exact h
theorem HV{z:β}{f:α->S->(S->Option β)->(S->Option β)->Option β}{r:List α}{s:S}{k:S->Option β}(h:forM f r.length r s k=some z){j:Nat}(hj:j<r.length) :
  ∃x nx,r[j]?=some x/\(∀s',nx s'=some z->forM f (r.eraseIdx j).length (r.eraseIdx j) s' k=some z)/\f x s nx k=some z:=by
 obtain⟨n,hn⟩:∃n,r.length=n+1:=⟨r.length-1,by omega⟩;rw[hn]at h;simp only[forM]at h;have h1:=Gj h j hj;rw[getElem?_eq_getElem hj]at h1;exact⟨r[j],fun s'=>forM f n (r.eraseIdx j) s' k,getElem?_eq_getElem hj,fun s' hs=>by rw[show(r.eraseIdx j).length=n by rw[length_eraseIdx,if_pos hj];omega];exact hs,h1⟩
def left:List Nat->List Nat->List α->List α
 |b::bs,seen,x::l=>bif seen.contains b then left bs seen l else x::left bs seen l
 |_,_,_=>[]
theorem HO:∀(bs:List Nat) (l:List α),l.length=bs.length->left bs [] l=l
 |[],[],_=>rfl
 |b::bs,x::l,h=>by simp only[left,contains_nil,cond_false];rw[HO bs l (by simpa using h)]
 |[],_::_,h=>by simp at h
 |_::_,[],h=>by simp at h
theorem Cr{γ:Type}{seen:List Nat}:∀{bs:List Nat} {l:List α} {m:List γ},l.length=bs.length->m.length=bs.length->(left bs seen l).length=(left bs seen m).length
 |[],[],[],_,_=>rfl
 |b::bs,x::l,y::m,h,h'=>by
  have ih:=Cr (seen:=seen) (bs:=bs) (l:=l) (m:=m) (by simpa using h) (by simpa using h');simp only[left]
  cases seen.contains b <;> simp[ih]
 |[],_::_,_,h,_=>by simp at h
 |[],[],_::_,_,h=>by simp at h
 |_::_,[],_,h,_=>by simp at h
 |_::_,_::_,[],_,h=>by simp at h
theorem og{γ:Type}(g:α->γ)(seen:List Nat):∀(bs:List Nat) (l:List α),left bs seen (l.map g)=(left bs seen l).map g
 |[],_=>by simp[left]
 |_::_,[]=>by simp[left]
 |b::bs,x::l=>by
  simp only[map_cons,left,og g seen bs l]
  cases seen.contains b <;> rfl
theorem Oy{γ:Type}(g:γ->Nat)(seen:List Nat):∀(l:List γ),left (l.map g) seen l=l.filter fun x=>!seen.contains (g x)
 |[]=>rfl
 |x::l=>by
  simp only[map_cons,left,Oy g seen l,filter_cons]
  cases seen.contains (g x) <;> rfl
structure NextOk(bs seen:List Nat)(j p st:Nat):Prop where
 hp:bs[p]?=some st
 er:∀{α:Type} (l:List α),l.length=bs.length->j<(left bs seen l).length/\left bs (seen++[st]) l=(left bs seen l).eraseIdx j/\(left bs seen l)[j]?=l[p]?
theorem Ni{b:Nat}{seen:List Nat}:∀{bs:List Nat},b∉bs->∀{α:Type} (l:List α),l.length=bs.length->left bs (seen++[b]) l=left bs seen l
 |[],_,_,l,_=>by cases l <;> rfl
 |c::bs,hb,_,[],h=>by simp at h
 |c::bs,hb,_,x::l,h=>by
  have hc:¬ c=b:=fun e=>hb (by simp[e])
  have:(seen++[b]).contains c=seen.contains c:=by
   rw[Bool.eq_iff_iff];simp[hc]
  simp only[left,this,Ni (fun h=>hb (mem_cons_of_mem _ h)) l (by simpa using h)]
theorem EQ{bs seen:List Nat}(hn:bs.Nodup){j:Nat}(hj:j<(left bs seen bs).length):∃p st,NextOk bs seen j p st/\(left bs seen bs)[j]?=some st:=by
 induction bs generalizing j with
 |nil=>simp[left]at hj
 |cons b bs ih =>
  have hn':=nodup_cons.1 hn
  have hc:∀{α:Type} (x:α) (l:List α) (sn:List Nat),left (b::bs) sn (x::l)=bif sn.contains b then left bs sn l else x::left bs sn l:=fun _ _ _=>rfl
  have hout:∀{α:Type} (l:List α),l.length=bs.length->left bs (seen++[b]) l=left bs seen l:=fun l hl=>Ni hn'.1 l hl
  cases hs:seen.contains b with
  |true =>
   have h1:left (b::bs) seen (b::bs)=left bs seen bs:=by rw[hc,hs];rfl
   rw[h1]at hj;obtain⟨p,st,⟨q1,q2⟩,q3⟩:=ih hn'.2 hj;refine⟨p+1,st,⟨by simpa using q1,?_⟩,by rw[h1];exact q3⟩;intro α l hl
   cases l with
   |nil=>simp at hl
   |cons x l =>
    have hs':(seen++[st]).contains b=true:=by simp at hs|-;exact .inl hs
    obtain⟨r1,r2,r3⟩:=q2 l (by simpa using hl);rw[hc,hs,hc,hs'];exact⟨r1,r2,by simpa using r3⟩
  |false =>
   have h1:left (b::bs) seen (b::bs)=b::left bs seen bs:=by rw[hc,hs];rfl
   rw[h1]at hj
   cases j with
   |zero =>
    refine⟨0,b,⟨rfl,?_⟩,by rw[h1];rfl⟩;intro α l hl
    cases l with
    |nil=>simp at hl
    |cons x l =>
     have hs':(seen++[b]).contains b=true:=by simp
     rw[hc,hs,hc,hs'];exact⟨by simp,by simp only[cond_true,cond_false,eraseIdx_zero,tail_cons];exact hout l (by simpa using hl),rfl⟩
   |succ j =>
    obtain⟨p,st,⟨q1,q2⟩,q3⟩:=ih hn'.2 (by simpa using hj);refine⟨p+1,st,⟨by simpa using q1,?_⟩,by rw[h1];simpa using q3⟩;intro α l hl
    cases l with
    |nil=>simp at hl
    |cons x l =>
     have hb:b≠st:=fun e=>hn'.1 (e ▸ mem_of_getElem? q1)
     have hs':(seen++[st]).contains b=false:=by simp at hs|-;exact⟨hs,hb⟩
     obtain⟨r1,r2,r3⟩:=q2 l (by simpa using hl);rw[hc,hs,hc,hs'];exact⟨by simpa using r1,by simp[r2],by simpa using r3⟩
end
section
variable {P:Program} {kl:List Bool} {n:Nat} {B:Bs} {Q:Qt} {E:dz} {H:List Ob}
theorem Wp.forM{Z S α:Type}{z:Z}{f:α->S->(S->Option Z)->(S->Option Z)->Option Z}{k:S->Option Z}{l:List α}{bs:List Nat}{c:Code}{s0:S}(live:List Nat->S->dz)(objs:List Nat->S->List Ob)(hb:l.length=bs.length)
  (h0:fG kl E H (live [] s0) (objs [] s0)) (hm:Vc.forM f l.length l s0 k=some z)
  (round:∀(seen:List Nat) (s:S),Vc.forM f (left bs seen l).length (left bs seen l) s k=some z->Wp P kl n B c (zx (fun E' H'=>∃seen' s',(left bs seen' l).length<(left bs seen l).length/\Vc.forM f (left bs seen' l).length (left bs seen' l) s' k=some z/\fG kl E' H' (live seen' s') (objs seen' s')) Q) (live seen s) (objs seen s)):Wp P kl n B (.loop c) Q E H:=by
 refine Wp.loop (S:=List Nat×S) (fun t=>live t.1 t.2) (fun t=>objs t.1 t.2) (fun t=>Vc.forM f (left bs t.1 l).length (left bs t.1 l) t.2 k=some z) (fun t=>(left bs t.1 l).length) ([],s0) h0 (by simp only[HO bs l hb];exact hm) fun t h2=>(round t.1 t.2 h2).mono fun e E' H' h=>?_
 cases e with
 |normal=>obtain⟨sn,s',h3,h4,h5⟩:=h;exact⟨(sn,s'),h4,h3,h5⟩
 |_=>exact h
end
theorem MRs.get{K:Nat->Prop}{h:Array Obj}{ag:Bool}:∀{mes:List MapEntry} {es:List (Dt×List Dt)} {p:Nat} {x:Dt×List Dt},MRs K h ag mes es->es[p]?=some x->∃e,mes[p]?=some e/\KR K h e.key x.1/\jW K h ag e.val x.2
 |[],[],p,x,_,hx=>by simp at hx
 |e::mes,y::es,0,x,hm,hx=>by
  simp only[MRs]at hm;simp at hx;subst hx;refine⟨e,rfl,hm.1,?_⟩
  cases ag <;> exact hm.2.1
 |e::mes,y::es,p+1,x,hm,hx=>by
  simp only[MRs]at hm
  simpa using MRs.get hm.2.2 (by simpa using hx)
 |[],_::_,_,_,hm,_=>by simp[MRs]at hm
 |_::_,[],_,_,hm,_=>by simp[MRs]at hm
def Aa:Dt->Va
 |.a ds=>.agg (ds.map .p)
 |.b x=>.p (.b x)
 |.i k x=>.p (.i k x)
 |.s x=>.p (.s x)
 |.l x=>.p (.l x)
theorem KR.va{K:Nat->Prop}{h:Array Obj}{G:List Gh}{v:Value}:∀{d:Dt},KR K h v d->VR K h G v (Aa d)
 |.a ds,⟨cs,h1,h2⟩=>by simp only[Aa,VR];exact⟨cs,h1,DRs.vrs h2⟩
 |.b _,H=>by simpa only[Aa,VR,KR]using H
 |.i _ _,H=>by simpa only[Aa,VR,KR]using H
 |.s _,H=>by simpa only[Aa,VR,KR]using H
 |.l _,H=>by simpa only[Aa,VR,KR]using H
attribute [go_sem] Aa
theorem tN{K:Nat->Prop}{h:Array Obj}{G:List Gh}{ag:Bool}{v:Value}{row:List Dt}(hv:jW K h ag v row):VR K h G v (gX ag row):=by
 cases ag with
 |true =>
  obtain⟨cs,rfl,h2⟩:=hv;simp only[gX,cond_true,VR];exact⟨cs,rfl,DRs.vrs h2⟩
 |false =>
  obtain⟨d,rfl,h2⟩:=hv;simp only[gX,cond_false,CS,drop_zero]
  simpa only[VR]using h2
section
variable {K:Nat->Prop} {G:List Gh} {H:List Ob} {w:World}
theorem St.reob(hS:St K G H w){o:Nat}{g:Gh}{b:Nat}(hg:G[o]?=some g)(hb:g.blk=some b){x:Ob}(hx:ObR K w.heap G g x):St K G (H.set o x) w :=
 hS.modA hg hb rfl (fun _ _=>rfl) hx
end
theorem nz{P:Program}(w:World)(ty:TypeId){bq bm cl:Nat}{seen:List Nat}{mes:Array MapEntry}(e4:w.heap[bq]?=some (.mapIter (some bm) cl seen.toArray cl))(hbm:w.heap[bm]?=some (.map mes cl))
  (hunsup:(!seen.toArray.isEmpty&&!mes.isEmpty&&mes.all (fun e=>decide (e.born≥cl)))=false)
  (hold:(mes.filter fun e=>!seen.toArray.contains e.born).filter (fun e=>decide (e.born<cl))=mes.filter fun e=>!seen.contains e.born)
  (hnew:(mes.filter fun e=>!seen.toArray.contains e.born).filter (fun e=>decide (e.born≥cl))=#[]) :
  ((mes.filter fun e=>!seen.contains e.born).size=0/\(Instr.next (.pointer (some ⟨bq,0,none⟩)) false ty).run P w=.ok (.tuple #[.bool false]) w) ∨
  ∃(j:Nat) (hj:j<(mes.filter fun e=>!seen.contains e.born).size) (w1:World),(w1=w∨w1=w.drew) /\
   (Instr.next (.pointer (some ⟨bq,0,none⟩)) false ty).run P w=.ok (.tuple #[.bool true,(mes.filter fun e=>!seen.contains e.born)[j].key,(mes.filter fun e=>!seen.contains e.born)[j].val])
    { w1 with heap:=w1.heap.setIfInBounds bq (.mapIter (some bm) cl (seen++[(mes.filter fun e=>!seen.contains e.born)[j].born]).toArray cl) }:=by
 have hlt:bq<w.heap.size:=(Array.getElem?_eq_some_iff.1 e4).1;simp only[Instr.next,getObj,Sem.run_bind,Sem.run,e4,hbm,Result.andThen,hunsup,Bool.false_eq_true,if_false,hold,hnew,Array.append_empty];generalize (mes.filter fun e=>!seen.contains e.born)=L
 by_cases h0:L.size=0
 .left
  have:L=#[]:=Array.eq_empty_of_size_eq_zero h0;subst this;refine⟨rfl,?_⟩;simp[choose,Sem.run,Question.forced]
 .right
  have hne:L.isEmpty=false:=by simp[Array.isEmpty,h0]
  simp only[hne,Bool.false_eq_true,if_false,Array.empty_append,Array.size_map]
  have hch:∃(j:Nat) (w1:World),j<L.size/\(w1=w∨w1=w.drew)/\(choose (Question.mapNext L.size)).run P w=.ok j w1:=by
   by_cases hf:L.size<=1
   .exact⟨0,w,by omega,.inl rfl,by simp[choose,Sem.run,Question.forced,hf]⟩
   .exact⟨_,w.drew,Nat.mod_lt _ (by omega),.inr rfl,by
     simp only[choose,Sem.run,Question.forced,decide_eq_true_eq,hf,if_false,Question.cut]
     rfl⟩
  obtain⟨j,w1,hj,hal,hrun⟩:=hch;refine⟨j,hj,w1,hal,?_⟩
  have hset:(setObj bq (.mapIter (some bm) cl (seen.toArray.push L[j].born) cl)).run P w1=.ok () { w1 with heap:=w1.heap.setIfInBounds bq (.mapIter (some bm) cl (seen.toArray.push L[j].born) cl) }:=by
   have h1:w1.heap[bq]?=some (.mapIter (some bm) cl seen.toArray cl):=by rcases hal with rfl|rfl <;> exact e4
   simp[setObj,Sem.run,h1]
  simp only[hrun,Array.getElem?_map,Array.getElem?_eq_getElem hj,Option.map_some,Sem.run_bind,hset,Result.andThen];simp
section
variable {P:Program} {kl:List Bool} {n:Nat} {B:Bs} {ops:Array Oper} {K:dz->List Ob->Prop} {E:dz} {H:List Ob}
theorem Rg.range{o:Oper}{l:List Oper}{t:TypeId}{x:Operand}{i:Nat}{ag:Bool}{es:List (Dt×List Dt)}{kt et:TypeId}(ho:Is o.op (.range t x))(hg:Is o.guard none)(hd:gv n o.dst)(hk:opOk true E x)(hx:Is (opnd E x) (.mp i))(ht:Is (dL P t) (.map kt et))(hi:Is (dT H i) (.mp ag es))
  (cont:∀(bs:List Nat) (cl:Nat),es.length=bs.length->bs.Nodup->(∀b∈bs,b<cl)->eU P kl n B ops K (eM P kl n ops.toList l ⟨dV E o.dst (.ptr H.length 0),H.set i (.mpb ag es bs cl)++[.it i cl []],True⟩)):Rg P kl n B ops (o::l) E H K:=by
 unfold Is at *;refine Rg.any hg hd (I:=fun v H'=>v=.ptr H.length 0/\∃bs cl,es.length=bs.length/\bs.Nodup/\(∀b∈bs,b<cl)/\H'=H.set i (.mpb ag es bs cl)++[.it i cl []]) ?_ ?_
 rotate_left
 .rintro v H' ⟨rfl,bs,cl,h1,h2,h3,rfl⟩
  exact cont bs cl h1 h2 h3
 intro a w hR;obtain⟨Kk,G,hX,hS,hE,hdf,hn,hkp⟩:=hR;have hvx:=zz hE rfl x hk;rw[hx]at hvx;simp only[VR]at hvx;obtain⟨g,b,hgi,hgb,ha⟩:=hvx;have hiH:=zJ hi (by simp);obtain⟨hlim,b',mes,clock,hb',hbm,hmr,hst⟩:=hS.ob i g _ hgi hiH
 obtain rfl:b'=b:=by rw[hgb]at hb';exact(Option.some.inj hb').symm
 obtain⟨ti,ht',hk'⟩:=zH ht (by simp);have hu:=FK ht' hk';have hst':=(MapKept.stamped_iff mes clock).1 hst;have hil:i<G.length:=(List.getElem?_eq_some_iff.1 hgi).1;have hS1:=hS.reob hgi hgb (x:=.mpb ag es (mes.toList.map (·.born)) clock) ⟨hlim,b',mes,hgb,hbm,hmr,hst,rfl⟩;have hS2:=hS1.push (o:=.mapIter (some b') clock #[] clock) (x:=.it i clock []) (sv:=undef) ⟨w.heap.size,b',g,rfl,by rw[getElem?_append_left hil];exact hgi,hgb,heap_alloc_new w _⟩;have hM:=Mn.alloc hS.kb (.mapIter (some b') clock #[] clock)
 have hG:∀(o:Nat) (g:Gh),G[o]?=some g->(G++[⟨some w.heap.size,undef⟩])[o]?=some g:=fun o g hg=>Mg.push G _ o g rfl hg
 refine⟨.pointer (some ⟨w.heap.size,0,none⟩),w.alloc (.mapIter (some b') clock #[] clock),.ptr H.length 0,H.set i (.mpb ag es (mes.toList.map (·.born)) clock)++[.it i clock []],?_,⟨rfl,_,clock,by rw[length_map];exact hmr.length.symm,hst'.2.1,by simpa using hst'.1,rfl⟩,?_⟩
 .have hrun:(Instr.range t (a.eval x)).run P w=.ok (.pointer (some ⟨w.heap.size,0,none⟩)) (w.alloc (.mapIter (some b') clock #[] clock)):=by
   rw[ha];simp[Instr.range,run_underlying hu,MapKept.run_getObj_map hbm,Result.andThen]
  obtain⟨dst,op,ty,pos,af,gd⟩:=o;cases ho;exact yK hrun
 .refine⟨Kk,G++[⟨some w.heap.size,undef⟩],hX.trans (Ext.push _ _ undef),hS2,fun m=>VR.grow hM hG _ _ (hE m),hdf,hn,fun q hq=>?_,?_⟩
  .obtain⟨y,hy,hky⟩:=hkp q hq
   have hql:=(List.getElem?_eq_some_iff.1 hy).1
   by_cases e:q=i
   .subst e
    exact⟨_,by rw[getElem?_append_left (by simpa using hql)];exact getElem?_set_self hql,rfl⟩
   .exact⟨y,by rw[getElem?_append_left (by simpa using hql),getElem?_set_ne (Ne.symm e)];exact hy,hky⟩
  .simp only[VR]
   refine⟨⟨some w.heap.size,undef⟩,w.heap.size,?_,rfl,rfl⟩;rw[<-hS.len,getElem?_append_right (Nat.le_refl _)];simp
theorem Rg.next{o:Oper}{l:List Oper}{x:Operand}{q i cl:Nat}{ag:Bool}{es:List (Dt×List Dt)}{bs seen:List Nat}(ho:Is o.op (.next x false))(hg:Is o.guard none)(hd:gv n o.dst)(hk:opOk true E x)(hx:Is (opnd E x) (.ptr q 0))(hq:Is (dT H q) (.it i cl seen))(hi:Is (dT H i) (.mpb ag es bs cl))
  (hkq:dG kl q=false) (hb1:es.length=bs.length) (hb2:bs.Nodup) (hb3:∀b∈bs,b<cl)
  (he:(left bs seen bs).length=0->eU P kl n B ops K (eM P kl n ops.toList l ⟨dV E o.dst (.tup [.p (.b false)]),H,True⟩))
  (hs:∀(j p st:Nat),NextOk bs seen j p st->eU P kl n B ops K (eM P kl n ops.toList l ⟨dV E o.dst (.tup [.p (.b true),.top,.top]),H.set q (.it i cl (seen++[st])),True⟩)):Rg P kl n B ops (o::l) E H K:=by
 unfold Is at *;refine Rg.any hg hd (I:=fun v H'=>((left bs seen bs).length=0/\v=.tup [.p (.b false)]/\H'=H)∨∃j p st,NextOk bs seen j p st/\v=.tup [.p (.b true),.top,.top]/\H'=H.set q (.it i cl (seen++[st]))) ?_ ?_
 rotate_left
 .rintro v H' (⟨h1,rfl,rfl⟩|⟨j,p,st,h1,rfl,rfl⟩)
  .exact he h1
  .exact hs j p st h1
 intro a w hR;obtain⟨Kk,G,hX,hS,hE,hdf,hn,hkp⟩:=hR;have hvx:=zz hE rfl x hk;rw[hx]at hvx;simp only[VR]at hvx;obtain⟨gq,bq,hgq,hbq,ha⟩:=hvx;have hqH:=zJ hq (by simp);have hiH:=zJ hi (by simp);obtain⟨bq',bm,gm,e1,e2,e3,e4⟩:=hS.ob q gq _ hgq hqH
 obtain rfl:bq'=bq:=by rw[hbq]at e1;exact(Option.some.inj e1).symm
 obtain⟨hlim,b',mes,hb',hbm,hmr,hst,hborn⟩:=hS.ob i gm _ e2 hiH
 obtain rfl:b'=bm:=by rw[e3]at hb';exact(Option.some.inj hb').symm
 subst hborn
 have hlen:es.length=mes.toList.length:=by simpa using hb1
 have hunsup:(!seen.toArray.isEmpty&&!mes.isEmpty&&mes.all (fun e=>decide (e.born≥cl)))=false:=by
  cases hme:mes.isEmpty with
  |true=>simp
  |false =>
   have:mes.all (fun e=>decide (e.born≥cl))=false:=by
    rw[Array.all_eq_false']
    have hne:mes.toList≠[]:=by
     intro e0;have:mes=#[]:=Array.toList_eq_nil_iff.1 e0;subst this;simp at hme
    obtain⟨e0,r0,hcons⟩:=exists_cons_of_ne_nil hne;refine⟨e0,by rw[<-Array.mem_toList_iff,hcons];simp,?_⟩;have:=hb3 e0.born (by simp[hcons])
    simp;omega
   simp[this]
 have hseen:∀y:Nat,seen.toArray.contains y=seen.contains y:=by intro y;simp
 have hold:(mes.filter fun e=>!seen.toArray.contains e.born).filter (fun e=>decide (e.born<cl))=mes.filter fun e=>!seen.contains e.born:=by
  apply Array.toList_inj.1;simp only[Array.toList_filter,hseen];rw[filter_eq_self];intro e he;have:=(mem_filter.1 he).1
  simpa using hb3 e.born (by simp;exact⟨e,by simpa using this,rfl⟩)
 have hnew:(mes.filter fun e=>!seen.toArray.contains e.born).filter (fun e=>decide (e.born≥cl))=#[]:=by
  apply Array.toList_inj.1;simp only[Array.toList_filter,hseen];rw[filter_eq_nil_iff.2];intro e he;have:=(mem_filter.1 he).1;have:=hb3 e.born (by simp;exact⟨e,by simpa using this,rfl⟩)
  simp;omega
 have hlf:(left (mes.toList.map (·.born)) seen (mes.toList.map (·.born))).length=(mes.filter fun e=>!seen.contains e.born).size:=by
  rw[Cr (m:=mes.toList) (by simp) (by simp),Oy,<-Array.toList_filter,Array.length_toList]
 have hrr:=nz (P:=P) w o.type e4 hbm hunsup hold hnew
 have e0:∀{c:Value} {w':World},(Instr.next (a.eval x) false o.type).run P w=.ok c w'->(execOp a.eval o).run P w=.ok (.value c) w':=by
  intro c w' hr;obtain⟨dst,op,ty,pos,af,gd⟩:=o;cases ho;exact yK hr
 rw[<-ha]at hrr
 rcases hrr with⟨h0,hr⟩|⟨j,hj,w1,hw1,hr⟩
 .refine⟨_,_,.tup [.p (.b false)],H,e0 hr,.inl ⟨by rw[hlf];exact h0,rfl,rfl⟩,Kk,G,hX,hS,hE,hdf,hn,hkp,?_⟩
  simp only[VR,VRs,DR];exact⟨[.bool false],rfl,_,_,rfl,rfl,rfl⟩
 .obtain⟨p,st,hok,hst'⟩:=EQ hb2 (by rw[hlf];exact hj)
  have hstb:st=(mes.filter fun e=>!seen.contains e.born)[j].born:=by
   rw[og (fun e:MapEntry=>e.born),Oy,<-Array.toList_filter,getElem?_map,Array.getElem?_toList,Array.getElem?_eq_getElem hj]at hst'
   simpa using hst'.symm
  rw[<-hstb]at hr;have hqb:bq'<w.heap.size:=(Array.getElem?_eq_some_iff.1 e4).1
  have hsz:w1.heap.size=w.heap.size:=by rcases hw1 with rfl|rfl <;> rfl
  have hhp:w1.heap=w.heap:=by rcases hw1 with rfl|rfl <;> rfl
  have hfr:∀y,y≠bq'->({ w1 with heap:=w1.heap.setIfInBounds bq' (.mapIter (some b') cl (seen++[st]).toArray cl) }:World).heap[y]?=w.heap[y]?:=fun y hy=>by simp[Ne.symm hy,hhp]
  have hqi:q≠i:=fun e=>by subst e;rw[hqH]at hiH;cases hiH
  have hMn:Mn Kk Kk w.heap ({ w1 with heap:=w1.heap.setIfInBounds bq' (.mapIter (some b') cl (seen++[st]).toArray cl) }:World).heap:=⟨fun _ h=>h,fun y hy=>hfr y fun e=>(hS.gb q gq _ hgq hbq).2 (e ▸ hy)⟩;have hS1:=hS.modA (x:=.it i cl (seen++[st])) hgq hbq (w':={ w1 with heap:=w1.heap.setIfInBounds bq' (.mapIter (some b') cl (seen++[st]).toArray cl) }) (by simp[hsz]) hfr ⟨bq',b',gm,hbq,e2,e3,by simp[hsz,hqb]⟩;refine⟨_,_,.tup [.p (.b true),.top,.top],H.set q (.it i cl (seen++[st])),e0 hr,.inr ⟨j,p,st,hok,rfl,rfl⟩,Kk,G,hX.trans (Ext.modA _ hgq hbq ?_ ?_ ?_ (by simp[hsz]) hfr),hS1,fun m=>VR.grow hMn (fun _ _ h=>h) _ _ (hE m),hdf,hn,fun y hy=>?_,?_⟩
  .rcases hw1 with rfl|rfl <;> rfl
  .rcases hw1 with rfl|rfl <;> rfl
  .rcases hw1 with rfl|rfl <;> rfl
  .have hyq:y≠q:=fun e=>by subst e;rw[show dG kl y=true from hy]at hkq;cases hkq
   obtain⟨z,hz,hkz⟩:=hkp y hy;exact⟨z,by rw[getElem?_set_ne (Ne.symm hyq)];exact hz,hkz⟩
  .simp only[VR,VRs,DR]
   exact⟨[.bool true,_,_],rfl,_,_,rfl,rfl,_,_,rfl,trivial,_,_,rfl,trivial,rfl⟩
theorem Rg.entry{o:Oper}{l:List Oper}{x:Operand}{q i cl p st:Nat}{ag:Bool}{es:List (Dt×List Dt)}{bs seen:List Nat}{d:Dt}{row:List Dt}(ho:Is o.op (.entry x))(hg:Is o.guard none)(hd:gv n o.dst)(hk:opOk true E x)(hx:Is (opnd E x) (.ptr q 0))(hq:Is (dT H q) (.it i cl (seen++[st])))(hi:Is (dT H i) (.mpb ag es bs cl))
  (hb2:bs.Nodup) (hp:bs[p]?=some st) (he:es[p]?=some (d,row))
  (cont:eU P kl n B ops K (eM P kl n ops.toList l ⟨dV E o.dst (.tup [Aa d,gX ag row]),H,True⟩)):Rg P kl n B ops (o::l) E H K:=by
 unfold Is at *;refine Rg.any hg hd (I:=fun v H'=>v=.tup [Aa d,gX ag row]/\H'=H) ?_ (by rintro v H' ⟨rfl,rfl⟩;exact cont);intro a w hR;obtain⟨Kk,G,hX,hS,hE,hdf,hn,hkp⟩:=hR;have hvx:=zz hE rfl x hk;rw[hx]at hvx;simp only[VR]at hvx;obtain⟨gq,bq,hgq,hbq,ha⟩:=hvx;have hqH:=zJ hq (by simp);have hiH:=zJ hi (by simp);obtain⟨bq',bm,gm,e1,e2,e3,e4⟩:=hS.ob q gq _ hgq hqH
 obtain rfl:bq'=bq:=by rw[hbq]at e1;exact(Option.some.inj e1).symm
 obtain⟨hlim,b',mes,hb',hbm,hmr,hst,hborn⟩:=hS.ob i gm _ e2 hiH
 obtain rfl:b'=bm:=by rw[e3]at hb';exact(Option.some.inj hb').symm
 obtain⟨e,he1,he2,he3⟩:=hmr.get he
 have heb:e.born=st:=by
  rw[<-hborn,getElem?_map,he1]at hp
  simpa using hp
 have hf:mes.find? (·.born == st)=some e:=by
  rw[<-Array.find?_toList,<-heb];exact find_born e mes.toList (by rw[hborn];exact hb2) (mem_of_getElem? he1)
 have hr:(Instr.entry (a.eval x)).run P w=.ok (.tuple #[e.key,e.val]) w:=by
  rw[ha]
  have:(seen++[st]).toArray.back?=some st:=by simp
  simp only[Instr.entry,getObj,Sem.run_bind,Sem.run,e4,hbm,Result.andThen,this,bne_self_eq_false,Bool.false_eq_true,if_false,hf];rfl
 refine⟨.tuple #[e.key,e.val],w,_,H,?_,⟨rfl,rfl⟩,Kk,G,hX,hS,hE,hdf,hn,hkp,?_⟩
 .obtain⟨dst,op,ty,pos,af,gd⟩:=o
  cases ho;exact yK hr
 .simp only[VR,VRs]
  exact⟨[e.key,e.val],rfl,_,_,rfl,he2.va,_,_,rfl,tN he3,rfl⟩
end
section
variable {P:Program} {kl:List Bool} {n:Nat} {B:Bs} {Q:Qt} {E:dz} {H:List Ob}
theorem cH{c:Code}(i q:Nat){ag:Bool}{es:List (Dt×List Dt)}{bs seen:List Nat}{cl:Nat}(hi:Is (dT H i) (.mpb ag es bs cl))(hq:Is (dT H q) (.it i cl seen))(hk:dG kl q=false)
  (hc:Wp P kl n B c Q E ((H.set i (.mp ag es)).set q .gone)):Wp P kl n B c Q E H:=by
 unfold Is at *;intro hB a w hR;obtain⟨K,G,r1,hS,r3,r4,r5,r6⟩:=hR;have hiH:=zJ hi (by simp);have hqH:=zJ hq (by simp);obtain⟨gi,hgi,hob⟩:=hS.ghost hiH;obtain⟨hlim,b,mes,e1,e2,e3,e4,e5⟩:=hob;obtain⟨gq,hgq,hobq⟩:=hS.ghost hqH;obtain⟨bq,bm,gm,q1,q2⟩:=hobq;have s1:=hS.reob hgi e1 (x:=.mp ag es) ⟨hlim,b,mes,cl,e1,e2,e3,e4⟩;have s2:=s1.reob hgq q1 (x:=.gone) trivial;refine hc hB a w ⟨K,G,r1,s2,r3,r4,r5,fun y hy=>?_⟩
 have hyq:y≠q:=fun e=>by subst e;rw[show dG kl y=true from hy]at hk;cases hk
 obtain⟨z,hz,hkz⟩:=r6 y hy
 by_cases e:y=i
 .subst e
  exact⟨_,by rw[getElem?_set_ne (Ne.symm hyq)];exact getElem?_set_self (List.getElem?_eq_some_iff.1 hz).1,rfl⟩
 .exact⟨z,by rw[getElem?_set_ne (Ne.symm hyq),getElem?_set_ne (Ne.symm e)];exact hz,hkz⟩
end
section
variable {α β S:Type}
theorem Ce{z:β}{f:α->S->(S->Option β)->(S->Option β)->Option β}{k:S->Option β}{s':S}{bs seen:List Nat}{l:List α}{j p st:Nat}(hok:NextOk bs seen j p st)(hb:l.length=bs.length)
  (h:forM f ((left bs seen l).eraseIdx j).length ((left bs seen l).eraseIdx j) s' k=some z):(left bs (seen++[st]) l).length<(left bs seen l).length/\forM f (left bs (seen++[st]) l).length (left bs (seen++[st]) l) s' k=some z:=by
 obtain⟨h1,h2,_⟩:=hok.er l hb;rw[h2];exact⟨by rw[length_eraseIdx,if_pos h1];omega,h⟩
theorem HG{Kt V:Type}{kd:Kt->Dt}{e:V->List Dt}{l:List (Kt×V)}{p:Nat}{x:Kt×V}(h:l[p]?=some x):(zl kd e l)[p]?=some (kd x.1,e x.2):=by simp[zl,h]
theorem He{Kt V:Type}{kd:Kt->Dt}{e:V->List Dt}{l:List (Kt×V)}{bs:List Nat}(h:(zl kd e l).length=bs.length):l.length=bs.length:=by rw[<-h,Dy]
end
section
variable {P:Program} {kl:List Bool} {n:Nat} {B:Bs} {ops:Array Oper} {K:dz->List Ob->Prop} {E:dz} {H:List Ob}
theorem cC{o:Oper}{l:List Oper}{t u:TypeId}{x:Operand}{rows:List (List Dt)}{e:TypeId}{esz eb:Nat}{ez:List Value}(ho:Is o.op (.binOp .eql t x (.const (.slice none 0 0)) u))(hg:Is o.guard none)(hd:gv n o.dst)(hk:opOk true E x)(hx:Is (opnd E x) (.p (.l rows)))(ht:Is (dL P t) (.slice e esz eb ez))
  (cont:∀b:Bool,(b=true->rows=[])->eU P kl n B ops K (eM P kl n ops.toList l ⟨dV E o.dst (.p (.b b)),H,True⟩)):Rg P kl n B ops (o::l) E H K:=by
 unfold Is at *;refine Rg.any hg hd (I:=fun v H'=>H'=H/\∃b:Bool,(b=true->rows=[])/\v=.p (.b b)) ?_ (by rintro v H' ⟨rfl,b,h1,rfl⟩;exact cont b h1);intro a w hR;obtain⟨Kk,G,hX,hS,hE,hdf,hn,hkp⟩:=hR;have hvx:=zz hE rfl x hk;rw[hx]at hvx;simp only[VR,DR]at hvx;obtain⟨ti,ht',hk'⟩:=zH ht (by simp);obtain⟨hu,_⟩:=lD ht' hk'
 have key:∃ad m cap,a.eval x=.slice ad m cap/\(ad.isNone=true->rows=[]):=by
  rcases hvx with⟨⟨ad,h1⟩,h2⟩|⟨b,off,cap,cs,T,fr,sz,vs,h1,_⟩
  .exact⟨ad,0,0,h1,fun _=>h2⟩
  .exact⟨_,_,_,h1,fun h=>by simp at h⟩
 obtain⟨ad,m,cap,hax,hnil⟩:=key;refine⟨.bool ad.isNone,w,_,H,?_,⟨rfl,ad.isNone,hnil,rfl⟩,Kk,G,hX,hS,hE,hdf,hn,hkp,by simp only[VR,DR]⟩;have hr:(binOp .eql t (.slice ad m cap) (.slice none 0 0)).run P w=.ok (.bool ad.isNone) w:=Lib.run_eql_slice_nil w t e ad m cap 0 0 hu;obtain⟨dst,op,ty,pos,af,gd⟩:=o;cases ho;have hgd:=Su (P:=P) (w:=w) .eql t x (.const (.slice none 0 0)) (.slice ad m cap) (.slice none 0 0) (by simp) (by simp)
 have:(do eqGuard .eql t x (.const (.slice none 0 0)) (a.eval x) (a.eval (.const (.slice none 0 0)));binOp .eql t (a.eval x) (a.eval (.const (.slice none 0 0))):Sem Value).run P w=.ok (.bool ad.isNone) w:=by
  rw[hax]
  show(do eqGuard .eql t x (.const (.slice none 0 0)) (.slice ad m cap) (.slice none 0 0);binOp .eql t (.slice ad m cap) (.slice none 0 0):Sem Value).run P w=_
  simp only[Sem.run_bind,hgd,Result.andThen_ok,hr]
 exact yK this
theorem Rg.clear{o:Oper}{l:List Oper}{c:Call}{t:TypeId}{x:Operand}{i sz a m:Nat}{T:TypeId}{rows:List (List Dt)}{e:TypeId}{eb:Nat}{ez:List Value}{z:List Dt}(ho:Is o.op (.call c))(hc:Is c.callee (.builtin .clear))(hca:Is c.args.toList [x])(hct:Is c.argTypes.toList [t])(hg:Is o.guard none)(hd:gv n o.dst)(hk:opOk true E x)
  (hx:Is (opnd E x) (.vw i sz a m)) (ht:Is (dL P t) (.slice e sz eb ez)) {fx:Bool} (hi:Is (sW H i) (some (T,sz,rows,fx))) (hz:Is (fQ (ez.map cv)) (some z)) (hzk:uX ez) (hzl:ez.length=sz) (hs0:0<sz)
  (cont:eU P kl n B ops K (eM P kl n ops.toList l ⟨dV E o.dst .top,H.set i (wK fx T sz (rows.take a++List.replicate m z++rows.drop (a+m))),True⟩)):Rg P kl n B ops (o::l) E H K:=by
 unfold Is at *;refine Rg.any hg hd (I:=fun v H'=>v=.top/\H'=H.set i (wK fx T sz (rows.take a++List.replicate m z++rows.drop (a+m)))) ?_ (by rintro v H' ⟨rfl,rfl⟩;exact cont);intro ac w hR;obtain⟨Kk,G,hX,hS,hE,hdf,hn,hkp⟩:=hR;have hvx:=zz hE rfl x hk;rw[hx]at hvx;simp only[VR]at hvx;obtain⟨g,ad,N,cap,hgi,hsv,hle,ad',cap',hax,hmc,hcc,hpos⟩:=hvx;obtain⟨ti,ht',hk'⟩:=zH ht (by simp);obtain⟨hu,⟨inf,hi1,hi2,hi3⟩,hez⟩:=lD ht' hk';have hiH:=N9 hi;obtain⟨hlim,xs,hxs,hh⟩:=hS.bufOb hi hgi
 have hzi:∃zv,inf.zero=some zv/\zv.cells.toList=ez:=by
  unfold y7 at hez;rw[hi1]at hez;simp at hez;exact hez
 obtain⟨zv,hzv,hzc⟩:=hzi
 have hrl:rows.length=N:=by
  rcases hh with⟨⟨a0,h1⟩,rfl,_⟩|⟨b,cp,cur,fr,h1,_⟩
  .rw[hsv]at h1;cases h1;rfl
  .rw[hsv]at h1;cases h1;rfl
 have eu:∀(w':World),(Builtin.clear_ #[t] o.type #[ac.eval x]).run P w=.ok (.tuple #[]) w'->RelV (cx P kl n B) E (H.set i (wK fx T sz (rows.take a++List.replicate m z++rows.drop (a+m)))) (.tuple #[]) .top ac w'->∃c' w' v H',(execOp ac.eval o).run P w=.ok (.value c') w'/\(v=.top/\H'=H.set i (wK fx T sz (rows.take a++List.replicate m z++rows.drop (a+m))))/\RelV (cx P kl n B) E H' c' v ac w':=by
  intro w' hr hRV;refine⟨_,w',_,_,?_,⟨rfl,rfl⟩,hRV⟩;obtain⟨callee,args,argTypes⟩:=c;obtain⟨dst,op,ty,pos,af,gd⟩:=o;cases ho;simp only at hc hca hct hr;subst hc
  have ha:args=#[x]:=by cases args;simp_all
  have hat:argTypes=#[t]:=by cases argTypes;simp_all
  subst ha;subst hat
  simp[execOp,resolve,invoke,builtin,hr]
 rcases Nat.eq_zero_or_pos m with rfl|hm
 .have hsame:rows.take a++List.replicate 0 z++rows.drop (a+0)=rows:=by simp
  rw[hsame]at eu|-
  have hset:H.set i (wK fx T sz rows)=H:=by
   apply ext_getElem?;intro j
   by_cases e:j=i
   .subst e;rw[getElem?_set_self (List.getElem?_eq_some_iff.1 hiH).1,hiH]
   .rw[getElem?_set_ne (Ne.symm e)]
  rw[hset]at eu|-;refine eu w ?_ ⟨Kk,G,hX,hS,hE,hdf,hn,hkp,by simp only[VR]⟩;rw[hax]
  cases ad' <;> simp[Builtin.clear_,run_underlying hu]
 .obtain⟨b,hgb,had,had'⟩:=hpos (by omega)
  rcases hh with⟨_,_,h0⟩|⟨b',cp,cur,fr,h1,h2,h3,h4,h5,h6,h7,h8⟩
  .rw[hgb]at h0;cases h0
  obtain rfl:b'=b:=by rw[hgb]at h2;exact(Option.some.inj h2).symm
  have hzsz:zv.cells.size=sz:=by rw[<-hzl,<-hzc];simp
  have hzcells:(Builtin.zeroCells zv.cells m).toList=(List.replicate m ez).flatten:=by
   show(madeCells zv.cells (m*zv.cells.size)).toList=_
   rw[hzsz,N4 (by rw[hzc];exact hzl) hs0,hzc]
  have hzd:DRs Kk w.heap ez z:=yG (Dw (G:=G) hzk) hz
  have hzl':z.length=sz:=by have:=hzd.length;omega
  have hnews:=DRss.replicate hzd m;rw[hzl']at hnews
  have hnl:((List.replicate m ez).flatten).length=m*sz:=by have:=hnews.length;simpa using this
  have hA:a*sz+m*sz<=rows.length*sz:=by rw[<-Nat.add_mul];exact Nat.mul_le_mul_right _ (by omega)
  have hC:rows.length*sz<=cur.size:=by rw[h7];exact Nat.mul_le_mul_right _ h5
  have hst:=Pe (P:=P) b' (a*sz) T fr (List.replicate m ez).flatten 0 cur w h3 h4 (by omega) hnews.ones;simp only[Nat.add_zero]at hst;have hxl:xs=cur.toList.take (rows.length*sz):=h8.symm
  have hcl:(eN cur.toList (a*sz) (List.replicate m ez).flatten).length=cur.size:=by rw[Iu _ _ _ (by rw[hnl];simpa using (by omega:a*sz+m*sz<=cur.size))];simp
  have hlen':(rows.take a++List.replicate m z++rows.drop (a+m)).length=rows.length:=by simp;omega
  refine eu (w.setRow b' (eN cur.toList (a*sz) (List.replicate m ez).flatten).toArray) ?_ ?_
  .rw[hax,had']
   have hm0:m≠0:=by omega
   have hzr:(zeroValue e).run P w=.ok zv w:=by simp[zeroValue,typeInfo,hi1,hzv]
   obtain⟨m',rfl⟩:∃m',m=m'+1:=⟨m-1,by omega⟩;simp[Builtin.clear_,run_underlying hu,hzr,hzcells,hst]
  .have hfr2:∀y,y≠b'->(w.setRow b' (eN cur.toList (a*sz) (List.replicate m ez).flatten).toArray).heap[y]?=w.heap[y]?:=fun y hy=>setRow_other w b' y _ hy
   have hMn:Mn Kk Kk w.heap (w.setRow b' (eN cur.toList (a*sz) (List.replicate m ez).flatten).toArray).heap:=⟨fun _ h=>h,fun y hy=>hfr2 y fun e=>(hS.gb i g b' hgi h2).2 (e ▸ hy)⟩;refine⟨Kk,G,hX.trans (Ext.modA _ hgi h2 rfl rfl rfl (setRow_size _ _ _) hfr2),hS.modA hgi h2 (setRow_size _ _ _) hfr2 (l8 ▸ ⟨by rw[hlen'];exact hlim,xs.take (a*sz)++(List.replicate m ez).flatten++xs.drop ((a+m)*sz),?_,.inr ⟨b',cp,_,fr,by rw[hlen'];exact h1,h2,setRow_heap w b' cur _ T fr h3,?_,by rw[hlen'];exact h5,h6,?_,?_⟩⟩),fun q=>VR.grow hMn (fun _ _ h=>h) _ _ (hE q),hdf,hn,fun y hy=>?_,by simp only[VR]⟩
   .exact DRss.mono hMn _ _ _ (((DRss.take hxs a).append hnews).append (NI hxs))
   .simp only[size_toArray,hcl];exact h4
   .simp only[size_toArray,hcl];exact h7
   .rw[hlen',yM _ _ _ (by rw[hnl];simpa using (by omega:a*sz+m*sz<=cur.size)),hnl,hxl]
    have e1:((cur.toList.take (a*sz)++(List.replicate m ez).flatten)).length=a*sz+m*sz:=by rw[length_append,hnl,length_take];simp;omega
    show(cur.toList.take (a*sz)++(List.replicate m ez).flatten++cur.toList.drop (a*sz+m*sz)).take (rows.length*sz)=_
    rw[take_append,take_of_length_le (by omega),e1,take_take,Nat.min_eq_left (by omega),Nat.add_mul,drop_take]
   .obtain⟨q,hq,hkq⟩:=hkp y hy
    by_cases hyi:y=i
    .subst hyi
     rw[hiH]at hq;cases hq
     exact⟨_,getElem?_set_self (List.getElem?_eq_some_iff.1 hiH).1,by cases fx <;> first|rfl|exact hkq⟩
    .exact⟨q,by rw[getElem?_set_ne (Ne.symm hyi)];exact hq,hkq⟩
end
def sortS(l:List (List UInt8)):List (List UInt8):=l.mergeSort fun x y=>decide (x<=y)
theorem OH(l:List (List UInt8)):(sortS l).length=l.length:=by unfold sortS;simp
section
variable {P:Program} {kl:List Bool} {n:Nat} {B:Bs} {Q:Qt} {E:dz} {H:List Ob}
theorem cU{c:Code}(k o:Nat){T:TypeId}{sz:Nat}{rows:List (List Dt)}(hk:Is (ei E k) (.buf o)){fx:Bool}(ho:Is (sW H o) (some (T,sz,rows,fx)))(hc:Wp P kl n B c Q ((k,.vw o sz 0 rows.length)::E) H):Wp P kl n B c Q E H:=by
 unfold Is at *;intro hB a w hR;obtain⟨K,G,r1,hS,r3,r4,r5,r6⟩:=hR;refine hc hB a w ⟨K,G,r1,hS,fun m=>?_,r4,r5,r6⟩;simp only[ei];split
 .rename_i e
  subst e;have hv:=r3 k;rw[hk]at hv;simp only[VR]at hv|-;obtain⟨g,hg,hcv,a0,n0,cap0,hsv⟩:=hv;obtain⟨hlim,xs,hxs,hh⟩:=hS.bufOb ho hg;rw[hcv]
  rcases hh with⟨⟨a1,h1⟩,rfl,h3⟩|⟨b,cap,cur,fr,h1,h2,h3,h4,h5,h6,h7,h8⟩
  .exact⟨g,a1,0,0,hg,h1,by simp,a1,0,h1,by simp,by simp,by simp⟩
  .exact⟨g,_,_,cap,hg,h1,by simp,_,cap,h1,h5,by simp,fun _=>⟨b,h2,rfl,by simp⟩⟩
 .exact r3 m
end
section
variable {P:Program} {kl:List Bool} {n:Nat} {B:Bs} {Q:Qt} {E:dz} {H:List Ob}
theorem Wp.reob{c:Code}(o:Nat){x:Ob}(hk:dG kl o=false)(hx:∀K G (w:World) g,St K G H w->G[o]?=some g->ObR K w.heap G g x)(ho:o<H.length)(hc:Wp P kl n B c Q E (H.set o x)):Wp P kl n B c Q E H:=by
 intro hB a w hR;obtain⟨K,G,r1,hS,r3,r4,r5,r6⟩:=hR
 have hol:o<G.length:=by rw[hS.len];exact ho
 have hS':St K G (H.set o x) w:=by
  refine⟨by simp[hS.len],hS.kb,hS.gb,hS.inj,fun i g y hg hy=>?_,hS.tb⟩
  by_cases e:i=o
  .subst e
   rw[getElem?_set_self ho]at hy;cases hy;exact hx K G w g hS hg
  .rw[getElem?_set_ne (Ne.symm e)]at hy
   exact hS.ob i g y hg hy
 refine hc hB a w ⟨K,G,r1,hS',r3,r4,r5,fun y hy=>?_⟩
 have hyo:y≠o:=fun e=>by subst e;rw[show dG kl y=true from hy]at hk;cases hk
 obtain⟨z,hz,hkz⟩:=r6 y hy;exact⟨z,by rw[getElem?_set_ne (Ne.symm hyo)];exact hz,hkz⟩
theorem ct{c:Code}(o:Nat){T:TypeId}{sz:Nat}{rows:List (List Dt)}(ho:Is (dT H o) (.buf T sz rows))(hk:dG kl o=false)(hc:Wp P kl n B c Q E (H.set o (.fx T sz rows))):Wp P kl n B c Q E H:=by
 have hoH:=zJ ho (by simp);exact Wp.reob o (x:=.fx T sz rows) hk (fun K G w g hS hg=>show ObR K w.heap G g (.buf T sz rows)from hS.ob o g _ hg hoH) (List.getElem?_eq_some_iff.1 hoH).1 hc
theorem cu{c:Code}(o:Nat){T:TypeId}{sz:Nat}{rows:List (List Dt)}(ho:Is (dT H o) (.fx T sz rows))(hk:dG kl o=false)(hc:Wp P kl n B c Q E (H.set o (.buf T sz rows))):Wp P kl n B c Q E H:=by
 have hoH:=zJ ho (by simp);exact Wp.reob o (x:=.buf T sz rows) hk (fun K G w g hS hg=>show ObR K w.heap G g (.fx T sz rows)from hS.ob o g _ hg hoH) (List.getElem?_eq_some_iff.1 hoH).1 hc
end
section
variable {P:Program} {kl:List Bool} {n:Nat} {B:Bs} {Q:Qt} {E:dz} {H:List Ob}
theorem dh{id:Nat}{l:List Oper}(h:eU P kl n B l.toArray (Q .normal) (eM P kl n l l ⟨E,H,True⟩)):Wp P kl n B (.region id l.toArray false) Q E H:=by
 intro hB a w hR;refine wp_region_lit ?_;have:=Rg.run (ops:=l.toArray) (l:=l) h
 exact this hB a w _ hR fun E' H' a' w' h1 h2=>⟨E',H',h1,h2⟩
theorem dm{id:Nat}{l:List Oper}{y:Code}(h:∀K:dz->List Ob->Prop,(∀E H,Wp P kl n B y Q E H->K E H)->(∀E H E' H',fG kl E H E' H'->K E' H'->K E H)->eU P kl n B l.toArray K (eM P kl n l l ⟨E,H,True⟩)):Wp P kl n B (.seq (.region id l.toArray false) y) Q E H :=
 ca fun K hK hW=>dh (Q:=zx K Q) (h K hK hW)
theorem cJ{id:Nat}{os:List Oper}(plan:Plan)(hm:P.follows .mixedOrders=true)(hl:plan.length=os.length)(hp:jy os.toArray plan [] (Array.replicate os.length false)=true)
  (h:Dr P kl n B os.toArray plan [] E H (Q .normal)):Wp P kl n B (.region id os.toArray true) Q E H:=by
 intro hB a w hR;refine wp_region_any hm ?_
 have hD:DC os.toArray (Array.replicate os.length false):=fun i hi=>by
  simp[Array.getD_eq_getD_getElem?,Array.getElem?_replicate]at hi
  split at hi <;> simp at hi
 have h1:=h hB (fun _ he=>by cases he) _ hD hp;rw[hl]at h1;rw[show os.toArray.size=os.length by simp]
 exact cA _ h1 (hR.drew _) fun E' H' a' w' h1 h2=>⟨E',H',h1,h2⟩
theorem dn{id:Nat}{os:List Oper}{y:Code}(plan:Plan)(hm:P.follows .mixedOrders=true)(hl:plan.length=os.length)(hp:jy os.toArray plan [] (Array.replicate os.length false)=true)
  (h:∀K:dz->List Ob->Prop,(∀E H,Wp P kl n B y Q E H->K E H)->(∀E H E' H',fG kl E H E' H'->K E' H'->K E H)->mY P kl n B os.toArray K (zkT P kl n os plan ⟨[],E,H,True⟩)):Wp P kl n B (.seq (.region id os.toArray true) y) Q E H :=
 ca fun K hK hW=>cJ (Q:=zx K Q) plan hm hl hp (Dr.run (h K hK hW))
end
section
variable {P:Program} {kl:List Bool} {n:Nat} {B:Bs} {K:dz->List Ob->Prop} {E:dz} {H:List Ob}
def wk(ops:List Oper)(o:Oper)(E:dz)(v:Va)(po:Option (Nat->Bool))(_:List Ob):Prop:=Kz ops o E (.cnd false v) po
theorem cI{ops:List Oper}{l:Plan}{obs:List En}{k:Nat}{o:Oper}{v:Va}{gw:Nat×Bool}(hk:Is ops[k]? (some o))(hg:Is o.guard (some gw))(hb:Is (iR ops E o) (some false))(hd:gv n o.dst)
  (cont:mY P kl n B ops.toArray K (zkT P kl n ops l ⟨⟨k,E,.cnd false v,wk ops o E v⟩::obs,dV E o.dst (.cnd false v),H,True⟩)):Dr P kl n B ops.toArray (.rd k l) obs E H K:=by
 unfold Is iR at *;obtain⟨j,want⟩:=gw;rw[hg]at hb;have h':=Dr.run cont;simp only at h';rw[<-mZ hk]at h'
 have hrd:∀H',Rdr P kl n B ops.toArray k E (.cnd false v) H':=by
  intro H' E' hE' a w Q K' hR hKK;rw[mZ hk]at hKK
  have hb':jC ops.toArray.toList E j want=some false:=by simpa using hb
  rw[<-DV (jo hk) hg hE']at hb';have hw:=sZ hR hg hb';unfold wpOp;simp only[jo hk];rw[if_neg (by rw[hw];simp)];obtain⟨Kk,G,hX,hS,hE,hdf,hn,hkp⟩:=hR;exact hKK _ _ (RelV.put (C:=cx P kl n B) (v:=.cnd false v) ⟨Kk,G,hX,hS,hE,hdf,hn,hkp,by simp[VR]⟩ o.dst (zZ hd))
 exact Dr.read (fun _=>hrd _) (fun _ po H' hre=>⟨hrd _,mK hk hre⟩) h'
end
attribute [go_sem] wk
attribute [go_sem] OH Option.getD_none Option.getD_some Nat.sub_zero Nat.zero_add drop_zero
def fO(i j o:Nat):Nat:=bif o == i then j else bif o == j then i else o
mutual
def gW(i j:Nat):Va->Va
 |.p x=>.p x
 |.nils=>.nils
 |.full r=>.full r
 |.rp r=>.rp r
 |.ptr o off=>.ptr (fO i j o) off
 |.cs o off=>.cs (fO i j o) off
 |.el o sz k off=>.el (fO i j o) sz k off
 |.buf o=>.buf (fO i j o)
 |.mp o=>.mp (fO i j o)
 |.np o=>.np (fO i j o)
 |.sd o=>.sd (fO i j o)
 |.vw o sz a n=>.vw (fO i j o) sz a n
 |.bufc o cp=>.bufc (fO i j o) cp
 |.fn f vs=>.fn f (lI i j vs)
 |.agg vs=>.agg (lI i j vs)
 |.tup vs=>.tup (lI i j vs)
 |.nil=>.nil
 |.cnd t v=>.cnd t (gW i j v)
 |.raw v=>.raw v
 |.er v=>.er v
 |.top=>.top
def lI(i j:Nat):List Va->List Va
 |[]=>[]
 |v::vs=>gW i j v::lI i j vs
end
def tt(i j:Nat):Ob->Ob
 |.cells T vs=>.cells T (lI i j vs)
 |.it o cl seen=>.it (fO i j o) cl seen
 |.buf T sz rows=>.buf T sz rows
 |.fx T sz rows=>.fx T sz rows
 |.sb T bs=>.sb T bs
 |.mp ag es=>.mp ag es
 |.mpb ag es bs cl=>.mpb ag es bs cl
 |.gone=>.gone
def AQ(i j:Nat):dz->dz
 |[]=>[]
 |(m,v)::E=>(m,gW i j v)::AQ i j E
def tu{A:Type}(i j:Nat)(l:List A):List A:=match l[i]?,l[j]? with
 |some x,some y=>(l.set i y).set j x
 |_,_=>l
def qr(i j:Nat):List Ob->List Ob
 |[]=>[]
 |x::H=>tt i j x::qr i j H
def yW(i j:Nat)(H:List Ob):List Ob:=((qr i j H).set i (dT (qr i j H) j)).set j (dT (qr i j H) i)
theorem vO(i j:Nat)(H:List Ob):qr i j H=H.map (tt i j):=by induction H <;> simp_all[qr]
theorem vQ(i j o:Nat):fO i j o=if o=i then j else if o=j then i else o:=by
 unfold fO
 by_cases h1:o=i
 .subst h1;simp
 .rw[beq_false_of_ne h1,if_neg h1,cond_false]
  by_cases h2:o=j
  .subst h2;simp
  .rw[beq_false_of_ne h2,if_neg h2,cond_false]
theorem Do(i j o:Nat):fO i j (fO i j o)=o:=by
 simp only[vQ]
 repeat' split
 all_goals omega
theorem KS{A:Type}{i j:Nat}{l:List A}(hi:i<l.length)(hj:j<l.length)(o:Nat):(tu i j l)[o]?=l[fO i j o]?:=by
 unfold tu;rw[getElem?_eq_getElem hi,getElem?_eq_getElem hj];unfold fO
 by_cases h1:o=i
 .subst h1
  by_cases h2:j=o
  .subst h2;simp[hi]
  .simp only[beq_self_eq_true,cond_true]
   rw[getElem?_set_ne h2,getElem?_set_self hi,getElem?_eq_getElem hj]
 .rw[beq_false_of_ne h1]
  simp only[cond_false]
  by_cases h2:o=j
  .subst h2
   simp only[beq_self_eq_true,cond_true];rw[getElem?_set_self (by simpa using hj),getElem?_eq_getElem hi]
  .rw[beq_false_of_ne h2,cond_false,getElem?_set_ne (Ne.symm h2),getElem?_set_ne (Ne.symm h1)]
theorem nW{o:Nat}:∀{H:List Ob} {x:Ob},H[o]?=some x->dT H o=x:=by
 induction o with
 |zero=>intro H x h;cases H <;> simp_all[dT]
 |succ o ih=>intro H x h;cases H with
  |nil=>simp at h
  |cons y H=>simpa [dT]using ih (by simpa using h)
theorem iW{i j:Nat}{H:List Ob}(hi:i<H.length)(hj:j<H.length):yW i j H=tu i j (H.map (tt i j)):=by
 have h1:(H.map (tt i j))[i]?=some (tt i j H[i]):=by simp[hi]
 have h2:(H.map (tt i j))[j]?=some (tt i j H[j]):=by simp[hj]
 rw[yW,vO,tu,h1,h2,nW h1,nW h2]
theorem Cm{A:Type}{i j:Nat}{l:List A}:(tu i j l).length=l.length:=by
 unfold tu
 split <;> simp
theorem Eu{i j o n:Nat}(hi:n<=i)(hj:n<=j)(ho:o<n):fO i j o=o:=by
 unfold fO;rw[beq_false_of_ne (by omega:o≠i),beq_false_of_ne (by omega:o≠j)];rfl
section
variable {K:Nat->Prop} {h:Array Obj} {G G':List Gh} {i j:Nat}
mutual
theorem lJ(hG:∀(o:Nat) (g:Gh),G[o]?=some g->G'[fO i j o]?=some g):∀(c:Value) (v:Va),VR K h G c v->VR K h G' c (gW i j v)
 |_,.p x,H=>by simpa only[gW,VR]using H
 |_,.nils,H=>by simpa only[gW,VR]using H
 |_,.full r,H=>by simpa only[gW,VR]using H
 |_,.rp r,H=>by simpa only[gW,VR]using H
 |_,.ptr o off,H=>by simp only[gW,VR]at *;obtain⟨g,b,h1,h2⟩:=H;exact⟨g,b,hG o g h1,h2⟩
 |_,.cs o off,H=>by simp only[gW,VR]at *;obtain⟨g,b,h1,h2⟩:=H;exact⟨g,b,hG o g h1,h2⟩
 |_,.el o sz k off,H=>by simp only[gW,VR]at *;obtain⟨g,b,n,cap,h1,h2⟩:=H;exact⟨g,b,n,cap,hG o g h1,h2⟩
 |_,.buf o,H=>by simp only[gW,VR]at *;obtain⟨g,h1,h2⟩:=H;exact⟨g,hG o g h1,h2⟩
 |_,.mp o,H=>by simp only[gW,VR]at *;obtain⟨g,b,h1,h2⟩:=H;exact⟨g,b,hG o g h1,h2⟩
 |_,.np o,H=>by
  simp only[gW,VR]at *
  rcases H with H|⟨g,b,h1,h2⟩
  .exact .inl H
  .exact .inr ⟨g,b,hG o g h1,h2⟩
 |_,.sd o,H=>by simp only[gW,VR]at *;obtain⟨g,a,n,cap,h1,h2⟩:=H;exact⟨g,a,n,cap,hG o g h1,h2⟩
 |_,.vw o sz a n,H=>by simp only[gW,VR]at *;obtain⟨g,ad,N,cap,h1,h2⟩:=H;exact⟨g,ad,N,cap,hG o g h1,h2⟩
 |_,.bufc o cp,H=>by simp only[gW,VR]at *;obtain⟨g,a,n,cap,h1,h2⟩:=H;exact⟨g,a,n,cap,hG o g h1,h2⟩
 |_,.fn f vs,H=>by simp only[gW,VR]at *;obtain⟨cs,h1,h2⟩:=H;exact⟨cs,h1,Hr hG cs vs h2⟩
 |_,.agg vs,H=>by simp only[gW,VR]at *;obtain⟨cs,h1,h2⟩:=H;exact⟨cs,h1,Hr hG cs vs h2⟩
 |_,.tup vs,H=>by simp only[gW,VR]at *;obtain⟨cs,h1,h2⟩:=H;exact⟨cs,h1,Hr hG cs vs h2⟩
 |_,.nil,H=>by simpa only[gW,VR]using H
 |_,.cnd t v,H=>by simp only[gW,VR]at *;exact⟨fun e=>lJ hG _ v (H.1 e),H.2⟩
 |_,.raw v,H=>by simpa only[gW,VR]using H
 |_,.er v,H=>by simpa only[gW,VR]using H
 |_,.top,H=>by simp only[gW,VR]
theorem Hr(hG:∀(o:Nat) (g:Gh),G[o]?=some g->G'[fO i j o]?=some g):∀(cs:List Value) (vs:List Va),VRs K h G cs vs->VRs K h G' cs (lI i j vs)
 |_,[],H=>by simpa only[lI,VRs]using H
 |_,v::vs,H=>by
  simp only[lI,VRs]at *;obtain⟨c,cs',h1,h2,h3⟩:=H;exact⟨c,cs',h1,lJ hG c v h2,Hr hG cs' vs h3⟩
end
theorem vP(hG:∀(o:Nat) (g:Gh),G[o]?=some g->G'[fO i j o]?=some g){g:Gh}{x:Ob}(H:ObR K h G g x):ObR K h G' g (tt i j x):=by
 cases x with
 |cells T vs=>obtain⟨b,cs,h1,h2,h3⟩:=H;exact⟨b,cs,h1,h2,Hr hG cs vs h3⟩
 |it o cl seen=>obtain⟨b,bm,gm,h1,h2,h3⟩:=H;exact⟨b,bm,gm,h1,hG o gm h2,h3⟩
 |_=>exact H
theorem rF{E:dz}:∀{m:Nat},ei (AQ i j E) m=gW i j (ei E m):=by
 intro m
 induction E with
 |nil=>rfl
 |cons p E ih =>
  obtain⟨k,v⟩:=p;simp only[AQ,ei];split
  .rfl
  .exact ih
end
section
variable {P:Program} {kl:List Bool} {n:Nat} {B:Bs} {Q:Qt} {E:dz} {H:List Ob} {a:Act} {w:World}
theorem Rel.swap{i j:Nat}(hB:B.G0.length=kl.length)(hi:kl.length<=i)(hj:kl.length<=j)(hil:i<H.length)(hjl:j<H.length)(h:Rel (cx P kl n B) E H a w):Rel (cx P kl n B) (AQ i j E) (yW i j H) a w:=by
 obtain⟨K,G,hX,hS,hE,hd,hn,hk⟩:=h
 have hiG:i<G.length:=by rw[hS.len];exact hil
 have hjG:j<G.length:=by rw[hS.len];exact hjl
 have hg:=fun o=>KS hiG hjG o
 have hG:∀(o:Nat) (g:Gh),G[o]?=some g->(tu i j G)[fO i j o]?=some g:=fun o g ho=>by rw[hg,Do];exact ho
 have hH:∀o,(yW i j H)[o]?=(H[fO i j o]?).map (tt i j):=fun o=>by rw[iW hil hjl,KS (by simpa using hil) (by simpa using hjl),getElem?_map]
 have hlt:∀o,o<kl.length->fO i j o=o:=fun o ho=>Eu hi hj ho
 refine⟨K,tu i j G,?_,?_,fun m=>?_,hd,hn,fun o ho=>?_⟩
 .exact { hX with
   glen:=by rw[Cm];exact hX.glen
   gold:=fun o g0 g b h0 h1 hb=>by
    rw[hg,hlt o (by rw[<-hB];exact(List.getElem?_eq_some_iff.1 h0).1)]at h1;exact hX.gold o g0 g b h0 h1 hb
   gnew:=fun o g b ho h1 hb=>by
    rw[hg]at h1;refine hX.gnew (fO i j o) g b (Nat.le_of_not_lt fun hlo=>?_) h1 hb;have h2:fO i j (fO i j o)=fO i j o:=hlt _ (by rw[<-hB];exact hlo);rw[Do]at h2;exact absurd ho (by have:B.G0.length=kl.length:=hB;rw[h2];exact Nat.not_le_of_lt hlo)
   gsame:=fun o g0 ho h0=>by
    rw[hg,hlt o (by rw[<-hB];exact(List.getElem?_eq_some_iff.1 h0).1)]
    exact hX.gsame o g0 ho h0 }
 .refine⟨by rw[Cm,iW hil hjl,Cm,length_map];exact hS.len,hS.kb,fun o g b h1 h2=>hS.gb _ g b (by rw[<-hg];exact h1) h2,fun o o' g g' b h1 h2 h3 h4=>?_,fun o g x h1 h2=>?_,hS.tb⟩
  .rw[hg]at h1 h2
   have:=hS.inj _ _ g g' b h1 h2 h3 h4;rw[<-Do i j o,this,Do]
  .rw[hg]at h1
   rw[hH]at h2;obtain⟨y,hy,rfl⟩:=Option.map_eq_some_iff.1 h2;exact vP hG (hS.ob _ g y h1 hy)
 .rw[rF]
  exact lJ hG _ _ (hE m)
 .obtain⟨x,hx,hkx⟩:=hk o ho
  refine⟨tt i j x,by rw[hH,hlt o (B3 ho),hx];rfl,?_⟩
  cases x <;> exact hkx
theorem Wp.swap(i j:Nat){c:Code}(hi:kl.length<=i)(hj:kl.length<=j)(hil:i<H.length)(hjl:j<H.length)(h:Wp P kl n B c Q (AQ i j E) (yW i j H)):Wp P kl n B c Q E H:=fun hB a w hR=>h hB a w (Rel.swap hB hi hj hil hjl hR)
structure Vf(kl:List Bool)(K:dz->List Ob->Prop):Prop where
 weak:∀E H E' H',fG kl E H E' H'->K E' H'->K E H
 swap:∀i j E H,kl.length<=i->kl.length<=j->i<H.length->j<H.length->K (AQ i j E) (yW i j H)->K E H
theorem dp{id:Nat}{os:List Oper}{y:Code}(plan:Plan)(hm:P.follows .mixedOrders=true)(hl:plan.length=os.length)(hp:jy os.toArray plan [] (Array.replicate os.length false)=true)
  (h:∀K:dz->List Ob->Prop,(∀E H,Wp P kl n B y Q E H->K E H)->Vf kl K->mY P kl n B os.toArray K (zkT P kl n os plan ⟨[],E,H,True⟩)):Wp P kl n B (.seq (.region id os.toArray true) y) Q E H:=by
 intro hB a w hR;refine wp_seq (wp_mono (cJ (Q:=zx (fun E H=>Wp P kl n B y Q E H) Q) plan hm hl hp (Dr.run (h _ (fun _ _ h=>h) ⟨fun E H E' H' hw hk=>Wp.weak hw hk,fun i j E H h1 h2 h3 h4 hk=>Wp.swap i j h1 h2 h3 h4 hk⟩)) hB a w hR) ?_);intro e a' w' ⟨E',H',hq,hR'⟩
 cases e <;> first|exact hq hB a' w' hR'|exact⟨E',H',hq,hR'⟩
attribute [go_sem] AQ gW lI yW tt qr fO
end
variable [Tabs]
def Dt.flat:Dt->Bool
 |.l _=>false
 |.a _=>false
 |_=>true
def oC:List Dt->Bool
 |[]=>true
 |d::ds=>d.flat&&oC ds
def jd(rows:List (List Dt)):Prop:=∀r∈rows,oC r=true
theorem Qj{α:Type}{e:α->List Dt}(h:∀x,oC (e x)=true)(l:List α):jd (List.map e l):=fun r hr=>by
 obtain⟨x,_,rfl⟩:=mem_map.1 hr;exact h x
section
variable {K K':Nat->Prop} {h h':Array Obj}
theorem DR.flat{c:Value}:∀{d:Dt},d.flat=true->DR K h c d->DR K' h' c d
 |.b _,_,hd=>by simpa only[DR]using hd
 |.i _ _,_,hd=>by simpa only[DR]using hd
 |.s _,_,hd=>by simpa only[DR]using hd
 |.l _,hf,_=>by simp[Dt.flat]at hf
 |.a _,hf,_=>by simp[Dt.flat]at hf
theorem DRs.flat:∀{ds:List Dt} {vs:List Value},oC ds=true->DRs K h vs ds->DRs K' h' vs ds
 |[],_,_,hd=>by simpa only[DRs]using hd
 |d::ds,vs,hf,hd=>by
  simp only[oC,Bool.and_eq_true]at hf;simp only[DRs]at *;obtain⟨v,vs',e,h1,h2⟩:=hd;exact⟨v,vs',e,DR.flat hf.1 h1,DRs.flat hf.2 h2⟩
theorem DRss.flat{sz:Nat}:∀{rows:List (List Dt)} {vs:List Value},jd rows->DRss K h sz vs rows->DRss K' h' sz vs rows
 |[],_,_,hd=>by simpa only[DRss]using hd
 |r::rows,vs,hf,hd=>by
  simp only[DRss]at *;obtain⟨a,b,e,h1,h2,h3⟩:=hd;exact⟨a,b,e,h1,DRs.flat (hf r (by simp)) h2,DRss.flat (fun r' h'=>hf r' (by simp[h'])) h3⟩
end
theorem de{K K':Nat->Prop}{h:Array Obj}{G G':List Gh}{g:Gh}{T:TypeId}{sz:Nat}{rows:List (List Dt)}(hf:jd rows)(hx:ObR K h G g (.buf T sz rows)):ObR K' h G' g (.buf T sz rows):=by
 obtain⟨h1,xs,h2,h3⟩:=hx;exact⟨h1,xs,DRss.flat hf h2,h3⟩
theorem St.push1{K:Nat->Prop}{G:List Gh}{H:List Ob}{w:World}{g:Gh}{x:Ob}(hS:St K G H w)(hx:ObR K w.heap (G++[g]) g x)
  (hb:∀b,g.blk=some b->b<w.heap.size/\¬ K b/\∀(o:Nat) (g':Gh),G[o]?=some g'->g'.blk≠some b):St K (G++[g]) (H++[x]) w:=by
 have cs:∀{o:Nat} {g':Gh},(G++[g])[o]?=some g'->(o<G.length/\G[o]?=some g')∨(o=G.length/\g'=g):=by
  intro o g' h
  rcases Nat.lt_or_ge o G.length with h1|h1
  .rw[getElem?_append_left h1]at h;exact .inl ⟨h1,h⟩
  .rw[getElem?_append_right h1]at h
   rcases Nat.eq_zero_or_pos (o-G.length)with h2|h2
   .rw[h2]at h;simp at h;exact .inr ⟨by omega,h.symm⟩
   .rw[getElem?_eq_none (by simp;omega)]at h;cases h
 refine⟨by simp[hS.len],hS.kb,fun o g' b hg hgb=>?_,fun o o' g1 g2 b h1 h2 hb1 hb2=>?_,fun o g' y hg hy=>?_,hS.tb⟩
 .rcases cs hg with⟨_,h⟩|⟨_,rfl⟩
  .exact hS.gb o g' b h hgb
  .exact⟨(hb b hgb).1,(hb b hgb).2.1⟩
 .rcases cs h1 with⟨_,e1⟩|⟨e1,rfl⟩ <;> rcases cs h2 with⟨_,e2⟩|⟨e2,rfl⟩
  .exact hS.inj o o' g1 g2 b e1 e2 hb1 hb2
  .exact absurd hb1 ((hb b hb2).2.2 o g1 e1)
  .exact absurd hb2 ((hb b hb1).2.2 o' g2 e2)
  .omega
 .rcases cs hg with⟨hl,h⟩|⟨rfl,rfl⟩
  .rw[getElem?_append_left (by rw[<-hS.len];exact hl)]at hy
   exact ObR.keep ⟨fun _ h=>h,fun _ _=>rfl⟩ (f:=fun _=>true) (fun q g0 _ hq=>by rw[getElem?_append_left (List.getElem?_eq_some_iff.1 hq).1];exact hq) (fun _ _=>rfl) (Ob.all_true _) (hS.ob o g' y h hy)
  .rw[hS.len,getElem?_append_right (Nat.le_refl _)]at hy
   simp at hy;subst hy;exact hx
section
variable {P:Program} {kl:List Bool} {n:Nat} {B:Bs} {K:dz->List Ob->Prop} {E:dz} {H:List Ob}
theorem k9{o:Oper}{c:Call}{fop:Operand}{f:FuncId}{caps args:List Va}{T:TypeId}{sz:Nat}{rows:List (List Dt)}(hs:Does P f args [] fun r X=>r=.buf 0/\X=[.buf T sz rows])(hfl:jd rows)(ho:o.op=.call c)(hc:c.callee=.value fop)
  (hok:opOk true E fop/\allOk true E c.args.toList) (hf:opnd E fop=.fn f caps) (hp:jO H (opnds E c.args.toList++caps)=some args) {a:Act} {w:World} {Q:Exit->Act->World->Prop} {K':Act->World->Prop} (hR:Rel (cx P kl n B) E H a w)
  (hK:∀c' w',RelV (cx P kl n B) E (H++[.buf T sz rows]) c' (.buf H.length) a w'->K' (a.put o.dst c') w'):o.wp P a w K' Q:=by
 obtain⟨Kk,G,hX,hS,hE,hdf,hn,hkp⟩:=hR;have hvf:=zz hE rfl fop hok.1;rw[hf]at hvf;simp only[VR]at hvf;obtain⟨cs,hcs,hcv⟩:=hvf;have hargs:=vt hE rfl c.args.toList hok.2;have hall:=At hS hp (hargs.append hcv);unfold Oper.wp;rw[DG ho hc hcs hs.1];simp only[Oper.upon];refine(hs.2 (y6 Kk G) [] w _ (St.nil (Ln hS) (hS.tb.mono ⟨fun _ h=>.inl h,fun _ _=>rfl⟩)) hall).mono ?_;rintro e w' ⟨c',r,X',K1,G1,rfl,⟨rfl,rfl⟩,hX1,hS1,hv,_⟩
 have fr:∀b,b<w.heap.size->w'.heap[b]?=w.heap[b]?:=fun b hb=>hX1.frame b hb (fun o g0 h=>by simp at h)
 have hA:=hS.after hX1;simp only[VR]at hv;obtain⟨g,hg,rfl,hgo⟩:=hv
 have hgl:G1=[g]:=by
  have hl:=hS1.len
  match G1,hl,hg with
  |[g'],_,hg=>simp at hg;rw[hg]
 subst hgl
 have hbn:∀b,g.blk=some b->w.heap.size<=b/\b<w'.heap.size:=fun b hb=>⟨hX1.gnew 0 g b (by simp) hg hb,(hS1.gb 0 g b hg hb).1⟩
 have hx:=hS1.ob 0 g (.buf T sz rows) hg rfl
 have hS2:St Kk (G++[g]) (H++[.buf T sz rows]) w':=hA.push1 (de hfl hx) fun b hb=>⟨(hbn b hb).2,fun hk=>by have:=hS.kb b hk;have:=(hbn b hb).1;omega,fun o' g' h' e=>by have:=(hS.gb o' g' b h' e).1;have:=(hbn b hb).1;omega⟩
 have hMg:Mg (fun _=>true) G (G++[g]):=fun q g0 _ hq=>by rw[getElem?_append_left (List.getElem?_eq_some_iff.1 hq).1];exact hq
 have cs:∀{o:Nat} {g':Gh},(G++[g])[o]?=some g'->(o<G.length/\G[o]?=some g')∨(o=G.length/\g'=g):=by
  intro o g' h
  rcases Nat.lt_or_ge o G.length with h1|h1
  .rw[getElem?_append_left h1]at h;exact .inl ⟨h1,h⟩
  .rw[getElem?_append_right h1]at h
   rcases Nat.eq_zero_or_pos (o-G.length)with h2|h2
   .rw[h2]at h;simp at h;exact .inr ⟨by omega,h.symm⟩
   .rw[getElem?_eq_none (by simp;omega)]at h;cases h
 have hX2:Ext (dG kl) B.K0 B.G0 B.w0 Kk (G++[g]) w':=by
  refine hX.trans ⟨hX1.os,hX1.tape,hX1.output,hX1.size,fun _ h=>h,fun _ h=>.inl h,by simp,fun o' g0 g' b h0 h1 hb=>?_,fun o' g' b ho' h1 hb=>?_,fun o' g0 _ h0=>hMg o' g0 rfl h0,fun b hb _=>fr b hb⟩
  .rcases cs h1 with⟨_,h⟩|⟨h,rfl⟩
   .rw[h0]at h;cases h;exact .inl hb
   .have:=(List.getElem?_eq_some_iff.1 h0).1;omega
  .rcases cs h1 with⟨h,_⟩|⟨_,rfl⟩
   .omega
   .exact(hbn b hb).1
 refine hK g.sv w' ⟨Kk,G++[g],hX2,hS2,fun m=>VR.keep (f:=fun _=>true) ⟨fun _ h=>h,fun b hb=>fr b (hS.kb b hb)⟩ hMg _ _ (Va.all_true _) (hE m),hdf,hn,fun y hy=>?_,?_⟩
 .obtain⟨z,hz,hk⟩:=hkp y hy
  exact⟨z,by rw[getElem?_append_left (List.getElem?_eq_some_iff.1 hz).1];exact hz,hk⟩
 .simp only[VR]
  exact⟨g,by rw[<-hS.len];simp,rfl,hgo⟩
end
section
variable {P:Program} {kl:List Bool} {n:Nat} {B:Bs} {ops:List Oper} {K:dz->List Ob->Prop} {l:Plan} {obs:List En} {E:dz} {H:List Ob}
theorem da{k:Nat}{L:List Nat}{f:FuncId}{av args:List Va}{o:Oper}{T:TypeId}{sz:Nat}{rows:List (List Dt)}(hs:Does P f args [] fun r X=>r=.buf 0/\X=[.buf T sz rows])(hfl:jd rows)(hk:Is ops[k]? (some o))(ha:Is (iE E o) (some (f,av)))(hb:Is (iR ops E o) (some true))(hp:Is (jO H av) (some args))(hok:iP n true E o)
  (hag:vu L none (H++[.buf T sz rows]) obs)
  (cont:mY P kl n B ops.toArray K (zkT P kl n ops l ⟨obs,dV E o.dst (iz o.guard true (.buf H.length)),H++[.buf T sz rows],True⟩)):Br P kl n B ops.toArray k L l obs E H K:=by
 unfold Is at *;unfold iE at ha;split at ha
 rotate_left
 .cases ha
 rename_i c h1
 split at ha
 rotate_left
 .cases ha
 rename_i fop h3
 split at ha
 rotate_left
 .cases ha
 rename_i f' caps h4
 cases ha;obtain⟨hd,hk1,hk2⟩:=u1 hok h1 h3;have h':=Dr.run cont;simp only at h';rw[<-mZ hk]at h';refine Br.eff (po:=none) (fun _=>?_) hag h';intro E' hE' a w Q K' hR hK;have hop:=Cb (jo hk) hE';rw[h1]at hop;have hfo:ed E fop=ed E' fop:=hop fop (by simp[Op.operands,Call.operands,h3])
 have hag':Agree c.args.toList E E':=fun x hx=>hop x (by simp only[Op.operands,Call.operands,Array.toList_append,mem_append];exact .inr hx)
 rw[Agree.opOk hfo]at hk1;rw[Agree.allOk hag']at hk2;rw[Agree.opnd hfo]at h4;rw[Agree.opnds hag']at hp;rw[mZ hk]at hK;unfold wpOp;simp only[jo hk];unfold iR at hb
 cases hgd:o.guard with
 |none =>
  rw[hgd]at hb hK;rw[if_pos (by simp[Region.wanted,hgd])];exact .inl (k9 hs hfl h1 h3 ⟨hk1,hk2⟩ h4 hp hR fun c' w' hRV=>hK _ _ (hRV.put o.dst (zZ hd)))
 |some gw =>
  obtain⟨j,want⟩:=gw;rw[hgd]at hb hK
  have hb':jC ops.toArray.toList E j want=some true:=by simpa using hb
  rw[<-DV (jo hk) hgd hE']at hb';have hw:=sZ hR hgd hb';rw[if_pos hw]
  exact .inl (k9 hs hfl h1 h3 ⟨hk1,hk2⟩ h4 hp hR fun c' w' hRV=>hK _ _ (RelV.put (v:=.cnd true _) (by
   obtain⟨Kk,G,q1,q2,q3,q4,q5,q6,q7⟩:=hRV
   exact⟨Kk,G,q1,q2,q3,q4,q5,q6,by simp only[VR];exact⟨fun _=>q7,fun e=>Bool.noConfusion e⟩⟩) o.dst (zZ hd)))
end
attribute [go_sem] Option.toArray Array.toList_append
end Go.Vc
namespace Go.Proofs
open Go.Shelf Go.RowKit
variable {P:Program} {ρ:Ren}
set_option maxHeartbeats 2000000 in
set_option maxRecDepth 1000000 in
theorem Any.grow_row(L:Lays.n241 P ρ)(X:Builder.Extra P ρ)(b n l c:Nat)(a:Option Addr)(cs:List Value)(w:World)
  (hbk:w.heap[b]?=some (.cells #[.pointer (some ⟨b,0,none⟩),.slice a l c] (ρ.t 72) (0,0)))
  (hl:cs.length=l) (h1:∀v∈cs,v.oneCell'=true)
  (hsrc:l=0∨∃g cur T fr,a=some ⟨g,0,none⟩/\w.heap[g]?=some (.cells cur T fr)/\cur.toList.take l=cs)
  (hcap:2*c+n<=281474976710656) (hlc:l<=c) :
  Calls P (ρ.f 241) #[.pointer (some ⟨b,0,none⟩),.int .i64 n] w fun e w'=>e=.returned (.tuple #[])/\∃xs:Array Value,w'.os=w.os/\w'.tape=w.tape/\w'.output=w.output /\
   2*c+n<=xs.size/\xs.size<=maxLen/\xs.toList.take l=cs/\w'.heap.size=w.heap.size+1/\(∀i,i<w.heap.size->i≠b->w'.heap[i]?=w.heap[i]?) /\
   w'.heap[w.heap.size]?=some (.cells xs (ρ.t 5) (0,0))/\w'.heap[b]?=some (.cells #[.pointer (some ⟨b,0,none⟩),.slice (some ⟨w.heap.size,0,none⟩) l xs.size] (ρ.t 72) (0,0)):=by
 obtain⟨ys,hrun,hle,hmax⟩:=Lib.run_makeNoZero (P:=P) w.drew #[(ρ.t 3)] (ρ.t 37) (ρ.t 5) L.t37 (2*c+n) hcap
 have hw:IntKind.i64.wrap (IntKind.i64.wrap (2*(c:Int))+(n:Int))=((2*c+n:Nat):Int):=by
  rw[IntKind.wrap_i64,IntKind.wrap_i64];omega
 have hcall:(callFunc (ρ.f 277) #[.int .i64 (IntKind.i64.wrap (IntKind.i64.wrap (2*(c:Int))+(n:Int)))]).run P w.drew=.ok (.value (.slice (some ⟨w.drew.heap.size,0,none⟩) (2*c+n) ys.size)) (w.drew.drew.drew.alloc (.cells ys (ρ.t 5))):=by
  rw[hw,run_callFunc_extern L.f277 (by kernel_rfl) (by kernel_rfl) (by kernel_rfl) (e:=Extern.BytealgMakeNoZero.makeNoZero #[(ρ.t 3)] #[(ρ.t 37)]) (by kernel_rfl),hrun];rfl
 have c1:w.drew.cell? ⟨b,1,none⟩=some (.slice a l c):=by
  have:w.drew.heap[b]?=_:=hbk
  rw[Lib.cell_of_heap this];rfl
 have hlt:b<w.heap.size:=by
  rcases Nat.lt_or_ge b w.heap.size with h'|h'
  .exact h'
  .simp[Array.getElem?_eq_none h']at hbk
 have c2:(w.alloc (.cells ys (ρ.t 5))).cell? ⟨b,1,none⟩=some (.slice a l c):=by
  have:(w.alloc (.cells ys (ρ.t 5))).heap[b]?=_:=(Lib.alloc_old w _ b hlt).trans hbk
  rw[Lib.cell_of_heap this];rfl
 have f2:(w.alloc (.cells ys (ρ.t 5))).frozen? ⟨b,1,none⟩=false :=
  Lib.frozen_of_heap ((Lib.alloc_old w _ b hlt).trans hbk) 1
 have c3:(((w.alloc (.cells ys (ρ.t 5))).drew.drew.drew).setRow w.heap.size (cs++ys.toList.drop l).toArray).heap[b]?=some (.cells #[.pointer (some ⟨b,0,none⟩),.slice a l c] (ρ.t 72) (0,0)) :=
  (setRow_other _ _ _ _ (by omega)).trans ((Lib.alloc_old w _ b hlt).trans hbk)
 have c3':(((w.alloc (.cells ys (ρ.t 5))).drew.drew.drew).setRow w.heap.size (cs++ys.toList.drop l).toArray).cell? ⟨b,1,none⟩=some (.slice a l c):=by rw[Lib.cell_of_heap c3];rfl
 have f3:(((w.alloc (.cells ys (ρ.t 5))).drew.drew.drew).setRow w.heap.size (cs++ys.toList.drop l).toArray).frozen? ⟨b,1,none⟩=false:=Lib.frozen_of_heap c3 1;clear hw
 have hly:l<=ys.size:=by omega
 have hmy:ys.size<=maxLen:=hmax (by unfold maxLen;omega)
 have hcopy:∀W:World,W.heap=(w.alloc (.cells ys (ρ.t 5))).heap->(Builtin.copy_ #[(ρ.t 37),(ρ.t 37)] (ρ.t 3) #[.slice (some ⟨w.heap.size,0,none⟩) l ys.size,.slice a l c]).run P W=.ok (goInt l) (W.setRow w.heap.size (cs++ys.toList.drop l).toArray):=by
  intro W hW
  have hg:W.heap[w.heap.size]?=some (.cells ys (ρ.t 5) (0,0)):=by rw[hW];exact heap_alloc_new w _
  rcases hsrc with h0|⟨g,cur,T,fr,rfl,hgc,htk⟩
  .have hcs:cs=[]:=length_eq_zero_iff.1 (by omega)
   subst h0;subst hcs;rw[run_copy_none W (ρ.t 37) (ρ.t 37) (ρ.t 3) (ρ.t 5) _ _ 0 ys.size 0 c L.t37 X.sizeByte rfl];simp only[nil_append,drop_zero,Array.toArray_toList];rw[setRow_self W w.heap.size ys (ρ.t 5) (0,0) hg];rfl
  .have hgl:g<w.heap.size:=by
    rcases Nat.lt_or_ge g w.heap.size with h'|h'
    .exact h'
    .simp[Array.getElem?_eq_none h']at hgc
   have hgW:W.heap[g]?=some (.cells cur T fr):=by rw[hW];exact(Lib.alloc_old w _ g hgl).trans hgc
   have:=run_copy_row (P:=P) W (ρ.t 37) (ρ.t 37) (ρ.t 3) (ρ.t 5) w.heap.size 0 l ys.size ⟨g,0,none⟩ l c ys (ρ.t 5) cs L.t37 X.sizeByte hg (by rw[hl];exact(Nat.min_self l).symm) (fun j v hj=>?_) (by omega) h1
   .rw[this,hl]
    simp
   .rw[show(⟨g,0,none⟩:Addr).add j=⟨g,0+j,none⟩from by cases j <;> simp[Addr.add],cell_of_row W g (0+j) cur T fr hgW,Nat.zero_add]
    rw[<-htk,getElem?_take]at hj;split at hj
    .rw[<-Array.getElem?_toList];exact hj
    .cases hj
 have mixed:=L.mixed
 have t72:=L.t72;have a72:=L.a72;have z72:=L.z72;have v72:=L.v72;have u72:=run_underlying L.t72
 have t70:=L.t70;have a70:=L.a70;have z70:=L.z70;have v70:=L.v70;have u70:=run_underlying L.t70
 have t37:=L.t37;have a37:=L.a37;have z37:=L.z37;have v37:=L.v37;have u37:=run_underlying L.t37
 have t3:=L.t3;have a3:=L.a3;have z3:=L.z3;have v3:=L.v3;have u3:=run_underlying L.t3
 have t5:=X.t5;have a5:=X.a5;have z5:=X.z5;have v5:=X.v5;have u5:=run_underlying X.t5
 go_enter L.f241,Body.n241_ntmps ρ
 go_wp2
 go_region_o
 all_goals go_wp2
 all_goals rw[hcopy ((w.alloc (.cells ys (ρ.t 5))).drew.drew.drew) rfl]
 all_goals simp only[Result.andThen]
 all_goals rw[Oper.upon_value]
 all_goals go_wp2
 all_goals go_end0
 all_goals
  have hxl:(cs++ys.toList.drop l).toArray.size=ys.size:=by simp;omega
  have hsz:w.heap.size<(w.alloc (.cells ys (ρ.t 5))).heap.size:=by rw[World.size_alloc];omega
  rw[setCell_eq_setRow _ b 1 _ _ _ _ c3];refine⟨rfl,(cs++ys.toList.drop l).toArray,rfl,rfl,rfl,by omega,by omega,by simp[<-hl],?_,fun i hi hib=>?_,?_,?_⟩
  .simp
  .rw[setRow_other _ _ _ _ hib,setRow_other _ _ _ _ (by omega)]
   exact heap_alloc_old w _ hi
  .rw[setRow_other _ _ _ _ (by omega)]
   exact setRow_heap _ _ ys _ _ _ (heap_alloc_new w _)
  .rw[setRow_heap _ _ _ _ _ _ c3,hxl]
   rfl
end Go.Proofs
namespace Go.Proofs
open Go.Shelf Go.RowKit
variable {P:Program} {ρ:Ren}
set_option maxHeartbeats 2000000 in
set_option maxRecDepth 1000000 in
theorem Any.Grow_used(L:Lays.n165 P ρ)(X:Builder.Extra P ρ)(b n l c:Nat)(a:Option Addr)(cs:List Value)(w0 w:World)
  (h0:∀W:World,(W=w0∨W=w0.drew)->Calls P (ρ.f 240) #[.pointer (some ⟨b,0,none⟩)] W fun e w'=>e=.returned (.tuple #[])/\w'.heap=w.heap/\w'.os=w.os/\w'.tape=w.tape/\w'.output=w.output)
  (hbk:w.heap[b]?=some (.cells #[.pointer (some ⟨b,0,none⟩),.slice a l c] (ρ.t 72) (0,0)))
  (hl:cs.length=l) (h1:∀v∈cs,v.oneCell'=true)
  (hsrc:l=0∨∃g cur T fr,a=some ⟨g,0,none⟩/\w.heap[g]?=some (.cells cur T fr)/\cur.toList.take l=cs)
  (hn:n<=274877906944) (hlim:l<=274877906944) (hlc:l<=c) (hc:c<=9223372036854775807) :
  Calls P (ρ.f 165) #[.pointer (some ⟨b,0,none⟩),.int .i64 n] w0 fun e w'=>e=.returned (.tuple #[])/\w'.os=w.os/\w'.tape=w.tape/\w'.output=w.output/\(∀i,i<w.heap.size->i≠b->w'.heap[i]?=w.heap[i]?) /\
   (w'.heap.size=w.heap.size/\w'.heap[b]?=some (.cells #[.pointer (some ⟨b,0,none⟩),.slice a l c] (ρ.t 72) (0,0)) ∨
    ∃xs:Array Value,l<=xs.size/\0<xs.size/\xs.size<=maxLen/\xs.toList.take l=cs/\w'.heap.size=w.heap.size+1/\w'.heap[w.heap.size]?=some (.cells xs (ρ.t 5) (0,0)) /\
     w'.heap[b]?=some (.cells #[.pointer (some ⟨b,0,none⟩),.slice (some ⟨w.heap.size,0,none⟩) l xs.size] (ρ.t 72) (0,0))):=by
 have mixed:=L.mixed
 have t72:=L.t72;have a72:=L.a72;have z72:=L.z72;have v72:=L.v72;have u72:=run_underlying L.t72
 have t70:=L.t70;have a70:=L.a70;have z70:=L.z70;have v70:=L.v70;have u70:=run_underlying L.t70
 have t37:=L.t37;have a37:=L.a37;have z37:=L.z37;have v37:=L.v37;have u37:=run_underlying L.t37
 have t3:=L.t3;have a3:=L.a3;have z3:=L.z3;have v3:=L.v3;have u3:=run_underlying L.t3
 have t9:=L.t9;have a9:=L.a9;have z9:=L.z9;have v9:=L.v9;have u9:=run_underlying L.t9
 have t4:=L.t4;have a4:=L.a4;have z4:=L.z4;have v4:=L.v4;have u4:=run_underlying L.t4
 have t164:=L.t164;have a164:=L.a164;have z164:=L.z164;have v164:=L.v164;have u164:=run_underlying L.t164
 have t5:=X.t5;have a5:=X.a5;have z5:=X.z5;have v5:=X.v5;have u5:=run_underlying X.t5
 have e240:∀args w,(callFunc (ρ.f 240) args).run P w=.ok (.enter (ρ.f 240) args) w:=enters_of L.f240 (by kernel_rfl) rfl;have e241:∀args w,(callFunc (ρ.f 241) args).run P w=.ok (.enter (ρ.f 241) args) w:=enters_of L.f241 (by kernel_rfl) rfl
 go_enter L.f165,Body.n165_ntmps ρ
 go_wp2_with (go_at_fn (ρ.f 240);refine(h0 _ (by first|exact .inl rfl|exact .inr rfl)).mono ?_;rintro e w1 ⟨rfl,hh,ho,ht,hout⟩)
 have hb1:w1.heap[b]?=some (.cells #[.pointer (some ⟨b,0,none⟩),.slice a l c] (ρ.t 72) (0,0)):=by rw[hh];exact hbk
 have c1:w1.cell? ⟨b,1,none⟩=some (.slice a l c):=by rw[Lib.cell_of_heap hb1];rfl
 have c1':w1.drew.cell? ⟨b,1,none⟩=some (.slice a l c):=c1
 go_region_o
 have hgrow:c<l+n->∀W:World,(W=w1.drew∨W=w1.drew.drew)->Calls P (ρ.f 241) #[.pointer (some ⟨b,0,none⟩),.int .i64 n] W _:=fun hlt W hW=>Any.grow_row { L with } X b n l c a cs W (by rcases hW with rfl|rfl <;> exact hb1) hl h1 (by
  rcases hsrc with h|⟨g,cur,T,fr,h2,h3,h4⟩
  .exact .inl h
  .exact .inr ⟨g,cur,T,fr,h2,by rcases hW with rfl|rfl <;> exact(congrArg (fun h:Array Obj=>h[g]?) hh).trans h3,h4⟩) (by omega) hlc
 go_wp2_with (go_at_fn (ρ.f 241);refine(hgrow (by omega) _ (by first|exact .inl rfl|exact .inr rfl)).mono ?_;rintro e w2 ⟨rfl,xs,q1,q2,q3,q4,q5,q6,q7,q8,q9,q10⟩)
 .go_end0
  have hW:(w1.drew).heap=w.heap:=hh;refine⟨rfl,q1.trans ho,q2.trans ht,q3.trans hout,fun i hi hib=>?_,.inr ⟨xs,by omega,by omega,q5,q6,?_,?_,?_⟩⟩
  .rw[q8 i (by first|exact hW ▸ hi|exact(show(w1.drew.drew).heap=w.heap from hh) ▸ hi) hib]
   exact congrArg (fun h:Array Obj=>h[i]?) hh
  .rw[q7];exact congrArg (fun h:Array Obj=>h.size+1) hh
  .rw[<-hh];exact q9
  .rw[<-hh];exact q10
 .go_end0
  exact⟨rfl,ho,ht,hout,fun i _ _=>congrArg (fun h:Array Obj=>h[i]?) hh,.inl ⟨congrArg Array.size hh,hb1⟩⟩
theorem Any.Grow(L:Lays.n165 P ρ)(X:Builder.Extra P ρ)(b n l c:Nat)(a:Option Addr)(cs:List Value)(p:Value)(w:World)
  (hp:p=.pointer none∨p=.pointer (some ⟨b,0,none⟩))
  (hbk:w.heap[b]?=some (.cells #[p,.slice a l c] (ρ.t 72) (0,0)))
  (hl:cs.length=l) (h1:∀v∈cs,v.oneCell'=true)
  (hsrc:l=0∨∃g cur T fr,a=some ⟨g,0,none⟩/\g≠b/\w.heap[g]?=some (.cells cur T fr)/\cur.toList.take l=cs)
  (hn:n<=274877906944) (hlim:l<=274877906944) (hlc:l<=c) (hc:c<=9223372036854775807) :
  Calls P (ρ.f 165) #[.pointer (some ⟨b,0,none⟩),.int .i64 n] w fun e w'=>e=.returned (.tuple #[])/\w'.os=w.os/\w'.tape=w.tape/\w'.output=w.output/\(∀i,i<w.heap.size->i≠b->w'.heap[i]?=w.heap[i]?) /\
   (w'.heap.size=w.heap.size/\w'.heap[b]?=some (.cells #[.pointer (some ⟨b,0,none⟩),.slice a l c] (ρ.t 72) (0,0)) ∨
    ∃xs:Array Value,l<=xs.size/\0<xs.size/\xs.size<=maxLen/\xs.toList.take l=cs/\w'.heap.size=w.heap.size+1/\w'.heap[w.heap.size]?=some (.cells xs (ρ.t 5) (0,0)) /\
     w'.heap[b]?=some (.cells #[.pointer (some ⟨b,0,none⟩),.slice (some ⟨w.heap.size,0,none⟩) l xs.size] (ρ.t 72) (0,0))):=by
 rcases hp with rfl|rfl
 .have hs1:w.setCell ⟨b,0,none⟩ (.pointer (some ⟨b,0,none⟩))=w.setRow b #[.pointer (some ⟨b,0,none⟩),.slice a l c]:=by rw[setCell_eq_setRow w b 0 _ _ _ _ hbk];rfl
  have hb1:(w.setCell ⟨b,0,none⟩ (.pointer (some ⟨b,0,none⟩))).heap[b]?=some (.cells #[.pointer (some ⟨b,0,none⟩),.slice a l c] (ρ.t 72) (0,0)):=by
   rw[hs1];exact setRow_heap _ _ _ _ _ _ hbk
  have ho:∀i,i≠b->(w.setCell ⟨b,0,none⟩ (.pointer (some ⟨b,0,none⟩))).heap[i]?=w.heap[i]?:=fun i hi=>by rw[hs1];exact setRow_other _ _ _ _ hi
  have hsz:(w.setCell ⟨b,0,none⟩ (.pointer (some ⟨b,0,none⟩))).heap.size=w.heap.size:=by rw[hs1];exact setRow_size _ _ _
  refine(Any.Grow_used L X b n l c a cs w (w.setCell ⟨b,0,none⟩ (.pointer (some ⟨b,0,none⟩))) ?_ hb1 hl h1 ?_ hn hlim hlc hc).mono ?_
  .intro W hW
   have hWh:W.heap=w.heap:=by rcases hW with rfl|rfl <;> rfl
   have hWb:W.heap[b]?=some (.cells #[.pointer none,.slice a l c] (ρ.t 72) (0,0)):=by rw[hWh];exact hbk
   refine(Any.Builder_copyCheck_fresh { L with } X.toX72 b W (by rw[Lib.cell_of_heap hWb];rfl) (by simp[World.shape?,hWb]) (Lib.frozen_of_heap hWb 0)).mono ?_;rintro e w' ⟨rfl,rfl⟩
   rcases hW with rfl|rfl <;> exact⟨rfl,rfl,rfl,rfl,rfl⟩
  .rcases hsrc with h|⟨g,cur,T,fr,h2,h3,h4,h5⟩
   .exact .inl h
   .exact .inr ⟨g,cur,T,fr,h2,(ho g h3).trans h4,h5⟩
  .rintro e w' ⟨h1,h2,h3,h4,h5,h6⟩
   rw[hsz]at h5 h6;exact⟨h1,h2,h3,h4,fun i hi hib=>(h5 i hi hib).trans (ho i hib),h6⟩
 .refine(Any.Grow_used L X b n l c a cs w w ?_ hbk hl h1 ?_ hn hlim hlc hc).mono fun e w' h=>h
  .intro W hW
   have hWh:W.heap=w.heap:=by rcases hW with rfl|rfl <;> rfl
   have hWb:W.heap[b]?=some (.cells #[.pointer (some ⟨b,0,none⟩),.slice a l c] (ρ.t 72) (0,0)):=by rw[hWh];exact hbk
   refine(Any.Builder_copyCheck_used { L with } X.toX72 b W (by rw[Lib.cell_of_heap hWb];rfl)).mono ?_;rintro e w' ⟨rfl,rfl⟩
   rcases hW with rfl|rfl <;> exact⟨rfl,rfl,rfl,rfl,rfl⟩
  .rcases hsrc with h|⟨g,cur,T,fr,h2,h3,h4,h5⟩
   .exact .inl h
   .exact .inr ⟨g,cur,T,fr,h2,h4,h5⟩
end Go.Proofs
namespace Go.Vc
open Go.Proofs Go.Shelf
variable [Tabs] {P:Program} {ρ:Ren}
theorem ut(bs:List UInt8):∀v∈bs.map mN,v.oneCell'=true:=by
 intro v hv;obtain⟨x,_,rfl⟩:=mem_map.1 hv;rfl
theorem Does.grow(L:Lays.n165 P ρ)(X:Builder.Extra P ρ)(n:Nat)(bs:List UInt8)(hn:n<=274877906944) :
  Does P (ρ.f 165) [.ptr 0 0,.p (.i .i64 n)] [.cells (ρ.t 72) [.np 0,.buf 1],.sb (ρ.t 5) bs] (fun r Y=>r=.tup []/\Y=[.cells (ρ.t 72) [.np 0,.buf 1],.sb (ρ.t 5) bs]):=by
 refine⟨⟨_,L.f165,by kernel_rfl,by kernel_rfl⟩,fun K G w vals hS hV=>?_⟩;simp only[VRs,VR,DR]at hV;obtain⟨c0,r0,rfl,⟨g0,b,hg0,hb0,rfl⟩,c1,r1,rfl,⟨rfl,hfit⟩,rfl⟩:=hV;obtain⟨b',cs,q1,q2,q3⟩:=hS.ob 0 g0 _ hg0 rfl;obtain rfl:b=b':=Option.some.inj (hb0.symm.trans q1);simp only[VRs,VR]at q3;obtain⟨p,rr,rfl,hp,sv,rr',rfl,⟨g1,hg1,rfl,a,l,c,hsv⟩,rfl⟩:=q3
 have hp':p=.pointer none∨p=.pointer (some ⟨b,0,none⟩):=by
  rcases hp with h|⟨g,b2,h1,h2,h3⟩
  .exact .inl h
  .rw[hg0]at h1;cases h1;rw[hb0]at h2;cases h2;exact .inr h3
 obtain⟨hlim,hh⟩:=hS.ob 1 g1 _ hg1 rfl
 have hsrc:bs.length=l/\l<=c/\c<=9223372036854775807/\(l=0∨∃g cur T fr,a=some ⟨g,0,none⟩/\g≠b/\w.heap[g]?=some (.cells cur T fr)/\cur.toList.take l=bs.map mN):=by
  rcases hh with⟨e1,rfl,_⟩|⟨gb,cap,cur,fr,e1,e2,e3,e4,e5,e6,e7,e8,e9⟩
  .rw[hsv]at e1;cases e1;exact⟨rfl,by omega,by omega,.inl rfl⟩
  .rw[hsv]at e1;cases e1
   refine⟨rfl,e5,by simp only[maxLen]at e7;omega,.inr ⟨gb,cur,_,fr,rfl,?_,e3,e9⟩⟩;rintro rfl;have:=hS.inj 0 1 g0 g1 _ hg0 hg1 hb0 e2;omega
 obtain⟨hl,hlc,hc,hsrc⟩:=hsrc
 have hlim':l<=274877906944:=by rw[<-hl];exact hlim
 refine(Any.Grow L X b n l c a (bs.map mN) p w hp' (by rw[hsv]at q2;exact q2) (by simpa using hl) (ut bs) hsrc hn hlim' hlc hc).mono ?_;rintro e w' ⟨rfl,ho,ht,hout,hfr,hcase⟩;have hl0:0<G.length:=(List.getElem?_eq_some_iff.1 hg0).1;have hl1:1<G.length:=(List.getElem?_eq_some_iff.1 hg1).1
 rcases hcase with⟨hsz,hbk⟩|⟨xs,x1,x2,x3,x4,hsz,x5,x6⟩
 .have hfr':∀i,i≠b->w'.heap[i]?=w.heap[i]?:=by
   intro i hi
   rcases Nat.lt_or_ge i w.heap.size with h|h
   .exact hfr i h hi
   .rw[Array.getElem?_eq_none h,Array.getElem?_eq_none (by omega)]
  refine⟨.tuple #[],.tup [],_,K,G,rfl,⟨rfl,rfl⟩,Ext.modA _ hg0 hb0 ho ht hout hsz hfr',hS.modA hg0 hb0 hsz hfr' (x:=.cells (ρ.t 72) [.np 0,.buf 1]) ?_,?_,?_⟩
  .refine⟨b,[.pointer (some ⟨b,0,none⟩),.slice a l c],hb0,hbk,?_⟩
   simp only[VRs,VR];exact⟨_,_,rfl,.inr ⟨g0,b,hg0,hb0,rfl⟩,_,_,rfl,⟨g1,hg1,hsv.symm,a,l,c,hsv⟩,rfl⟩
  .simp only[VR,VRs];exact⟨[],rfl,rfl⟩
  .exact Du _
 .have hG0:(G.set 1 ⟨some w.heap.size,.slice (some ⟨w.heap.size,0,none⟩) l xs.size⟩)[0]?=some g0:=by rw[getElem?_set_ne (by omega)];exact hg0
  have hG1:(G.set 1 ⟨some w.heap.size,.slice (some ⟨w.heap.size,0,none⟩) l xs.size⟩)[1]?=some ⟨some w.heap.size,.slice (some ⟨w.heap.size,0,none⟩) l xs.size⟩:=getElem?_set_self hl1;have hblt:=(hS.gb 0 g0 b hg0 hb0).1;have s1:=hS.modB hg1 (w':=w.alloc (.cells xs (ρ.t 5))) (g1:=⟨some w.heap.size,.slice (some ⟨w.heap.size,0,none⟩) l xs.size⟩) (x:=.sb (ρ.t 5) bs) (by rw[World.size_alloc];omega) (fun i hi _=>heap_alloc_old w _ hi) (fun i hi=>by cases hi;rw[World.size_alloc];exact⟨by omega,.inr (Nat.le_refl _)⟩) ⟨hlim,.inr ⟨w.heap.size,xs.size,xs,(0,0),by rw[hl],rfl,heap_alloc_new w _,.inl rfl,by omega,x2,x3,rfl,by rw[hl];exact x4⟩⟩;have e1:=Ext.modB (K:=K) (kp:=dG (kinds [.cells (ρ.t 72) [.np 0,.buf 1],.sb (ρ.t 5) bs])) (w:=w) (w':=w.alloc (.cells xs (ρ.t 5))) hg1 (g1:=⟨some w.heap.size,.slice (some ⟨w.heap.size,0,none⟩) l xs.size⟩) rfl rfl rfl rfl (by rw[World.size_alloc];omega) (fun i hi _=>heap_alloc_old w _ hi) (fun i hi=>by cases hi;exact .inr (Nat.le_refl _))
  have hsz2:w'.heap.size=(w.alloc (.cells xs (ρ.t 5))).heap.size:=by rw[World.size_alloc,hsz]
  have hfr2:∀i,i≠b->w'.heap[i]?=(w.alloc (.cells xs (ρ.t 5))).heap[i]?:=by
   intro i hi
   rcases Nat.lt_trichotomy i w.heap.size with h|h|h
   .rw[heap_alloc_old w _ h];exact hfr i h hi
   .subst h;rw[heap_alloc_new w _];exact x5
   .rw[Array.getElem?_eq_none (by omega),Array.getElem?_eq_none (by rw[World.size_alloc];omega)]
  have s2:=s1.modA hG0 hb0 (w':=w') hsz2 hfr2 (x:=.cells (ρ.t 72) [.np 0,.buf 1]) (by
   refine⟨b,[.pointer (some ⟨b,0,none⟩),.slice (some ⟨w.heap.size,0,none⟩) l xs.size],hb0,x6,?_⟩;simp only[VRs,VR]
   exact⟨_,_,rfl,.inr ⟨g0,b,hG0,hb0,rfl⟩,_,_,rfl,⟨_,hG1,rfl,_,_,_,rfl⟩,rfl⟩)
  refine⟨.tuple #[],.tup [],_,K,_,rfl,⟨rfl,rfl⟩,e1.trans (Ext.modA _ hG0 hb0 ho ht hout hsz2 hfr2),s2,?_,Du _⟩
  simp only[VR,VRs];exact⟨[],rfl,rfl⟩
open Go.Proofs Go.Shelf
section
variable {P:Program} {ρ:Ren}
theorem ng{K:Nat->Prop}{h:Array Obj}:∀{l:List (List UInt8)} {xs:List Value},DRss K h 1 xs (l.map fun x=>[Dt.s x])->xs=l.map encStr/\∀x∈l,x.length<=dJ
 |[],xs,H=>by simp only[map_nil,DRss]at H;subst H;exact⟨rfl,by simp⟩
 |x::l,xs,H=>by
  simp only[map_cons,DRss]at H;obtain⟨a,b,rfl,_,h1,h2⟩:=H;simp only[DRs,DR]at h1;obtain⟨v,vs',rfl,⟨rfl,h3⟩,rfl⟩:=h1;obtain⟨rfl,h4⟩:=ng h2;refine⟨rfl,fun y hy=>?_⟩
  rcases mem_cons.1 hy with rfl|hy
  .exact h3
  .exact h4 y hy
theorem lK{K:Nat->Prop}{h:Array Obj}:∀{l:List (List UInt8)},(∀x∈l,x.length<=dJ)->DRss K h 1 (l.map encStr) (l.map fun x=>[Dt.s x])
 |[],_=>by simp only[map_nil,DRss]
 |x::l,hl=>by
  simp only[map_cons,DRss,DRs,DR];exact⟨[encStr x],l.map encStr,rfl,rfl,⟨_,[],rfl,⟨rfl,hl x (by simp)⟩,rfl⟩,lK fun y hy=>hl y (by simp[hy])⟩
theorem Does.sortS(L:SlLaysM.n6 P ρ)(hc:Ca P (ρ.f 6))(T:TypeId)(l:List (List UInt8)) :
  Does P (ρ.f 6) [.buf 0] [.fx T 1 (l.map fun x=>[.s x])] (fun r Y=>r=.tup []/\Y=[.fx T 1 ((Vc.sortS l).map fun x=>[.s x])]):=by
 refine⟨hc,fun K G w vals hS hV=>?_⟩;simp only[VRs,VR]at hV;obtain⟨c0,r0,rfl,⟨g,hg,rfl,a0,n0,cap0,hsv0⟩,rfl⟩:=hV;obtain⟨hlim,xs,hxs,hh⟩:=hS.ob 0 g _ hg rfl;obtain⟨rfl,hle⟩:=ng hxs;simp only[length_map]at hlim hh
 have hg0:G.set 0 g=G:=by
  apply ext_getElem?;intro i
  by_cases e:i=0
  .subst e;rw[getElem?_set_self (List.getElem?_eq_some_iff.1 hg).1,hg]
  .rw[getElem?_set_ne (Ne.symm e)]
 rcases hh with⟨⟨a,h1⟩,h2,h3⟩|⟨b,cap,cur,fr,h1,h2,h3,h4,h5,h6,h7,h8⟩
 .have hl0:l=[]:=by simpa using h2
  subst hl0;rw[h1];refine(AnyM.slices_Sort_string_none L a 0 w).mono ?_;rintro e w' ⟨rfl,rfl⟩;refine⟨.tuple #[],.tup [],_,K,G,rfl,⟨rfl,rfl⟩,Ext.refl _ _ _ _,by simpa [Vc.sortS]using hS,?_,by simpa [Vc.sortS]using Du [.fx T 1 (([]:List (List UInt8)).map fun x=>[Dt.s x])]⟩
  simp only[VR,VRs];exact⟨[],rfl,rfl⟩
 .have hb:b<w.heap.size:=(Array.getElem?_eq_some_iff.1 h3).1
  have hcs:cur.size=cap:=by simpa using h7
  have hcell:∀j,j<l.length->cur[j]?=some (encStr l[j]!):=by
   intro j hj
   have:(cur.toList.take (l.length*1))[j]?=(l.map encStr)[j]?:=by rw[h8]
   rw[getElem?_take,if_pos (by omega),Array.getElem?_toList,getElem?_map,getElem?_eq_getElem hj]at this;rw[this];simp[hj]
  have hH:Sort.Holds encStr w b 0 l.toArray:=by
   intro j hj
   have hj':j<l.length:=by simpa using hj
   refine⟨?_,?_⟩
   .rw[Nat.zero_add,cell_of_row w b j cur T fr h3,hcell j hj']
    simp
   .have:=h4.out j (by omega)
    obtain⟨f1,f2⟩:=fr;simp only[World.frozen?,h3,Nat.zero_add]at this|-
    simpa using this
  rw[h1];refine(AnyM.slices_Sort_string L b 0 cap l w hH hb (by simp only[dJ]at hlim;omega)).mono ?_;rintro e w' ⟨rfl,nn,os,rfl⟩;have hsl:=OH l
  have hget:∀i,i<w.heap.size->(Sort.grow (Sort.putRow encStr (Sort.ahead w nn) b 0 (Vc.sortS l).toArray) os).heap[i]?=if b=i then(w.heap[i]?).map (Sort.onCells (Sort.putCells encStr 0 (Vc.sortS l).toArray))else w.heap[i]?:=by
   intro i hi
   show(((w.heap.modify b (Sort.onCells (Sort.putCells encStr 0 (Vc.sortS l).toArray)))++os):Array Obj)[i]?=_
   rw[Array.getElem?_append_left (by simpa using hi),Array.getElem?_modify]
  have hput:(Sort.grow (Sort.putRow encStr (Sort.ahead w nn) b 0 (Vc.sortS l).toArray) os).heap[b]?=some (.cells (Sort.putCells encStr 0 (Vc.sortS l).toArray cur) T fr):=by
   rw[hget b hb,if_pos rfl,h3];rfl
  have hfr:∀i,i<w.heap.size->g.blk≠some i->(Sort.grow (Sort.putRow encStr (Sort.ahead w nn) b 0 (Vc.sortS l).toArray) os).heap[i]?=w.heap[i]?:=by
   intro i hi hib;rw[hget i hi,if_neg (fun e=>hib (by rw[h2,e]))]
  have hsz:w.heap.size<=(Sort.grow (Sort.putRow encStr (Sort.ahead w nn) b 0 (Vc.sortS l).toArray) os).heap.size:=by
   show w.heap.size<=((w.heap.modify b _)++os:Array Obj).size
   simp
  have hpc:(Sort.putCells encStr 0 (Vc.sortS l).toArray cur).size=cur.size:=by simp[Sort.putCells]
  have htake:(Sort.putCells encStr 0 (Vc.sortS l).toArray cur).toList.take ((Vc.sortS l).length*1)=(Vc.sortS l).map encStr:=by
   apply ext_getElem?;intro i;rw[getElem?_take,getElem?_map]
   by_cases hi:i<(Vc.sortS l).length
   .rw[if_pos (by omega),Array.getElem?_toList]
    have:i<cur.size:=by omega
    simp[Sort.putCells,this,hi]
   .rw[if_neg (by omega),getElem?_eq_none (by omega)]
    rfl
  have hx:ObR K (Sort.grow (Sort.putRow encStr (Sort.ahead w nn) b 0 (Vc.sortS l).toArray) os).heap (G.set 0 g) g (.fx T 1 ((Vc.sortS l).map fun x=>[.s x])):=by
   refine⟨by simpa [hsl]using hlim,_,lK (fun x hx=>hle x (by simpa [Vc.sortS]using hx)),.inr ⟨b,cap,_,fr,by rw[h1];simp[hsl],h2,hput,by rw[hpc];exact h4,by simpa [hsl]using h5,h6,by rw[hpc];exact h7,by simpa using htake⟩⟩
  have s1:=hS.modB hg (g1:=g) hsz hfr (fun i hi=>⟨by have:=(hS.gb 0 g i hg hi).1;omega,.inl hi⟩) hx;rw[hg0]at s1;refine⟨.tuple #[],.tup [],_,K,G,rfl,⟨rfl,rfl⟩,?_,s1,?_,fun o ho=>?_⟩
  .have e1:=Ext.modB (K:=K) (w:=w) (kp:=fun _=>false) (w':=Sort.grow (Sort.putRow encStr (Sort.ahead w nn) b 0 (Vc.sortS l).toArray) os) hg rfl rfl rfl rfl hsz hfr (g1:=g) (fun i hi=>.inl hi)
   rw[hg0]at e1;exact { e1 with gsame:=fun _ _ _ h0=>h0 }
  .simp only[VR,VRs];exact⟨[],rfl,rfl⟩
  .cases o with
   |zero=>exact⟨_,rfl,rfl⟩
   |succ o=>simp[kinds,dG]at ho
theorem cn{ρ':Ren}(L:SlLaysZ.n6 P ρ)(L10:SlLaysZ.n10 P ρ')(hc:Ca P (ρ.f 6))(hsorts:∀m,AnyZ.SortsIn P ρ Fence.wide m)(e9:∀args w,(callFunc (ρ.f 9) args).run P w=.ok (.enter (ρ.f 9) args) w)(eg:∀args w,(callFunc (ρ'.f 10) args).run P w=.ok (.enter (ρ'.f 10) args) w)
  (ht:ρ'.t 26=ρ.t 26) {V:Type} (M:TypeId) (ag:Bool) (e:V->List Dt) (l:List (List UInt8×V)) :
  Does P (ρ.f 6) [.fn (ρ'.f 10) [.ptr 0 0]] [.cells M [.mp 1],.mp ag (zl Dt.s e l)] (fun r Y=>r=.p (.l ((Vc.sortS (l.map (·.1))).map fun x=>[.s x]))/\Y=[.cells M [.mp 1],.mp ag (zl Dt.s e l)]):=by
 refine⟨hc,fun K G w vals hS hV=>?_⟩;simp only[VRs,VR]at hV;obtain⟨c0,r0,rfl,⟨cs,rfl,c1,r1,rfl,⟨g0,b0,hg0,hb0,rfl⟩,rfl⟩,rfl⟩:=hV;obtain⟨b0',cc,q1,q2,q3⟩:=hS.ob 0 g0 _ hg0 rfl;obtain rfl:b0=b0':=Option.some.inj (hb0.symm.trans q1);simp only[VRs,VR]at q3;obtain⟨c2,r2,rfl,⟨g1,b1,hg1,hb1,rfl⟩,rfl⟩:=q3;obtain⟨hlim,b1',mes,clock,p1,p2,p3,p4⟩:=hS.ob 1 g1 _ hg1 rfl;obtain rfl:b1=b1':=Option.some.inj (hb1.symm.trans p1);have hst:=P.underlying (ρ'.t 26);have hk:P.underlying (ρ'.t 26)=some .string:=L10.t26
 -- how the entries read
 let R:Value->Option (DataW Unit×List MemPlace):=fun _=>some (.lit (.bool true),[])
 have hent:∀(ms:List MapEntry) (ll:List (List UInt8×V)),MRs K w.heap ag ms (zl Dt.s e ll)->(∀x∈ms,∃y,WideElems.rd P (ρ'.t 26) R x=some y)/\(ms.map (WideElems.rg P (ρ'.t 26) R)).map (fun p=>Go.strOf p.1)=ll.map (·.1)/\(∀y∈ll,y.1.length<=dJ):=by
  intro ms
  induction ms with
  |nil=>intro ll h;cases ll with
   |nil=>simp
   |cons y ll=>simp[zl,MRs]at h
  |cons x ms ih=>intro ll h;cases ll with
   |nil=>simp[zl,MRs]at h
   |cons y ll =>
    simp only[zl,map_cons,MRs]at h;obtain⟨h1,h2,h3⟩:=h;obtain⟨i1,i2,i3⟩:=ih ll h3;simp only[KR,DR]at h1
    have hrd:WideElems.rd P (ρ'.t 26) R x=some (.string y.1,.lit (.bool true)):=by
     have hl:y.1.length<=maxLen:=by have:=h1.2;simp only[dJ,maxLen]at *;omega
     unfold WideElems.rd;rw[h1.1,WideMaps.keyOf_string_mk hk (by simpa [ByteArray.size]using hl)];simp[R]
    refine⟨fun z hz=>?_,?_,fun z hz=>?_⟩
    .rcases mem_cons.1 hz with rfl|hz
     .exact⟨_,hrd⟩
     .exact i1 z hz
    .simp only[map_cons,i2,WideElems.rg_of hrd]
     rfl
    .rcases mem_cons.1 hz with rfl|hz
     .exact h1.2
     .exact i3 z hz
 obtain⟨hrd,hkeys,hkl⟩:=hent mes.toList l p3
 have hlen:mes.size=l.length:=by have:=p3.length;simpa [zl]using this
 have hlim':mes.size<=dJ:=by rw[hlen];simpa [zl]using hlim
 let D0:DataW Unit:=.map ((mes.toList.map (WideElems.rg P (ρ'.t 26) R)).foldr DataW.insert [])
 have hown:w.ownsMap P (ρ'.t 26) R b1 mes.size D0:=⟨mes,clock,p2,⟨by simp only[dJ,maxLen]at *;omega,p4,hrd⟩,Nat.le_refl _,rfl⟩
 have hperm:(strKeys D0).Perm (l.map (·.1)):=by
  show(((mes.toList.map (WideElems.rg P (ρ'.t 26) R)).foldr DataW.insert []).map fun p=>Go.strOf p.1).Perm _
  rw[<-hkeys];exact(WideShapes.sorted_perm _).map _
 have hsz0:Maps.size D0=mes.size:=by
  show((mes.toList.map (WideElems.rg P (ρ'.t 26) R)).foldr DataW.insert []).length=_
  rw[(WideShapes.sorted_perm _).length_eq];simp
 have hb0lt:b0<w.heap.size:=(Array.getElem?_eq_some_iff.1 q2).1
 have hseq:SeqGives Fence.wide 2 P (ρ'.f 10) #[.pointer (some ⟨b0,0,none⟩)] encStr (fun ss=>ss.Perm (strKeys D0)) (Maps.size D0) w :=
  AnyZ.keys_gives (ρ:=ρ') L10 Fence.wide _ trivial rfl (by omega) b0 b1 mes.size D0 w hb0lt (by rw[cell_of_row w b0 0 _ M (0,0) q2];rfl) hown
 have hmain:=AnyZ.sorted_in L Fence.wide 5 trivial trivial trivial trivial rfl (by omega) (hsorts _) e9 (ρ'.f 10) #[.pointer (some ⟨b0,0,none⟩)] trivial eg _ (Maps.size D0) (by rw[hsz0];simp only[dJ,maxLen]at *;omega) (by rw[hsz0];simp only[dJ]at *;omega) w hseq;refine((callsIn_wide (n:=5)).1 hmain).mono ?_;rintro ee w' ⟨v,ss,rfl,hss,hrow,hnil,hB⟩;have hsort:ss.mergeSort (fun x y=>decide (x<=y))=Vc.sortS (l.map (·.1)):=mergeSort_of_perm (hss.trans hperm)
 have hsl:ss.length=(Vc.sortS (l.map (·.1))).length:=by rw[<-hsort];simp
 rw[hsort]at hrow
 have hstr:∀x∈Vc.sortS (l.map (·.1)),x.length<=dJ:=fun x hx=>by
  have:x∈l.map (·.1):=by simpa [Vc.sortS]using hx
  obtain⟨y,hy,rfl⟩:=mem_map.1 this;exact hkl y hy
 have hfr:∀k,k<w.heap.size->w'.heap[k]?=w.heap[k]?:=hB.block;obtain⟨hrl,hrow⟩:=hrow
 -- the result's block is new
 let K':Nat->Prop:=fun b=>K b∨∃a n c,v=.slice (some a) n c/\a.block=b
 have hnew:∀b,K' b->K b∨(w.heap.size<=b/\b<w'.heap.size):=by
  intro b hb
  rcases hb with hb|⟨a,nn,c,hv,rfl⟩
  .exact .inl hb
  .rcases hrow with⟨hv',_⟩|⟨g,cap,cur,hv',h1,h2,_⟩
   .rw[hv]at hv';cases hv'
   .rw[hv]at hv';cases hv'
    exact .inr ⟨h1,(Array.getElem?_eq_some_iff.1 h2).1⟩
 have hMn:Mn K K' w.heap w'.heap:=⟨fun _ h=>.inl h,fun b hb=>hfr b (hS.kb b hb)⟩;refine⟨v,_,_,K',G,rfl,⟨rfl,rfl⟩,{ Ext.refl (dG (kinds [.cells M [.mp 1],.mp ag (zl Dt.s e l)])) K G w with os:=hB.os,tape:=hB.tape,output:=hB.output,size:=hB.size,k:=fun _ h=>.inl h,knew:=fun b hb=>(hnew b hb).imp id (·.1),frame:=fun b hb _=>hfr b hb },⟨hS.len,fun b hb=>?_,fun i g b hg hb=>?_,hS.inj,fun i g y hg hy=>?_,hS.tb.mono hMn⟩,?_,Du _⟩
 .rcases hnew b hb with h|h
  .exact Nat.lt_of_lt_of_le (hS.kb b h) hB.size
  .exact h.2
 .have h1:=hS.gb i g b hg hb
  refine⟨Nat.lt_of_lt_of_le h1.1 hB.size,fun hk=>?_⟩
  rcases hnew b hk with h|h
  .exact h1.2 h
  .omega
 .exact ObR.keep hMn (Mg.refl (fun _=>true) G) (fun b hb=>hfr b (hS.gb i g b hg hb).1) (Ob.all_true _) (hS.ob i g y hg hy)
 .simp only[VR,DR]
  rcases hrow with⟨hv,h0⟩|⟨g,cap,cur,hv,h1,h2,h3,h4,h5,h6⟩
  .refine .inl ⟨⟨none,hv⟩,?_⟩
   have:(Vc.sortS (l.map (·.1)))=[]:=length_eq_zero_iff.1 (by omega)
   rw[this];rfl
  .refine .inr ⟨g,0,cap,cur,_,(0,0),1,(Vc.sortS (l.map (·.1))).map encStr,by rw[hv,length_map,hsl],.inr ⟨_,_,_,hv,rfl⟩,h2,by rw[length_map,<-hsl];exact h3,?_,fun j x hj=>?_,lK hstr⟩
   .rw[length_map,OH,length_map];omega
   .rw[<-h6,getElem?_take]at hj
    split at hj
    .rw[Nat.zero_add,<-Array.getElem?_toList];exact hj
    .cases hj
end
open Go.Proofs Go.Shelf Go.RowKit
theorem cS{f:FuncId}{args:List Va}{r:Va}(hc:Ca P f)
  (h:∀(K:Nat->Prop) (w:World) vals,TabOk K w.heap->VRs K w.heap [] vals args->Calls P f vals.toArray w fun e w'=>∃v,e=.returned v/\Below w.heap.size w w'/\VR K w'.heap [] v r) :
  Does P f args [] fun r' X=>r'=r/\X=[]:=by
 refine⟨hc,fun K G w vals hS hV=>?_⟩;have hG:G=[]:=eq_nil_of_length_eq_zero (by have:=hS.len;simpa using this);subst hG;refine(h K w vals hS.tb hV).mono ?_;rintro e w' ⟨v,rfl,hB,hv⟩;have hM:Mn K K w.heap w'.heap:=⟨fun _ h=>h,fun b hb=>hB.block b (hS.kb b hb)⟩
 refine⟨v,r,[],K,[],rfl,⟨rfl,rfl⟩,{ Ext.refl (dG (kinds [])) K [] w with os:=hB.os,tape:=hB.tape,output:=hB.output,size:=hB.size,frame:=fun b hb _=>hB.block b hb },
  ⟨rfl,fun b hb=>Nat.lt_of_lt_of_le (hS.kb b hb) hB.size,fun o g b hg=>by simp at hg,fun o o' g g' b hg=>by simp at hg,fun o g x hg=>by simp at hg,hS.tb.mono hM⟩,hv,Du []⟩
open Go.Proofs Go.Shelf Go.RowKit
variable [Tabs] {P:Program} {ρ ρ':Ren}
def atoiN(s:List UInt8):Int:=(Lib.atoi s).getD 0
open Go.Proofs Go.Shelf Go.RowKit
theorem Does.itoa (L:LaysM.n171 P ρ) (hc:Ca P (ρ.f 171)) {b:Nat} (hg:P.globalNamed "internal/strconv.uint64pow10"=some b) (hT:Tabs.tab b=some (.u64,Lib.pow10Tab)) (n:Int) (h0:-9223372036854775808<=n) (h1:n<=9223372036854775807) :
  Does P (ρ.f 171) [.p (.i .i64 n)] [] fun r X=>r=.p (.s (Lib.itoa n))/\X=[]:=by
 refine cS hc fun K w vals hT' hV=>?_
 simp only[VRs,VR,DR]at hV;obtain⟨c0,r0,rfl,⟨rfl,_⟩,rfl⟩:=hV;obtain⟨_,⟨T,fr,hcell⟩,_⟩:=hT'.1 _ _ _ hT
 have tX:Lib.TabIs P w "internal/strconv.uint64pow10" .u64 Lib.pow10Tab:=by
  unfold Lib.TabIs World.var?
  rw[hg];simp[hcell]
 refine(Any.strconv_Itoa L n h0 h1 w tX).mono ?_;rintro e w' ⟨rfl,k,os,rfl⟩;refine⟨_,rfl,Lib.below_grow _ _ (Nat.le_refl _) _ _,?_⟩;simp only[VR,DR];exact⟨trivial,by have:=Lib.itoa_length_le n h0 h1;simp only[dJ];omega⟩
open Go.Proofs Go.Shelf Go.RowKit
def ia(s:List UInt8):Int:=match Lib.atoiAll s with
 |.ok v=>v
 |.range=>Lib.atoiSat s
 |_=>0
def atoiE(s:List UInt8):Bool:=match Lib.atoiAll s with
 |.ok _=>true
 |_=>false
theorem dj(L:LaysC.n172 P ρ)(h15:Tabs.ifc (ρ.g 15)=true)(h16:Tabs.ifc (ρ.g 16)=true)(hc:Ca P (ρ.f 172))(s:List UInt8) :
  Does P (ρ.f 172) [.p (.s s)] [] fun r X=>r=.tup [.p (.i .i64 (ia s)),.er (atoiE s)]/\X=[]:=by
 refine cS hc fun K w vals hT hV=>?_
 simp only[VRs,VR,DR]at hV;obtain⟨c0,r0,rfl,⟨rfl,hl⟩,rfl⟩:=hV
 have hd:(⟨s.toArray⟩:ByteArray).data.toList=s:=by simp
 have hz:(⟨s.toArray⟩:ByteArray).size=s.length:=by simp[ByteArray.size]
 have hlim:(⟨s.toArray⟩:ByteArray).size<=281474976710656:=by rw[hz];simp only[dJ]at hl;omega
 have cell:∀b,Tabs.ifc b=true->∃ev,w.cell? ⟨b,0,none⟩=some ev/\(ev=.nilIface∨∃te pe,ev=.iface te pe):=fun b hb=>by
  obtain⟨_,ev,T,fr,hcell,hev⟩:=hT.2 _ hb;exact⟨ev,by rw[Lib.cell_of_heap hcell];rfl,hev⟩
 cases h:Lib.atoiAll s with
 |ok v =>
  obtain⟨b0,b1⟩:=Lib.atoiAll_bounds h;refine(Any.strconv_Atoi_ok L ⟨s.toArray⟩ (by omega) v (by rw[hd];exact h) w).mono ?_;rintro e w' ⟨rfl,hw⟩;refine⟨_,rfl,by rcases hw with rfl|⟨t,rfl⟩ <;> first|exact Below.refl _ _|exact Lib.bytesWorld_below _ _ _,?_⟩;simp only[VR,VRs,DR,ia,atoiE,h];exact⟨_,rfl,_,_,rfl,⟨rfl,by simp only[Fits,lo,hi];omega⟩,_,_,rfl,.inl ⟨trivial,rfl⟩,rfl⟩
 |range =>
  obtain⟨ev,hw,hev⟩:=cell _ h16;obtain⟨b0,b1⟩:=Lib.atoiSat_bounds s;refine(Any.strconv_Atoi_range L ⟨s.toArray⟩ hlim (by rw[hd];exact h) ev w hw hev).mono ?_;rintro e w' ⟨N,rfl,_,_,hB⟩;refine⟨_,rfl,hB,?_⟩;simp only[VR,VRs,DR,ia,atoiE,h];exact⟨_,rfl,_,_,rfl,⟨rfl,by simp only[Fits,lo,hi];omega⟩,_,_,rfl,.inr ⟨trivial,_,_,rfl⟩,rfl⟩
 |_ =>
  obtain⟨ev,hw,hev⟩:=cell _ h15;refine(Any.strconv_Atoi_syntax L ⟨s.toArray⟩ hlim (by rw[hd];exact h) ev w hw hev).mono ?_;rintro e w' ⟨N,rfl,_,_,hB⟩;refine⟨_,rfl,hB,?_⟩;simp only[VR,VRs,DR,ia,atoiE,h];exact⟨_,rfl,_,_,rfl,⟨rfl,by simp only[Fits,lo,hi];omega⟩,_,_,rfl,.inr ⟨trivial,_,_,rfl⟩,rfl⟩
def ir:List Nat->Nat->Bool
 |[],_=>false
 |x::l,i=>bif i == x then true else ir l i
def jx(ch:List Nat):Nat->List Bool->List Bool
 |_,[]=>[]
 |i,b::l=>(b&&!ir ch i)::jx ch (i+1) l
theorem Rb(ch:List Nat):∀(i:Nat) (l:List Bool),(jx ch i l).length=l.length
 |_,[]=>rfl
 |i,b::l=>by simp[jx,Rb ch (i+1) l]
theorem N5(ch:List Nat):∀(i:Nat) (l:List Bool) (o:Nat),dG (jx ch i l) o=(dG l o&&!ir ch (i+o))
 |_,[],o=>by simp[jx,dG]
 |i,b::l,0=>by simp[jx,dG]
 |i,b::l,o+1=>by simp only[jx,dG];rw[N5 ch (i+1) l o,show i+1+o=i+(o+1)by omega]
theorem wL{ch:List Nat}{X:List Ob}:fE (dG (jx ch 0 (kinds X))) X:=fun o h=>by
 rw[N5,Bool.and_eq_true]at h;exact Du X o h.1
def DoesC(P:Program)(f:FuncId)(args:List Va)(X:List Ob)(ch:List Nat)(Post:Va->List Ob->Prop):Prop :=
 Ca P f/\∀K G w vals,St K G X w->VRs K w.heap G vals args ->
  Calls P f vals.toArray w fun e w'=>∃c r X' K' G',e=.returned c/\Post r X'/\Ext (dG (jx ch 0 (kinds X))) K G w K' G' w'/\St K' G' X' w'/\VR K' w'.heap G' c r/\fE (dG (jx ch 0 (kinds X))) X'
theorem DoesC.of_wp {P:Program} {f:FuncId} {fn:Func} {code:Code} {args:List Va} {X:List Ob} {Post:Va->List Ob->Prop} (ch:List Nat) (m n:Nat) (rs:List ResultVar) (hf:P.funcs[f]?=some fn) (hb:fn.body=some code) (hnm:(fn.name == "runtime.NumGoroutine")=false) (hn:fn.ntmps=n) (hrs:fn.results.toList=rs) (hl:args.length<=n)
  (h:∀B,Wp P (jx ch 0 (kinds X)) n B code (qA P rs m (jx ch 0 (kinds X)) Post) (yB 0 args) X):DoesC P f args X ch Post:=by
 subst hn;subst hrs;refine⟨⟨fn,hf,hnm,by rw[hb];rfl⟩,fun K G w vals hS hV=>?_⟩;have hvl:=hV.length;refine calls_of_wp hf hb ?_
 have hB:G.length=(jx ch 0 (kinds X)).length:=by rw[Rb,OL,hS.len]
 have hR:Rel (cx P (jx ch 0 (kinds X)) fn.ntmps ⟨K,G,w⟩) (yB 0 args) X { tmps:=vals.toArray++Array.replicate (fn.ntmps-vals.toArray.size) undef,defers:=[] } w:=by
  refine⟨K,G,Ext.refl _ _ _ _,hS,fun j=>?_,rfl,by simp;omega,wL⟩;have:=ND (K:=K) (h:=w.heap) (G:=G) 0 j hV;simp only[Nat.zero_le,if_true,Nat.sub_zero]at this
  have e:(vals.toArray++Array.replicate (fn.ntmps-vals.toArray.size) undef).getD j undef=vals.getD j undef:=by
   rw[Array.getD_eq_getD_getElem?,getD_eq_getElem?_getD,Array.getElem?_append];split
   .simp
   .rename_i hj
    rw[getElem?_eq_none (by simpa using hj),Array.getElem?_replicate]
    split <;> rfl
  rw[e];exact this
 refine wp_mono (h ⟨K,G,w⟩ hB _ _ hR) ?_;intro e a w' ⟨E,H,hq,hR'⟩
 have eu:ib P fn.results.toList m (jx ch 0 (kinds X)) Post E H->a.defers=[]/\∃v,(results fn a.tmps).run P w'=.ok v w'/\∃c r X' K' G',Ending.returned v=.returned c/\Post r X'/\Ext (dG (jx ch 0 (kinds X))) K G w K' G' w'/\St K' G' X' w'/\VR K' w'.heap G' c r/\fE (dG (jx ch 0 (kinds X))) X':=by
  intro hq;obtain⟨h1,h2,h3,h4,h5,r,X',h6,h7,h8,h9,h10,h11⟩:=hq;obtain⟨K1,G1,hX,hS1,hE,hd,_,hk⟩:=hR';obtain⟨c,hc,hv⟩:=rJ (P:=P) hS1 hE h1
  have hmk:G.length<=m:=by rw[hB];exact h2
  have hMg:Mg (fun o=>decide (o<m)) G1 (G1.take m):=fun o g ho hg=>by rw[getElem?_take,if_pos (by simpa using ho)];exact hg
  have hv2:VR (B7 K1 G1 H m) w'.heap (G1.take m) c (gJ m H (gI P E H fn.results.toList).v):=VR.keep ⟨fun _ h=>h,fun _ _=>rfl⟩ hMg _ _ h4 (lW hS1 m hv);have hS2:=hS1.out h5;have hS3:=hS2.cut h7 (by rw[h8];exact h10);rw[h8,take_take,Nat.min_self]at hS3;refine⟨hd,c,hc,c,r,X',B7 K1 G1 H m,G1.take m,rfl,h11,hX.out hmk,hS3,i6 h6 hv2,fun o ho=>?_⟩;obtain⟨vs,hvs,hkt⟩:=hk o ho;have hom:o<m:=Nat.lt_of_lt_of_le (B3 ho) h2;obtain⟨x,hx,hle⟩:=FQ h7 o _ (getElem?_eq_getElem (by rw[h8];exact hom));obtain⟨x0,hx0,rfl⟩:=Lf m H hx;rw[getElem?_take,if_pos hom,hvs]at hx0;cases hx0;exact⟨_,getElem?_eq_getElem (by rw[h8];exact hom),Ng hle (by cases vs <;> first|rfl|cases hkt)⟩
 cases e with
 |normal=>exact eu hq
 |ret=>exact eu hq
 |exit id=>exact hq.elim
 |goto l=>exact hq.elim
 |panic ch=>exact hq.elim
 |outgrown=>exact hq.elim
section
variable {P:Program} {kl:List Bool} {n:Nat} {B:Bs} {K:dz->List Ob->Prop} {E:dz} {H:List Ob} {ops:Array Oper}
theorem xR{o:Oper}{c:Call}{fop:Operand}{f:FuncId}{caps args:List Va}{X:List Ob}{Post:Va->List Ob->Prop}(ids ch:List Nat)(fK:Nat->Bool)(hs:DoesC P f args X ch Post)(hf1:∀j i:Nat,ids[j]?=some i->fK i=true->dG (jx ch 0 (kinds X)) j=true)(hf2:∀o,dG kl o=true->fK o=true)(e1:o.op=.call c)(e3:c.callee=.value fop)(hk:opOk true E fop/\allOk true E c.args.toList)(e4:opnd E fop=.fn f caps)
  (hp:jX ids (opnds E c.args.toList++caps)=some args) (hXs:jq ids H ids=some X) (hids:j0 H.length ids=true) {a:Act} {w:World} {Q:Exit->Act->World->Prop} {K':Act->World->Prop} (hR:Rel (cx P kl n B) E H a w)
  (hK':∀c' r X' w',Post r X'->r.ok->RelV (cx P kl n B) (ik fK E) (eo (gh fK H) ids (gr ids H.length X')) c' (ew ids H.length r) a w'->K' (a.put o.dst c') w'):o.wp P a w K' Q:=by
 obtain⟨Kk,G,hX,hS,hE,hdf,hn,hkp⟩:=hR;have hvf:=zz hE rfl fop hk.1;rw[e4]at hvf;simp only[VR]at hvf;obtain⟨cs,hcs,hcv⟩:=hvf;have hargs:=vt hE rfl c.args.toList hk.2;obtain⟨hnd,hlt⟩:=H6 hids;obtain⟨hXl,hXg⟩:=F5 hXs
 -- the ghosts that are handed over
 have hGl:∀i∈ids,i<G.length:=fun i hi=>by rw[hS.len];exact hlt i hi
 obtain⟨Gs,hGsl,hGs⟩:∃Gs:List Gh,Gs.length=ids.length/\∀(j i:Nat),ids[j]?=some i->Gs[j]?=G[i]?:=by
  refine⟨ids.map fun i=>G.getD i ⟨none,undef⟩,by simp,fun j i hj=>?_⟩;have:=hGl i (mem_of_getElem? hj);simp[hj,getElem?_eq_getElem this]
 have inv:∀{j:Nat} {g:Gh},Gs[j]?=some g->∃i,ids[j]?=some i/\G[i]?=some g:=by
  intro j g hg;have hj:=(List.getElem?_eq_some_iff.1 hg).1;rw[hGsl]at hj;exact⟨ids[j],getElem?_eq_getElem hj,by rw[<-hGs j _ (getElem?_eq_getElem hj)];exact hg⟩
 have hSs:St Kk Gs X w:=by
  refine⟨by rw[hGsl,hXl],hS.kb,fun j g b hg hb=>?_,fun j j' g g' b hg hg' hb hb'=>?_,fun j g x hg hx=>?_,hS.tb⟩
  .obtain⟨i,_,hi⟩:=inv hg
   exact hS.gb i g b hi hb
  .obtain⟨i,hij,hi⟩:=inv hg
   obtain⟨i',hij',hi'⟩:=inv hg';obtain rfl:=hS.inj i i' g g' b hi hi' hb hb';exact(getElem?_inj (List.getElem?_eq_some_iff.1 hij).1 hnd).1 (hij.trans hij'.symm)
  .obtain⟨i,hij,hi⟩:=inv hg
   obtain⟨x',hx',hrn⟩:=hXg j i hij
   rw[hx]at hx';cases hx'
   have hil:=hlt i (mem_of_getElem? hij)
   have hoi:H[i]?=some (dT H i)∨dT H i=.gone:=by
    rcases Classical.em (dT H i=.gone)with e|e
    .exact .inr e
    .exact .inl (zJ rfl e)
   rcases hoi with hoi|hoi
   .exact wd (fun j o h=>hGs j o h) hrn (hS.ob i g _ hi hoi)
   .rw[hoi]at hrn;simp only[nE]at hrn;cases hrn;trivial
 have hall:=KW (fun j o h=>hGs j o h) hp (hargs.append hcv);unfold Oper.wp;rw[DG e1 e3 hcs hs.1];simp only[Oper.upon];refine(hs.2 Kk Gs w _ hSs hall).mono ?_;rintro e w' ⟨c',r,X',K1,G1,rfl,hpost,hX1,hS1,hv,hkp1⟩
 have hGl1:ids.length<=G1.length:=by rw[<-hGsl];exact hX1.glen
 have hXl1:ids.length<=X'.length:=by rw[<-hS1.len];exact hGl1
 let G2:=eo G ids G1
 -- how the ghosts lie in the new list
 have g2new:∀(j:Nat) (g:Gh),G1[j]?=some g->G2[jH ids H.length j]?=some g:=by
  intro j g hg
  rcases Nat.lt_or_ge j ids.length with h|h
  .rw[uQ (getElem?_eq_getElem h)]
   show(eo G ids G1)[_]?=_
   rw[Ao hnd hGl hGl1 (getElem?_eq_getElem h)];exact hg
  .rw[rj h,<-hS.len]
   show(eo G ids G1)[_]?=_
   rw[Ll h];exact hg
 have g2cases:∀{o:Nat} {g:Gh},G2[o]?=some g->(∃j:Nat,ids[j]?=some o/\G1[j]?=some g)∨(o∉ids/\o<G.length/\G[o]?=some g)∨(∃j:Nat,ids.length<=j/\o=G.length+(j-ids.length)/\G1[j]?=some g):=fun h=>H7 hnd hGl hGl1 h
 have old:∀{j i:Nat} {g:Gh} {b:Nat},ids[j]?=some i->G1[j]?=some g->g.blk=some b->(∃g0,G[i]?=some g0/\g0.blk=some b)∨w.heap.size<=b:=by
  intro j i g b hj hg hb;have hjl:=(List.getElem?_eq_some_iff.1 hj).1;have hgs:Gs[j]?=some Gs[j]:=getElem?_eq_getElem (by rw[hGsl];exact hjl)
  rcases hX1.gold j _ g b hgs hg hb with h|h
  .exact .inl ⟨_,by rw[<-hGs j i hj];exact hgs,h⟩
  .exact .inr h
 have fr:∀b,b<w.heap.size->(∀(o:Nat) (g:Gh),o∈ids->G[o]?=some g->g.blk≠some b)->w'.heap[b]?=w.heap[b]?:=fun b hb hn=>hX1.frame b hb fun j g hg=>by
  obtain⟨i,hij,hi⟩:=inv hg;exact hn i g (mem_of_getElem? hij) hi
 have hMk:Mn Kk K1 w.heap w'.heap:=⟨hX1.k,fun b hb=>fr b (hS.kb b hb) fun o g _ hg e=>(hS.gb o g b hg e).2 hb⟩
 have same:∀{j i:Nat},ids[j]?=some i->fK i=true->G1[j]?=G[i]?:=by
  intro j i hj hkt;have hk:dG (jx ch 0 (kinds X)) j=true:=hf1 j i hj hkt;have hjl:=(List.getElem?_eq_some_iff.1 hj).1;have hgs:Gs[j]?=some Gs[j]:=getElem?_eq_getElem (by rw[hGsl];exact hjl);rw[hX1.gsame j _ hk hgs,<-hGs j i hj,hgs]
 have hMg:Mg fK G G2:=by
  intro o g ho hg;have hol:=(List.getElem?_eq_some_iff.1 hg).1
  by_cases hin:o∈ids
  .obtain⟨j,hj⟩:=getElem?_of_mem hin
   show(eo G ids G1)[o]?=_
   rw[Ao hnd hGl hGl1 hj,same hj ?_]
   .exact hg
   .simpa [fT,hin]using ho
  .show(eo G ids G1)[o]?=_
   rw[Cd hin hol];exact hg
 let H2:=eo (gh fK H) ids (gr ids H.length X')
 have hHl:∀i∈ids,i<(gh fK H).length:=fun i hi=>by rw[jQ,length_map];exact hlt i hi
 have hS2:St K1 G2 H2 w':=by
  refine⟨?_,hS1.kb,fun o g b hg hb=>?_,fun o o' g g' b hg hg' hb hb'=>?_,fun o g x hg hx=>?_,hS1.tb⟩
  .show(eo G ids G1).length=(eo (gh fK H) ids (gr ids H.length X')).length
   rw[AC hGl1,AC (by rw[qd];exact hXl1),jQ,length_map,qd,hS.len,hS1.len]
  .rcases g2cases hg with⟨j,_,h⟩|⟨ho,hol,h⟩|⟨j,_,_,h⟩
   .exact hS1.gb j g b h hb
   .have:=hS.gb o g b h hb
    refine⟨Nat.lt_of_lt_of_le this.1 hX1.size,fun hk=>?_⟩
    rcases hX1.knew b hk with h'|h'
    .exact this.2 h'
    .omega
   .exact hS1.gb j g b h hb
  .have sep:∀{o o':Nat} {g g':Gh} {b j:Nat},o∉ids->G[o]?=some g->g.blk=some b->G1[j]?=some g'->g'.blk=some b->((∃i,ids[j]?=some i)∨ids.length<=j)->False:=by
    intro o o' g g' b j ho h hb h' hb' hj;have hbs:=(hS.gb o g b h hb).1
    rcases hj with⟨i,hj⟩|hj
    .rcases old hj h' hb' with⟨g0,h0,hb0⟩|h0
     .have:=hS.inj o i g g0 b h h0 hb hb0
      subst this;exact ho (mem_of_getElem? hj)
     .omega
    .have:=hX1.gnew j g' b (by rw[hGsl];exact hj) h' hb'
     omega
   rcases g2cases hg with⟨j,hj,h⟩|⟨ho,hol,h⟩|⟨j,hj,ho,h⟩ <;> rcases g2cases hg' with⟨j',hj',h'⟩|⟨ho',hol',h'⟩|⟨j',hj',ho',h'⟩
   .obtain rfl:=hS1.inj j j' g g' b h h' hb hb'
    rw[hj]at hj';cases hj';rfl
   .exact(sep (o':=0) ho' h' hb' h hb (.inl ⟨_,hj⟩)).elim
   .obtain rfl:=hS1.inj j j' g g' b h h' hb hb'
    have:=(List.getElem?_eq_some_iff.1 hj).1;omega
   .exact(sep (o':=0) ho h hb h' hb' (.inl ⟨_,hj'⟩)).elim
   .exact hS.inj o o' g g' b h h' hb hb'
   .exact(sep (o':=0) ho h hb h' hb' (.inr hj')).elim
   .obtain rfl:=hS1.inj j j' g g' b h h' hb hb'
    have:=(List.getElem?_eq_some_iff.1 hj').1;omega
   .exact(sep (o':=0) ho' h' hb' h hb (.inr hj)).elim
   .obtain rfl:=hS1.inj j j' g g' b h h' hb hb'
    omega
  .have hcx:=H7 hnd hHl (by rw[qd];exact hXl1) hx
   have hlenE:(gh fK H).length=G.length:=by rw[jQ,length_map,hS.len]
   have new:∀{j:Nat},G1[j]?=some g->(gr ids H.length X')[j]?=some x->ObR K1 w'.heap G2 g x:=by
    intro j h1 h2;rw[Ds]at h2
    cases hy:X'[j]? with
    |none=>rw[hy]at h2;cases h2
    |some y =>
     rw[hy]at h2;simp at h2;subst h2;exact xX g2new (hS1.ob j g y h1 hy)
   rcases g2cases hg with⟨j,hj,h⟩|⟨ho,hol,h⟩|⟨j,hj,ho,h⟩
   .rcases hcx with⟨j',hj',h'⟩|⟨ho',_,_⟩|⟨j',hj',ho',h'⟩
    .have:=(getElem?_inj (List.getElem?_eq_some_iff.1 hj).1 hnd).1 (hj.trans hj'.symm)
     subst this;exact new h h'
    .exact absurd (mem_of_getElem? hj) ho'
    .have:=hGl o (mem_of_getElem? hj)
     omega
   .rcases hcx with⟨j',hj',h'⟩|⟨ho',_,h'⟩|⟨j',hj',ho',h'⟩
    .exact absurd (mem_of_getElem? hj') ho
    .rw[jQ,getElem?_map]at h'
     cases hy:H[o]? with
     |none=>rw[hy]at h';cases h'
     |some y =>
      rw[hy]at h';simp at h';subst h';refine ObR.prune hMk hMg (fun b hb=>fr b (hS.gb o g b h hb).1 fun i g' hi hg' e=>?_) (hS.ob o g y h hy);have:=hS.inj o i g g' b h hg' hb e;subst this;exact ho hi
    .omega
   .rcases hcx with⟨j',hj',h'⟩|⟨ho',hol',_⟩|⟨j',hj',ho',h'⟩
    .have:=hlt o (mem_of_getElem? hj')
     rw[<-hS.len]at this;omega
    .omega
    .have:j=j':=by omega
     subst this;exact new h h'
 have hX2:Ext (dG kl) B.K0 B.G0 B.w0 K1 G2 w':=by
  refine hX.trans ⟨hX1.os,hX1.tape,hX1.output,hX1.size,hX1.k,hX1.knew,?_,fun o g0 g b h0 hg hb=>?_,fun o g b ho hg hb=>?_,fun o g0 ho h0=>?_,fun b hb hn=>fr b hb fun o g _ hg=>hn o g hg⟩
  .show G.length<=(eo G ids G1).length
   rw[AC hGl1];omega
  .rcases g2cases hg with⟨j,hj,h⟩|⟨_,_,h⟩|⟨j,hj,ho,h⟩
   .rcases old hj h hb with⟨g0',h0',hb0⟩|h'
    .rw[h0]at h0';cases h0';exact .inl hb0
    .exact .inr h'
   .rw[h0]at h;cases h;exact .inl hb
   .have:=(List.getElem?_eq_some_iff.1 h0).1
    omega
  .rcases g2cases hg with⟨j,hj,h⟩|⟨_,hol,h⟩|⟨j,hj,_,h⟩
   .have:=hGl o (mem_of_getElem? hj)
    omega
   .omega
   .exact hX1.gnew j g b (by rw[hGsl];exact hj) h hb
  .exact hMg o g0 (hf2 o ho) h0
 have hRV:RelV (cx P kl n B) (ik fK E) H2 c' (ew ids H.length r) a w':=by
  refine⟨K1,G2,hX2,hS2,fun m=>by rw[Ay];exact VR.prune hMk hMg _ _ (hE m),hdf,hn,fun o ho=>?_,ri g2new hv⟩;obtain⟨x,hx,hkt⟩:=hkp o ho;have hol:=(List.getElem?_eq_some_iff.1 hx).1
  by_cases hin:o∈ids
  .obtain⟨j,hj⟩:=getElem?_of_mem hin
   have hk:dG (jx ch 0 (kinds X)) j=true:=hf1 j o hj (hf2 o ho);obtain⟨y',hy',hkt'⟩:=hkp1 j hk;refine⟨BP ids H.length y',?_,by rw[pf];exact hkt'⟩
   show(eo _ ids _)[o]?=_
   rw[Ao hnd hHl (by rw[qd];exact hXl1) hj,Ds,hy'];rfl
  .refine⟨x.prune fK,?_,by cases x <;> first|rfl|cases hkt⟩
   show(eo _ ids _)[o]?=_
   rw[Cd hin (by rw[jQ,length_map];exact hol),jQ,getElem?_map,hx];rfl
 exact hK' c' r X' w' hpost hv.ok hRV
def hQ(ids cho:List Nat)(H:List Ob)(o:Nat):Bool:=fT ids H o&&!ir cho o
def rh(ch cho:List Nat):Nat->List Nat->Bool
 |_,[]=>true
 |j,i::ids=>(bif ir ch j then ir cho i else true)&&rh ch cho (j+1) ids
def kR(kl:List Bool):List Nat->Bool
 |[]=>true
 |i::l=>!dG kl i&&kR kl l
theorem o7{ch cho:List Nat}:∀{ids:List Nat} {k j i:Nat},rh ch cho k ids=true->ids[j]?=some i->ir cho i=false->ir ch (k+j)=false
 |[],_,_,_,_,h,_=>by simp at h
 |x::ids,k,0,i,h,hj,hi=>by
  simp only[rh,Bool.and_eq_true]at h;simp at hj;subst hj;have:=h.1
  cases hc:ir ch k with
  |false=>simp
  |true=>rw[hc,cond_true,hi]at this;cases this
 |x::ids,k,j+1,i,h,hj,hi=>by
  simp only[rh,Bool.and_eq_true]at h;rw[show k+(j+1)=k+1+j by omega];exact o7 h.2 (by simpa using hj) hi
theorem kQ{kl:List Bool}{o:Nat}:∀{l:List Nat},kR kl l=true->dG kl o=true->ir l o=false
 |[],_,_=>rfl
 |x::l,h,ho=>by
  simp only[kR,Bool.and_eq_true]at h;simp only[ir]
  by_cases e:o=x
  .subst e;simp[ho]at h
  .rw[beq_false_of_ne e,cond_false]
   exact kQ h.2 ho
theorem Bj{ids ch cho:List Nat}{H X:List Ob}(hX:jq ids H ids=some X)(hc:rh ch cho 0 ids=true):∀j i:Nat,ids[j]?=some i->hQ ids cho H i=true->dG (jx ch 0 (kinds X)) j=true:=by
 intro j i hj h;simp only[hQ,Bool.and_eq_true,Bool.not_eq_true']at h;obtain⟨hl,hg⟩:=F5 hX;obtain⟨x,hx,hr⟩:=hg j i hj
 have hk:(dT H i).kept=true:=by
  have h1:=h.1;have hm:i∈ids:=mem_of_getElem? hj
  simpa [fT,hm]using h1
 rw[N5,Nd hx (by rw[M2 hr];exact hk),o7 hc hj h.2];rfl
theorem Bi{ids cho:List Nat}{H:List Ob}{kl:List Bool}(hk:fE (dG kl) H)(hf:kR kl cho=true):∀o,dG kl o=true->hQ ids cho H o=true:=by
 intro o ho;obtain⟨x,hx,hkx⟩:=hk o ho
 have:(dT H o).kept=true:=by rw[FR hx];exact hkx
 simp[hQ,fT,this,kQ hf ho]
theorem dx{o:Oper}{l:List Oper}{f:FuncId}{av args:List Va}{X:List Ob}{ch:List Nat}{Post:Va->List Ob->Prop}(ids cho:List Nat)(hs:DoesC P f args X ch Post)(ha:Is (As E o) (some (f,av)))(hp:Is (jX ids av) (some args))(hXs:Is (jq ids H ids) (some X))(hids:j0 H.length ids=true)(hch:rh ch cho 0 ids=true)(hfr:kR kl cho=true)(hok:iP n true E o)
  (cont:∀r X',Post r X'->r.ok->eU P kl n B ops K (eM P kl n ops.toList l ⟨dV (ik (hQ ids cho H) E) o.dst (ew ids H.length r),eo (gh (hQ ids cho H) H) ids (gr ids H.length X'),True⟩)):Rg P kl n B ops (o::l) E H K:=by
 obtain⟨c,fop,caps,e1,e2,e3,e4,rfl⟩:=OJ ha;obtain⟨hd,hk⟩:=u1 hok e1 e3;intro hB a w Q hR hKK
 refine wpList_plain e2 fun K' hK'=>?_
 have hkp:fE (dG kl) H:=by obtain⟨_,_,_,_,_,_,_,h⟩:=hR;exact h
 exact xR ids ch (hQ ids cho H) hs (Bj hXs hch) (Bi hkp hfr) e1 e3 hk e4 hp hXs hids hR fun c' r X' w' h1 h2 h3=>hK' _ _ (Rg.run (cont r X' h1 h2) hB _ _ _ (h3.put o.dst (zZ hd)) hKK)
end
section
variable {P:Program} {kl:List Bool} {n:Nat} {B:Bs} {K:dz->List Ob->Prop} {E:dz} {H:List Ob} {ops:Array Oper}
end
section
variable {P:Program} {kl:List Bool} {n:Nat} {B:Bs} {K:dz->List Ob->Prop} {E:dz} {H:List Ob} {ops:List Oper} {obs:List En} {l:Plan}
end
section
variable {P:Program} {kl:List Bool} {n:Nat} {B:Bs} {Q:Qt} {E:dz} {H:List Ob} {a:Act} {w:World}
theorem Rel.repl{i j:Nat}(hB:B.G0.length=kl.length)(hi:dG kl i=false)(hj:kl.length<=j)(hne:i≠j)(hil:i<H.length)(hjl:j<H.length)(h:Rel (cx P kl n B) E H a w) :
  Rel (cx P kl n B) (ik (fun o=>!(o == j)) (AQ i j E)) ((gh (fun o=>!(o == j)) (yW i j H)).set j .gone) a w:=by
 obtain⟨K,G,hX,hS,hE,hd,hn,hk⟩:=h
 have hiG:i<G.length:=by rw[hS.len];exact hil
 have hjG:j<G.length:=by rw[hS.len];exact hjl
 have hjG0:B.G0.length<=j:=by rw[hB];exact hj
 have hg:=fun o=>KS hiG hjG o
 have hG:∀(o:Nat) (g:Gh),G[o]?=some g->(tu i j G)[fO i j o]?=some g:=fun o g ho=>by rw[hg,Do];exact ho
 have hH:∀o,(yW i j H)[o]?=(H[fO i j o]?).map (tt i j):=fun o=>by rw[iW hil hjl,KS (by simpa using hil) (by simpa using hjl),getElem?_map]
 have hsn:∀o,o≠j->fO i j o=if o=i then j else o:=fun o ho=>by rw[vQ];split <;> simp_all
 have hMg:Mg (fun o=>!(o == j)) (tu i j G) ((tu i j G).set j ⟨none,undef⟩):=fun o g ho h=>by
  have:o≠j:=by simpa using ho
  rw[getElem?_set_ne (Ne.symm this)];exact h
 have hM:Mn K K w.heap w.heap:=⟨fun _ h=>h,fun _ _=>rfl⟩
 have g2:∀{o:Nat} {g:Gh} {b:Nat},((tu i j G).set j ⟨none,undef⟩)[o]?=some g->g.blk=some b->o≠j/\G[fO i j o]?=some g:=by
  intro o g b h hb
  by_cases e:o=j
  .subst e
   rw[getElem?_set_self (by rw[Cm];exact hjG)]at h
   cases h;cases hb
  .rw[getElem?_set_ne (Ne.symm e),hg]at h
   exact⟨e,h⟩
 refine⟨K,(tu i j G).set j ⟨none,undef⟩,?_,?_,fun m=>?_,hd,hn,fun o ho=>?_⟩
 .exact { hX with
   glen:=by rw[length_set,Cm];exact hX.glen
   gold:=fun o g0 g b h0 h1 hb=>by
    obtain⟨hoj,h2⟩:=g2 h1 hb;rw[hsn o hoj]at h2;split at h2
    .exact .inr (hX.gnew j g b hjG0 h2 hb)
    .exact hX.gold o g0 g b h0 h2 hb
   gnew:=fun o g b ho h1 hb=>by
    obtain⟨hoj,h2⟩:=g2 h1 hb;rw[hsn o hoj]at h2;split at h2
    .exact hX.gnew j g b hjG0 h2 hb
    .exact hX.gnew o g b ho h2 hb
   gsame:=fun o g0 ho h0=>by
    have hol:=(List.getElem?_eq_some_iff.1 h0).1;have h1:o≠j:=Nat.ne_of_lt (Nat.lt_of_lt_of_le hol hjG0)
    have h2:o≠i:=fun e=>by subst e;exact absurd (hi.symm.trans ho) (by simp)
    rw[getElem?_set_ne (Ne.symm h1),hg,hsn o h1,if_neg h2]
    exact hX.gsame o g0 ho h0 }
 .refine⟨by rw[length_set,length_set,Cm,jQ,length_map,iW hil hjl,Cm,length_map];exact hS.len,hS.kb,fun o g b h1 h2=>hS.gb _ g b (g2 h1 h2).2 h2,fun o o' g g' b h1 h2 h3 h4=>?_,fun o g x h1 h2=>?_,hS.tb⟩
  .have:=hS.inj _ _ g g' b (g2 h1 h3).2 (g2 h2 h4).2 h3 h4
   rw[<-Do i j o,this,Do]
  .by_cases e:o=j
   .subst e
    rw[getElem?_set_self (by rw[jQ,length_map,iW hil hjl,Cm,length_map];exact hjl)]at h2
    cases h2;trivial
   .rw[getElem?_set_ne (Ne.symm e),hg]at h1
    rw[getElem?_set_ne (Ne.symm e),jQ,getElem?_map,hH]at h2
    cases hy:H[fO i j o]? with
    |none=>rw[hy]at h2;cases h2
    |some y =>
     rw[hy]at h2;simp only[Option.map_some,Option.some.injEq]at h2;subst h2;exact ObR.prune hM hMg (fun _ _=>rfl) (vP hG (hS.ob _ g y h1 hy))
 .rw[Ay,rF]
  exact VR.prune hM hMg _ _ (lJ hG _ _ (hE m))
 .obtain⟨x,hx,hkx⟩:=hk o ho
  have hol:=B3 ho
  have h1:o≠j:=by omega
  have h2:o≠i:=fun e=>by subst e;exact absurd (hi.symm.trans ho) (by simp)
  refine⟨(tt i j x).prune (fun o=>!(o == j)),by rw[getElem?_set_ne (Ne.symm h1),jQ,getElem?_map,hH,hsn o h1,if_neg h2,hx];rfl,?_⟩
  cases x <;> first|rfl|cases hkx
theorem Wp.repl(i j:Nat){c:Code}(hi:dG kl i=false)(hj:Nat.ble kl.length j=true)(hne:i≠j)(hil:i<H.length)(hjl:j<H.length)
  (h:Wp P kl n B c Q (ik (fun o=>!(o == j)) (AQ i j E)) ((gh (fun o=>!(o == j)) (yW i j H)).set j .gone)):Wp P kl n B c Q E H:=fun hB a w hR=>h hB a w (Rel.repl hB hi (Nat.le_of_ble_eq_true hj) hne hil hjl hR)
attribute [go_sem] jx ir hQ rh kR
end
section
variable {α:Type}
def Sub(dead seen:List Nat):Prop:=∀b,dead.contains b=true->seen.contains b=true
theorem Sub.nil(s:List Nat):Sub [] s:=fun b h=>by simp at h
theorem Sub.more{d s:List Nat}(h:Sub d s)(x:Nat):Sub d (s++[x]):=fun b hb=>by
 have:=h b hb;simp at this|-;exact .inl this
theorem Sub.both{d s:List Nat}(h:Sub d s)(x:Nat):Sub (d++[x]) (s++[x]):=fun b hb=>by
 simp at hb|-
 rcases hb with hb|hb
 .have:=h b (by simpa using hb)
  exact .inl (by simpa using this)
 .exact .inr hb
theorem LH{dead seen:List Nat}(hs:Sub dead seen):∀{bs:List Nat} {l:List α},l.length=bs.length->left (left bs dead bs) seen (left bs dead l)=left bs seen l
 |[],l,_=>by cases l <;> rfl
 |b::bs,[],h=>by simp at h
 |b::bs,x::l,h=>by
  have ih:=LH hs (bs:=bs) (l:=l) (by simpa using h);simp only[left]
  cases hd:dead.contains b with
  |true=>rw[hs b hd];simpa using ih
  |false =>
   simp only[cond_false,left];rw[ih]
theorem Nh{sn:List Nat}{bs:List Nat}{l:List α}(h:l.length=bs.length):(left bs sn l).length=(left bs sn bs).length:=Cr h rfl
theorem Lc{sn:List Nat}:∀{bs:List Nat} {x:Nat},x∈left bs sn bs->x∈bs/\sn.contains x=false
 |[],x,h=>by simp[left]at h
 |b::bs,x,h=>by
  simp only[left]at h
  cases hd:sn.contains b with
  |true=>rw[hd]at h;have:=Lc (bs:=bs) h;exact⟨mem_cons_of_mem _ this.1,this.2⟩
  |false =>
   rw[hd,cond_false]at h
   rcases mem_cons.1 h with rfl|h
   .exact⟨mem_cons_self ..,hd⟩
   .have:=Lc (bs:=bs) h;exact⟨mem_cons_of_mem _ this.1,this.2⟩
theorem Ld{sn:List Nat}:∀(bs:List Nat) (l:List α),(left bs sn l).Sublist l
 |[],l=>by simp[left]
 |b::bs,[]=>by simp[left]
 |b::bs,x::l=>by
  simp only[left]
  cases sn.contains b with
  |true=>exact(Ld bs l).cons x
  |false=>exact(Ld bs l).cons_cons x
theorem LM{dead:List Nat}{st:Nat}:∀{bs:List Nat} {l:List α} {p:Nat},bs.Nodup->l.length=bs.length->(left bs dead bs)[p]?=some st->left bs (dead++[st]) l=(left bs dead l).eraseIdx p
 |[],l,p,_,_,hp=>by simp[left]at hp
 |b::bs,[],p,_,h,_=>by simp at h
 |b::bs,x::l,p,hn,h,hp=>by
  have hn':=nodup_cons.1 hn;simp only[left]at hp|-
  cases hd:dead.contains b with
  |true =>
   rw[hd,cond_true]at hp
   have:(dead++[st]).contains b=true:=by simp at hd|-;exact .inl hd
   rw[this,cond_true,cond_true];exact LM hn'.2 (by simpa using h) hp
  |false =>
   rw[hd,cond_false]at hp
   cases p with
   |zero =>
    simp at hp;subst hp
    have:(dead++[b]).contains b=true:=by simp
    rw[this,cond_true,cond_false,eraseIdx_zero,tail_cons];exact Ni hn'.1 l (by simpa using h)
   |succ p =>
    simp only[getElem?_cons_succ]at hp
    have hb:b≠st:=fun e=>hn'.1 (e ▸ (Lc (mem_of_getElem? hp)).1)
    have:(dead++[st]).contains b=false:=by simp at hd|-;exact⟨hd,hb⟩
    rw[this,cond_false,cond_false,eraseIdx_cons_succ,LM hn'.2 (by simpa using h) hp]
end
section
variable {Kt V:Type} [DecidableEq Kt] {kd:Kt->Dt} {e:V->List Dt}
theorem sS:∀{m:List (Kt×V)} {p:Nat} {x:Kt×V},(m.map (·.1)).Nodup->m[p]?=some x->fC m x.1=m.eraseIdx p
 |[],p,x,_,h=>by simp at h
 |y::m,0,x,_,h=>by
  simp at h;subst h;simp[fC]
 |y::m,p+1,x,hn,h=>by
  have hn':=nodup_cons.1 (by simpa using hn:(y.1::m.map (·.1)).Nodup);simp only[getElem?_cons_succ]at h
  have:¬ y.1=x.1:=fun e=>hn'.1 (e ▸ mem_map.2 ⟨x,mem_of_getElem? h,rfl⟩)
  simp only[fC,decide_eq_false this,cond_false,eraseIdx_cons_succ,sS hn'.2 h]
theorem pi(hk:∀a b,fi (kd a) (kd b)=decide (a=b)):∀{m:List (Kt×V)} {bs:List Nat} {p:Nat} {x:Kt×V},m.length=bs.length->(m.map (·.1)).Nodup->m[p]?=some x->iu (zl kd e m) bs (kd x.1)=bs.eraseIdx p
 |[],bs,p,x,_,_,h=>by simp at h
 |y::m,[],p,x,hl,_,h=>by simp at hl
 |y::m,b::bs,0,x,_,_,h=>by
  simp at h;subst h;simp[zl,iu,hk]
 |y::m,b::bs,p+1,x,hl,hn,h=>by
  have hn':=nodup_cons.1 (by simpa using hn:(y.1::m.map (·.1)).Nodup);simp only[getElem?_cons_succ]at h
  have hne:¬ y.1=x.1:=fun e=>hn'.1 (e ▸ mem_map.2 ⟨x,mem_of_getElem? h,rfl⟩)
  have ih:=pi hk (m:=m) (bs:=bs) (by simpa using hl) hn'.2 h;simp only[zl]at ih;simp only[zl,map_cons,iu,hk,decide_eq_false hne,cond_false,ih,eraseIdx_cons_succ]
theorem xC(hk:∀a b,fi (kd a) (kd b)=decide (a=b)){l m:List (Kt×V)}{bs dead:List Nat}{p st:Nat}{x:Kt×V}(hnd:(l.map (·.1)).Nodup)(hbn:bs.Nodup)(hb:l.length=bs.length)(hm:m=left bs dead l)(hst:(left bs dead bs)[p]?=some st)(hx:m[p]?=some x) :
  fC m x.1=left bs (dead++[st]) l/\iu (zl kd e m) (left bs dead bs) (kd x.1)=left bs (dead++[st]) bs:=by
 subst hm;have hnm:((left bs dead l).map (·.1)).Nodup:=((Ld bs l).map (·.1)).nodup hnd;exact⟨(sS hnm hx).trans (LM hbn hb hst).symm,(pi hk (Nh hb) hnm hx).trans (LM hbn rfl hst).symm⟩
end
theorem NextOk.up{bs dead seen:List Nat}{j p st:Nat}(h:NextOk (left bs dead bs) seen j p st)(hs:Sub dead seen){α:Type}{l m:List α}(hb:l.length=bs.length)(hm:m=left bs dead l) :
  j<(left bs seen l).length/\left bs (seen++[st]) l=(left bs seen l).eraseIdx j/\(left bs seen l)[j]?=m[p]?:=by
 subst hm;have:=h.er (left bs dead l) (Nh hb);rw[LH hs hb,LH (hs.more st) hb]at this;exact this
theorem LK{α β S:Type}{z:β}{f:α->S->(S->Option β)->(S->Option β)->Option β}{k:S->Option β}{s':S}{bs dead seen:List Nat}{l m:List α}{j p st:Nat}(hok:NextOk (left bs dead bs) seen j p st)(hs:Sub dead seen)(hb:l.length=bs.length)(hm:m=left bs dead l)
  (h:forM f ((left bs seen l).eraseIdx j).length ((left bs seen l).eraseIdx j) s' k=some z):(left bs (seen++[st]) l).length<(left bs seen l).length/\forM f (left bs (seen++[st]) l).length (left bs (seen++[st]) l) s' k=some z:=by
 obtain⟨h1,h2,_⟩:=hok.up hs hb hm;rw[h2];exact⟨by rw[length_eraseIdx,if_pos h1];omega,h⟩
section
variable {P:Program} {kl:List Bool} {n:Nat} {B:Bs} {Q:Qt} {E:dz} {H:List Ob}
theorem dq{Z S α:Type}{z:Z}{f:α->S->(S->Option Z)->(S->Option Z)->Option Z}{k:S->Option Z}{l:List α}{bs:List Nat}{c:Code}{s0:S}(live:List Nat->List Nat->S->dz)(objs:List Nat->List Nat->S->List Ob)(cur:S->List α)(hb:l.length=bs.length)
  (h0:fG kl E H (live [] [] s0) (objs [] [] s0)) (hc:cur s0=l) (hm:Vc.forM f l.length l s0 k=some z)
  (round:∀(seen dead:List Nat) (s:S),Sub dead seen->cur s=left bs dead l->Vc.forM f (left bs seen l).length (left bs seen l) s k=some z->Wp P kl n B c (zx (fun E' H'=>∃seen' dead' s',Sub dead' seen'/\cur s'=left bs dead' l/\(left bs seen' l).length<(left bs seen l).length/\Vc.forM f (left bs seen' l).length (left bs seen' l) s' k=some z/\fG kl E' H' (live seen' dead' s') (objs seen' dead' s')) Q) (live seen dead s) (objs seen dead s)):Wp P kl n B (.loop c) Q E H:=by
 refine Wp.loop (S:=List Nat×List Nat×S) (fun t=>live t.1 t.2.1 t.2.2) (fun t=>objs t.1 t.2.1 t.2.2) (fun t=>Sub t.2.1 t.1/\cur t.2.2=left bs t.2.1 l/\Vc.forM f (left bs t.1 l).length (left bs t.1 l) t.2.2 k=some z) (fun t=>(left bs t.1 l).length) ([],[],s0) h0 ⟨Sub.nil [],by rw[HO bs l hb];exact hc,by simp only[HO bs l hb];exact hm⟩ fun t h2=>(round t.1 t.2.1 t.2.2 h2.1 h2.2.1 h2.2.2).mono fun e E' H' h=>?_
 cases e with
 |normal=>obtain⟨sn,dd,s',h1,h3,h4,h5,h6⟩:=h;exact⟨(sn,dd,s'),⟨h1,h3,h5⟩,h4,h6⟩
 |_=>exact h
end
end Go.Vc
