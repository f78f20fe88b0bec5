/- An abstract machine for the model: what it computes on, its operations, the walk of a body, and that all of it is true of the model (part 3). -/
import Derived.Test.YtbofknpajcdnmaaGreatDoorVc2
import Derived.Lib.SliceRun
import Derived.Shelf.SlIter.Nil
import Derived.Shelf.SortM.Plain
import Derived.Shelf.SortM.SortNone
/- Ranges over maps: in whatever order. -/
set_option linter.unusedSectionVars false
namespace Go.Vc
variable [Tabs]

section
variable {α β S:Type}
noncomputable def forM (f:α→S→(S→Option β)→(S→Option β)→Option β):Nat→List α→S→(S→Option β)→Option β
 | 0,_,s,k=>k s
 | n+1,r,s,k=>anyOf (fun j:Nat=>j < r.length) fun j=>match r[j]? with
  | some x=>f x s (fun s'=>forM f n (r.eraseIdx j) s' k) k
  | none=>none
theorem forM_cont {z:β} {f:α→S→(S→Option β)→(S→Option β)→Option β} {n:Nat} {r:List α} {s:S} {F:S→Option β} (h:forM f n r s F=some z):∃ k,(∀ s,k s=some z→F s=some z)∧forM f n r s k=some z:=⟨F,fun _ h=>h,h⟩
theorem forM_end {z:β} {f:α→S→(S→Option β)→(S→Option β)→Option β} {r:List α} {s:S} {k:S→Option β} (h:forM f r.length r s k=some z) (hr:r.length=0):k s=some z:=by
 rw [hr] at h; exact h
theorem forM_step {z:β} {f:α→S→(S→Option β)→(S→Option β)→Option β} {r:List α} {s:S} {k:S→Option β} (h:forM f r.length r s k=some z) {j:Nat} (hj:j < r.length) :
  ∃ x nx,r[j]?=some x∧(∀ s',nx s'=some z→forM f (r.eraseIdx j).length (r.eraseIdx j) s' k=some z)∧f x s nx k=some z:=by
 obtain ⟨n,hn⟩:∃ n,r.length=n+1:=⟨r.length - 1,by omega⟩
 rw [hn] at h
 simp only [forM] at h
 have h1:=anyOf_elim h j hj
 rw [List.getElem?_eq_getElem hj] at h1
 exact ⟨r[j],fun s'=>forM f n (r.eraseIdx j) s' k,List.getElem?_eq_getElem hj,fun s' hs=>by rw [show (r.eraseIdx j).length=n by rw [List.length_eraseIdx,if_pos hj]; omega]; exact hs,h1⟩
def left:List Nat→List Nat→List α→List α
 | b::bs,seen,x::l=>bif seen.contains b then left bs seen l else x::left bs seen l
 | _,_,_=>[]
theorem left_nil:∀ (bs:List Nat) (l:List α),l.length=bs.length→left bs [] l=l
 | [],[],_=>rfl
 | b::bs,x::l,h=>by simp only [left,List.contains_nil,cond_false]; rw [left_nil bs l (by simpa using h)]
 | [],_::_,h=>by simp at h
 | _::_,[],h=>by simp at h
theorem left_length {γ:Type} {seen:List Nat}:∀ {bs:List Nat} {l:List α} {m:List γ},l.length=bs.length→m.length=bs.length→(left bs seen l).length=(left bs seen m).length
 | [],[],[],_,_=>rfl
 | b::bs,x::l,y::m,h,h'=>by
  have ih:=left_length (seen:=seen) (bs:=bs) (l:=l) (m:=m) (by simpa using h) (by simpa using h')
  simp only [left]
  cases seen.contains b <;> simp [ih]
 | [],_::_,_,h,_=>by simp at h
 | [],[],_::_,_,h=>by simp at h
 | _::_,[],_,h,_=>by simp at h
 | _::_,_::_,[],_,h=>by simp at h
theorem left_map {γ:Type} (g:α→γ) (seen:List Nat):∀ (bs:List Nat) (l:List α),left bs seen (l.map g)=(left bs seen l).map g
 | [],_=>by simp [left]
 | _::_,[]=>by simp [left]
 | b::bs,x::l=>by
  simp only [List.map_cons,left,left_map g seen bs l]
  cases seen.contains b <;> rfl
theorem left_filter {γ:Type} (g:γ→Nat) (seen:List Nat):∀ (l:List γ),left (l.map g) seen l=l.filter fun x=>!seen.contains (g x)
 | []=>rfl
 | x::l=>by
  simp only [List.map_cons,left,left_filter g seen l,List.filter_cons]
  cases seen.contains (g x) <;> rfl
theorem left_encM {Kt V:Type} (kd:Kt→Dt) (e:V→List Dt) (bs seen:List Nat) (l:List (Kt × V)):left bs seen (encM kd e l)=encM kd e (left bs seen l):=left_map _ seen bs l
structure NextOk (bs seen:List Nat) (j p st:Nat):Prop where
 hp:bs[p]?=some st
 er:∀ {α:Type} (l:List α),l.length=bs.length→j < (left bs seen l).length∧left bs (seen++[st]) l=(left bs seen l).eraseIdx j∧(left bs seen l)[j]?=l[p]?
theorem left_out {b:Nat} {seen:List Nat}:∀ {bs:List Nat},b ∉ bs→∀ {α:Type} (l:List α),l.length=bs.length→left bs (seen++[b]) l=left bs seen l
 | [],_,_,l,_=>by cases l <;> rfl
 | c::bs,hb,_,[],h=>by simp at h
 | c::bs,hb,_,x::l,h=>by
  have hc:¬ c=b:=fun e=>hb (by simp [e])
  have:(seen++[b]).contains c=seen.contains c:=by
   rw [Bool.eq_iff_iff]
   simp [hc]
  simp only [left,this,left_out (fun h=>hb (List.mem_cons_of_mem _ h)) l (by simpa using h)]
theorem nextOk {bs seen:List Nat} (hn:bs.Nodup) {j:Nat} (hj:j < (left bs seen bs).length):∃ p st,NextOk bs seen j p st∧(left bs seen bs)[j]?=some st:=by
 induction bs generalizing j with
 | nil=>simp [left] at hj
 | cons b bs ih =>
  have hn':=List.nodup_cons.1 hn
  have hc:∀ {α:Type} (x:α) (l:List α) (sn:List Nat),left (b::bs) sn (x::l)=bif sn.contains b then left bs sn l else x::left bs sn l:=fun _ _ _=>rfl
  have hout:∀ {α:Type} (l:List α),l.length=bs.length→left bs (seen++[b]) l=left bs seen l:=fun l hl=>left_out hn'.1 l hl
  cases hs:seen.contains b with
  | true =>
   have h1:left (b::bs) seen (b::bs)=left bs seen bs:=by rw [hc,hs]; rfl
   rw [h1] at hj
   obtain ⟨p,st,⟨q1,q2⟩,q3⟩:=ih hn'.2 hj
   refine ⟨p+1,st,⟨by simpa using q1,?_⟩,by rw [h1]; exact q3⟩
   intro α l hl
   cases l with
   | nil=>simp at hl
   | cons x l =>
    have hs':(seen++[st]).contains b=true:=by simp at hs ⊢; exact .inl hs
    obtain ⟨r1,r2,r3⟩:=q2 l (by simpa using hl)
    rw [hc,hs,hc,hs']
    exact ⟨r1,r2,by simpa using r3⟩
  | false =>
   have h1:left (b::bs) seen (b::bs)=b::left bs seen bs:=by rw [hc,hs]; rfl
   rw [h1] at hj
   cases j with
   | zero =>
    refine ⟨0,b,⟨rfl,?_⟩,by rw [h1]; rfl⟩
    intro α l hl
    cases l with
    | nil=>simp at hl
    | cons x l =>
     have hs':(seen++[b]).contains b=true:=by simp
     rw [hc,hs,hc,hs']
     exact ⟨by simp,by simp only [cond_true,cond_false,List.eraseIdx_zero,List.tail_cons]; exact hout l (by simpa using hl),rfl⟩
   | succ j =>
    obtain ⟨p,st,⟨q1,q2⟩,q3⟩:=ih hn'.2 (by simpa using hj)
    refine ⟨p+1,st,⟨by simpa using q1,?_⟩,by rw [h1]; simpa using q3⟩
    intro α l hl
    cases l with
    | nil=>simp at hl
    | cons x l =>
     have hb:b ≠ st:=fun e=>hn'.1 (e ▸ List.mem_of_getElem? q1)
     have hs':(seen++[st]).contains b=false:=by simp at hs ⊢; exact ⟨hs,hb⟩
     obtain ⟨r1,r2,r3⟩:=q2 l (by simpa using hl)
     rw [hc,hs,hc,hs']
     exact ⟨by simpa using r1,by simp [r2],by simpa using r3⟩
end

section
variable {P:Program} {kl:List Bool} {n:Nat} {B:Bs} {Q:Qt} {E:Env} {H:List Ob}
theorem Wp.forM {Z S α:Type} {z:Z} {f:α→S→(S→Option Z)→(S→Option Z)→Option Z} {k:S→Option Z} {l:List α} {bs:List Nat} {c:Code} {s0:S} (live:List Nat→S→Env) (objs:List Nat→S→List Ob) (hb:l.length=bs.length)
  (h0:Weak kl E H (live [] s0) (objs [] s0)) (hm:Vc.forM f l.length l s0 k=some z)
  (round:∀ (seen:List Nat) (s:S),Vc.forM f (left bs seen l).length (left bs seen l) s k=some z→Wp P kl n B c (thenQ (fun E' H'=>∃ seen' s',(left bs seen' l).length < (left bs seen l).length∧Vc.forM f (left bs seen' l).length (left bs seen' l) s' k=some z∧Weak kl E' H' (live seen' s') (objs seen' s')) Q) (live seen s) (objs seen s)):Wp P kl n B (.loop c) Q E H:=by
 refine Wp.loop (S:=List Nat × S) (fun t=>live t.1 t.2) (fun t=>objs t.1 t.2) (fun t=>Vc.forM f (left bs t.1 l).length (left bs t.1 l) t.2 k=some z) (fun t=>(left bs t.1 l).length) ([],s0) h0 (by simp only [left_nil bs l hb]; exact hm) fun t h2=>(round t.1 t.2 h2).mono fun e E' H' h=>?_
 cases e with
 | normal=>obtain ⟨sn,s',h3,h4,h5⟩:=h; exact ⟨(sn,s'),h4,h3,h5⟩
 | _=>exact h
end

theorem MRs.left {K:Nat→Prop} {h:Array Obj} {ag:Bool} {seen:List Nat}:∀ {mes:List MapEntry} {es:List (Dt × List Dt)},MRs K h ag mes es→MRs K h ag (mes.filter fun e=>!seen.contains e.born) (left (mes.map (·.born)) seen es)
 | [],[],_=>by simp [Vc.left,MRs]
 | e::mes,p::es,hm=>by
  simp only [MRs] at hm
  have ih:=MRs.left (seen:=seen) hm.2.2
  simp only [List.map_cons,Vc.left,List.filter_cons]
  cases seen.contains e.born
  ·simp only [Bool.not_false,if_true,cond_false,MRs]; exact ⟨hm.1,hm.2.1,ih⟩
  ·simpa using ih
 | [],_::_,hm=>by simp [MRs] at hm
 | _::_,[],hm=>by simp [MRs] at hm
theorem MRs.get {K:Nat→Prop} {h:Array Obj} {ag:Bool}:∀ {mes:List MapEntry} {es:List (Dt × List Dt)} {p:Nat} {x:Dt × List Dt},MRs K h ag mes es→es[p]?=some x→∃ e,mes[p]?=some e∧KR K h e.key x.1∧mval K h ag e.val x.2
 | [],[],p,x,_,hx=>by simp at hx
 | e::mes,y::es,0,x,hm,hx=>by
  simp only [MRs] at hm
  simp at hx
  subst hx
  refine ⟨e,rfl,hm.1,?_⟩
  cases ag <;> exact hm.2.1
 | e::mes,y::es,p+1,x,hm,hx=>by
  simp only [MRs] at hm
  simpa using MRs.get hm.2.2 (by simpa using hx)
 | [],_::_,_,_,hm,_=>by simp [MRs] at hm
 | _::_,[],_,_,hm,_=>by simp [MRs] at hm
def keyVa:Dt→Va
 | .a ds=>.agg (ds.map .p)
 | .b x=>.p (.b x)
 | .i k x=>.p (.i k x)
 | .s x=>.p (.s x)
 | .l x=>.p (.l x)
theorem KR.va {K:Nat→Prop} {h:Array Obj} {G:List Gh} {v:Value}:∀ {d:Dt},KR K h v d→VR K h G v (keyVa d)
 | .a ds,⟨cs,h1,h2⟩=>by simp only [keyVa,VR]; exact ⟨cs,h1,DRs.vrs h2⟩
 | .b _,H=>by simpa only [keyVa,VR,KR] using H
 | .i _ _,H=>by simpa only [keyVa,VR,KR] using H
 | .s _,H=>by simpa only [keyVa,VR,KR] using H
 | .l _,H=>by simpa only [keyVa,VR,KR] using H
attribute [go_sem] keyVa
theorem mval_rowV {K:Nat→Prop} {h:Array Obj} {G:List Gh} {ag:Bool} {v:Value} {row:List Dt} (hv:mval K h ag v row):VR K h G v (rowV ag row):=by
 cases ag with
 | true =>
  obtain ⟨cs,rfl,h2⟩:=hv
  simp only [rowV,cond_true,VR]
  exact ⟨cs,rfl,DRs.vrs h2⟩
 | false =>
  obtain ⟨d,rfl,h2⟩:=hv
  simp only [rowV,cond_false,hdD,List.drop_zero]
  simpa only [VR] using h2
section
variable {K:Nat→Prop} {G:List Gh} {H:List Ob} {w:World}
theorem St.reob (hS:St K G H w) {o:Nat} {g:Gh} {b:Nat} (hg:G[o]?=some g) (hb:g.blk=some b) {x:Ob} (hx:ObR K w.heap G g x):St K G (H.set o x) w :=
 hS.modA hg hb rfl (fun _ _=>rfl) hx
end
theorem run_next_at {P:Program} (w:World) (ty:TypeId) {bq bm cl:Nat} {seen:List Nat} {mes:Array MapEntry} (e4:w.heap[bq]?=some (.mapIter (some bm) cl seen.toArray cl)) (hbm:w.heap[bm]?=some (.map mes cl))
  (hunsup:(!seen.toArray.isEmpty && !mes.isEmpty && mes.all (fun e=>decide (e.born ≥ cl)))=false)
  (hold:(mes.filter fun e=>!seen.toArray.contains e.born).filter (fun e=>decide (e.born < cl))=mes.filter fun e=>!seen.contains e.born)
  (hnew:(mes.filter fun e=>!seen.toArray.contains e.born).filter (fun e=>decide (e.born ≥ cl))=#[]) :
  ((mes.filter fun e=>!seen.contains e.born).size=0∧(Instr.next (.pointer (some ⟨bq,0,none⟩)) false ty).run P w=.ok (.tuple #[.bool false]) w) ∨
  ∃ (j:Nat) (hj:j < (mes.filter fun e=>!seen.contains e.born).size) (w1:World),(w1=w ∨ w1=w.drew) ∧
   (Instr.next (.pointer (some ⟨bq,0,none⟩)) false ty).run P w=.ok (.tuple #[.bool true,(mes.filter fun e=>!seen.contains e.born)[j].key,(mes.filter fun e=>!seen.contains e.born)[j].val])
    { w1 with heap:=w1.heap.setIfInBounds bq (.mapIter (some bm) cl (seen++[(mes.filter fun e=>!seen.contains e.born)[j].born]).toArray cl) }:=by
 have hlt:bq < w.heap.size:=(Array.getElem?_eq_some_iff.1 e4).1
 simp only [Instr.next,getObj,Sem.run_bind,Sem.run,e4,hbm,Result.andThen,hunsup,Bool.false_eq_true,if_false,hold,hnew,Array.append_empty]
 generalize (mes.filter fun e=>!seen.contains e.born)=L
 by_cases h0:L.size=0
 ·left
  have:L=#[]:=Array.eq_empty_of_size_eq_zero h0
  subst this
  refine ⟨rfl,?_⟩
  simp [choose,Sem.run,Question.forced]
 ·right
  have hne:L.isEmpty=false:=by simp [Array.isEmpty,h0]
  simp only [hne,Bool.false_eq_true,if_false,Array.empty_append,Array.size_map]
  have hch:∃ (j:Nat) (w1:World),j < L.size∧(w1=w ∨ w1=w.drew)∧(choose (Question.mapNext L.size)).run P w=.ok j w1:=by
   by_cases hf:L.size≤1
   ·exact ⟨0,w,by omega,.inl rfl,by simp [choose,Sem.run,Question.forced,hf]⟩
   ·exact ⟨_,w.drew,Nat.mod_lt _ (by omega),.inr rfl,by
     simp only [choose,Sem.run,Question.forced,decide_eq_true_eq,hf,if_false,Question.cut]
     rfl⟩
  obtain ⟨j,w1,hj,hal,hrun⟩:=hch
  refine ⟨j,hj,w1,hal,?_⟩
  have hset:(setObj bq (.mapIter (some bm) cl (seen.toArray.push L[j].born) cl)).run P w1=.ok () { w1 with heap:=w1.heap.setIfInBounds bq (.mapIter (some bm) cl (seen.toArray.push L[j].born) cl) }:=by
   have h1:w1.heap[bq]?=some (.mapIter (some bm) cl seen.toArray cl):=by rcases hal with rfl | rfl <;> exact e4
   simp [setObj,Sem.run,h1]
  simp only [hrun,Array.getElem?_map,Array.getElem?_eq_getElem hj,Option.map_some,Sem.run_bind,hset,Result.andThen]
  simp
section
variable {P:Program} {kl:List Bool} {n:Nat} {B:Bs} {ops:Array Oper} {K:Env→List Ob→Prop} {E:Env} {H:List Ob}
theorem Rg.range {o:Oper} {l:List Oper} {t:TypeId} {x:Operand} {i:Nat} {ag:Bool} {es:List (Dt × List Dt)} {kt et:TypeId} (ho:Is o.op (.range t x)) (hg:Is o.guard none) (hd:dstOk n o.dst) (hk:opOk true E x) (hx:Is (opnd E x) (.mp i)) (ht:Is (kindP P t) (.map kt et)) (hi:Is (obAt H i) (.mp ag es))
  (cont:∀ (bs:List Nat) (cl:Nat),es.length=bs.length→bs.Nodup→(∀ b ∈ bs,b < cl)→RgEnd P kl n B ops K (run1 P kl n ops.toList l ⟨eput E o.dst (.ptr H.length 0),H.set i (.mpb ag es bs cl)++[.it i cl []],True⟩)):Rg P kl n B ops (o::l) E H K:=by
 unfold Is at *
 refine Rg.any hg hd (I:=fun v H'=>v=.ptr H.length 0∧∃ bs cl,es.length=bs.length∧bs.Nodup∧(∀ b ∈ bs,b < cl)∧H'=H.set i (.mpb ag es bs cl)++[.it i cl []]) ?_ ?_
 rotate_left
 ·rintro v H' ⟨rfl,bs,cl,h1,h2,h3,rfl⟩
  exact cont bs cl h1 h2 h3
 intro a w hR
 obtain ⟨Kk,G,hX,hS,hE,hdf,hn,hkp⟩:=hR
 have hvx:=opnd_ok hE rfl x hk
 rw [hx] at hvx
 simp only [VR] at hvx
 obtain ⟨g,b,hgi,hgb,ha⟩:=hvx
 have hiH:=obAt_some hi (by simp)
 obtain ⟨hlim,b',mes,clock,hb',hbm,hmr,hst⟩:=hS.ob i g _ hgi hiH
 obtain rfl:b'=b:=by rw [hgb] at hb'; exact (Option.some.inj hb').symm
 obtain ⟨ti,ht',hk'⟩:=kindP_some ht (by simp)
 have hu:=tk_map ht' hk'
 have hst':=(MapKept.stamped_iff mes clock).1 hst
 have hil:i < G.length:=(List.getElem?_eq_some_iff.1 hgi).1
 have hS1:=hS.reob hgi hgb (x:=.mpb ag es (mes.toList.map (·.born)) clock) ⟨hlim,b',mes,hgb,hbm,hmr,hst,rfl⟩
 have hS2:=hS1.push (o:=.mapIter (some b') clock #[] clock) (x:=.it i clock []) (sv:=undef) ⟨w.heap.size,b',g,rfl,by rw [List.getElem?_append_left hil]; exact hgi,hgb,heap_alloc_new w _⟩
 have hM:=Mn.alloc hS.kb (.mapIter (some b') clock #[] clock)
 have hG:∀ (o:Nat) (g:Gh),G[o]?=some g→(G++[⟨some w.heap.size,undef⟩])[o]?=some g:=fun o g hg=>Mg.push G _ o g rfl hg
 refine ⟨.pointer (some ⟨w.heap.size,0,none⟩),w.alloc (.mapIter (some b') clock #[] clock),.ptr H.length 0,H.set i (.mpb ag es (mes.toList.map (·.born)) clock)++[.it i clock []],?_,⟨rfl,_,clock,by rw [List.length_map]; exact hmr.length.symm,hst'.2.1,by simpa using hst'.1,rfl⟩,?_⟩
 ·have hrun:(Instr.range t (a.eval x)).run P w=.ok (.pointer (some ⟨w.heap.size,0,none⟩)) (w.alloc (.mapIter (some b') clock #[] clock)):=by
   rw [ha]
   simp [Instr.range,run_underlying hu,MapKept.run_getObj_map hbm,Result.andThen]
  obtain ⟨dst,op,ty,pos,af,gd⟩:=o
  cases ho
  exact val_run hrun
 ·refine ⟨Kk,G++[⟨some w.heap.size,undef⟩],hX.trans (Ext.push _ _ undef),hS2,fun m=>VR.grow hM hG _ _ (hE m),hdf,hn,fun q hq=>?_,?_⟩
  ·obtain ⟨y,hy,hky⟩:=hkp q hq
   have hql:=(List.getElem?_eq_some_iff.1 hy).1
   by_cases e:q=i
   ·subst e
    exact ⟨_,by rw [List.getElem?_append_left (by simpa using hql)]; exact List.getElem?_set_self hql,rfl⟩
   ·exact ⟨y,by rw [List.getElem?_append_left (by simpa using hql),List.getElem?_set_ne (Ne.symm e)]; exact hy,hky⟩
  ·simp only [VR]
   refine ⟨⟨some w.heap.size,undef⟩,w.heap.size,?_,rfl,rfl⟩
   rw [← hS.len,List.getElem?_append_right (Nat.le_refl _)]
   simp
theorem Rg.next {o:Oper} {l:List Oper} {x:Operand} {q i cl:Nat} {ag:Bool} {es:List (Dt × List Dt)} {bs seen:List Nat} (ho:Is o.op (.next x false)) (hg:Is o.guard none) (hd:dstOk n o.dst) (hk:opOk true E x) (hx:Is (opnd E x) (.ptr q 0)) (hq:Is (obAt H q) (.it i cl seen)) (hi:Is (obAt H i) (.mpb ag es bs cl))
  (hkq:kpf kl q=false) (hb1:es.length=bs.length) (hb2:bs.Nodup) (hb3:∀ b ∈ bs,b < cl)
  (he:(left bs seen bs).length=0→RgEnd P kl n B ops K (run1 P kl n ops.toList l ⟨eput E o.dst (.tup [.p (.b false)]),H,True⟩))
  (hs:∀ (j p st:Nat),NextOk bs seen j p st→RgEnd P kl n B ops K (run1 P kl n ops.toList l ⟨eput E o.dst (.tup [.p (.b true),.top,.top]),H.set q (.it i cl (seen++[st])),True⟩)):Rg P kl n B ops (o::l) E H K:=by
 unfold Is at *
 refine Rg.any hg hd (I:=fun v H'=>((left bs seen bs).length=0∧v=.tup [.p (.b false)]∧H'=H) ∨ ∃ j p st,NextOk bs seen j p st∧v=.tup [.p (.b true),.top,.top]∧H'=H.set q (.it i cl (seen++[st]))) ?_ ?_
 rotate_left
 ·rintro v H' (⟨h1,rfl,rfl⟩ | ⟨j,p,st,h1,rfl,rfl⟩)
  ·exact he h1
  ·exact hs j p st h1
 intro a w hR
 obtain ⟨Kk,G,hX,hS,hE,hdf,hn,hkp⟩:=hR
 have hvx:=opnd_ok hE rfl x hk
 rw [hx] at hvx
 simp only [VR] at hvx
 obtain ⟨gq,bq,hgq,hbq,ha⟩:=hvx
 have hqH:=obAt_some hq (by simp)
 have hiH:=obAt_some hi (by simp)
 obtain ⟨bq',bm,gm,e1,e2,e3,e4⟩:=hS.ob q gq _ hgq hqH
 obtain rfl:bq'=bq:=by rw [hbq] at e1; exact (Option.some.inj e1).symm
 obtain ⟨hlim,b',mes,hb',hbm,hmr,hst,hborn⟩:=hS.ob i gm _ e2 hiH
 obtain rfl:b'=bm:=by rw [e3] at hb'; exact (Option.some.inj hb').symm
 subst hborn
 have hlen:es.length=mes.toList.length:=by simpa using hb1
 have hunsup:(!seen.toArray.isEmpty && !mes.isEmpty && mes.all (fun e=>decide (e.born ≥ cl)))=false:=by
  cases hme:mes.isEmpty with
  | true=>simp
  | false =>
   have:mes.all (fun e=>decide (e.born ≥ cl))=false:=by
    rw [Array.all_eq_false']
    have hne:mes.toList ≠ []:=by
     intro e0
     have:mes=#[]:=Array.toList_eq_nil_iff.1 e0
     subst this
     simp at hme
    obtain ⟨e0,r0,hcons⟩:=List.exists_cons_of_ne_nil hne
    refine ⟨e0,by rw [← Array.mem_toList_iff,hcons]; simp,?_⟩
    have:=hb3 e0.born (by simp [hcons])
    simp; omega
   simp [this]
 have hseen:∀ y:Nat,seen.toArray.contains y=seen.contains y:=by intro y; simp
 have hold:(mes.filter fun e=>!seen.toArray.contains e.born).filter (fun e=>decide (e.born < cl))=mes.filter fun e=>!seen.contains e.born:=by
  apply Array.toList_inj.1
  simp only [Array.toList_filter,hseen]
  rw [List.filter_eq_self]
  intro e he
  have:=(List.mem_filter.1 he).1
  simpa using hb3 e.born (by simp; exact ⟨e,by simpa using this,rfl⟩)
 have hnew:(mes.filter fun e=>!seen.toArray.contains e.born).filter (fun e=>decide (e.born ≥ cl))=#[]:=by
  apply Array.toList_inj.1
  simp only [Array.toList_filter,hseen]
  rw [List.filter_eq_nil_iff.2]
  intro e he
  have:=(List.mem_filter.1 he).1
  have:=hb3 e.born (by simp; exact ⟨e,by simpa using this,rfl⟩)
  simp; omega
 have hlf:(left (mes.toList.map (·.born)) seen (mes.toList.map (·.born))).length=(mes.filter fun e=>!seen.contains e.born).size:=by
  rw [left_length (m:=mes.toList) (by simp) (by simp),left_filter,← Array.toList_filter,Array.length_toList]
 have hrr:=run_next_at (P:=P) w o.type e4 hbm hunsup hold hnew
 have e0:∀ {c:Value} {w':World},(Instr.next (a.eval x) false o.type).run P w=.ok c w'→(execOp a.eval o).run P w=.ok (.value c) w':=by
  intro c w' hr
  obtain ⟨dst,op,ty,pos,af,gd⟩:=o
  cases ho
  exact val_run hr
 rw [← ha] at hrr
 rcases hrr with ⟨h0,hr⟩ | ⟨j,hj,w1,hw1,hr⟩
 ·refine ⟨_,_,.tup [.p (.b false)],H,e0 hr,.inl ⟨by rw [hlf]; exact h0,rfl,rfl⟩,Kk,G,hX,hS,hE,hdf,hn,hkp,?_⟩
  simp only [VR,VRs,DR]
  exact ⟨[.bool false],rfl,_,_,rfl,rfl,rfl⟩
 ·obtain ⟨p,st,hok,hst'⟩:=nextOk hb2 (by rw [hlf]; exact hj)
  have hstb:st=(mes.filter fun e=>!seen.contains e.born)[j].born:=by
   rw [left_map (fun e:MapEntry=>e.born),left_filter,← Array.toList_filter,List.getElem?_map,Array.getElem?_toList,Array.getElem?_eq_getElem hj] at hst'
   simpa using hst'.symm
  rw [← hstb] at hr
  have hqb:bq' < w.heap.size:=(Array.getElem?_eq_some_iff.1 e4).1
  have hsz:w1.heap.size=w.heap.size:=by rcases hw1 with rfl | rfl <;> rfl
  have hhp:w1.heap=w.heap:=by rcases hw1 with rfl | rfl <;> rfl
  have hfr:∀ y,y ≠ bq'→({ w1 with heap:=w1.heap.setIfInBounds bq' (.mapIter (some b') cl (seen++[st]).toArray cl) }:World).heap[y]?=w.heap[y]?:=fun y hy=>by simp [Ne.symm hy,hhp]
  have hqi:q ≠ i:=fun e=>by subst e; rw [hqH] at hiH; cases hiH
  have hMn:Mn Kk Kk w.heap ({ w1 with heap:=w1.heap.setIfInBounds bq' (.mapIter (some b') cl (seen++[st]).toArray cl) }:World).heap:=⟨fun _ h=>h,fun y hy=>hfr y fun e=>(hS.gb q gq _ hgq hbq).2 (e ▸ hy)⟩
  have hS1:=hS.modA (x:=.it i cl (seen++[st])) hgq hbq (w':={ w1 with heap:=w1.heap.setIfInBounds bq' (.mapIter (some b') cl (seen++[st]).toArray cl) }) (by simp [hsz]) hfr ⟨bq',b',gm,hbq,e2,e3,by simp [hsz,hqb]⟩
  refine ⟨_,_,.tup [.p (.b true),.top,.top],H.set q (.it i cl (seen++[st])),e0 hr,.inr ⟨j,p,st,hok,rfl,rfl⟩,Kk,G,hX.trans (Ext.modA _ hgq hbq ?_ ?_ ?_ (by simp [hsz]) hfr),hS1,fun m=>VR.grow hMn (fun _ _ h=>h) _ _ (hE m),hdf,hn,fun y hy=>?_,?_⟩
  ·rcases hw1 with rfl | rfl <;> rfl
  ·rcases hw1 with rfl | rfl <;> rfl
  ·rcases hw1 with rfl | rfl <;> rfl
  ·have hyq:y ≠ q:=fun e=>by subst e; rw [show kpf kl y=true from hy] at hkq; cases hkq
   obtain ⟨z,hz,hkz⟩:=hkp y hy
   exact ⟨z,by rw [List.getElem?_set_ne (Ne.symm hyq)]; exact hz,hkz⟩
  ·simp only [VR,VRs,DR]
   exact ⟨[.bool true,_,_],rfl,_,_,rfl,rfl,_,_,rfl,trivial,_,_,rfl,trivial,rfl⟩
theorem Rg.entry {o:Oper} {l:List Oper} {x:Operand} {q i cl p st:Nat} {ag:Bool} {es:List (Dt × List Dt)} {bs seen:List Nat} {d:Dt} {row:List Dt} (ho:Is o.op (.entry x)) (hg:Is o.guard none) (hd:dstOk n o.dst) (hk:opOk true E x) (hx:Is (opnd E x) (.ptr q 0)) (hq:Is (obAt H q) (.it i cl (seen++[st]))) (hi:Is (obAt H i) (.mpb ag es bs cl))
  (hb2:bs.Nodup) (hp:bs[p]?=some st) (he:es[p]?=some (d,row))
  (cont:RgEnd P kl n B ops K (run1 P kl n ops.toList l ⟨eput E o.dst (.tup [keyVa d,rowV ag row]),H,True⟩)):Rg P kl n B ops (o::l) E H K:=by
 unfold Is at *
 refine Rg.any hg hd (I:=fun v H'=>v=.tup [keyVa d,rowV ag row]∧H'=H) ?_ (by rintro v H' ⟨rfl,rfl⟩; exact cont)
 intro a w hR
 obtain ⟨Kk,G,hX,hS,hE,hdf,hn,hkp⟩:=hR
 have hvx:=opnd_ok hE rfl x hk
 rw [hx] at hvx
 simp only [VR] at hvx
 obtain ⟨gq,bq,hgq,hbq,ha⟩:=hvx
 have hqH:=obAt_some hq (by simp)
 have hiH:=obAt_some hi (by simp)
 obtain ⟨bq',bm,gm,e1,e2,e3,e4⟩:=hS.ob q gq _ hgq hqH
 obtain rfl:bq'=bq:=by rw [hbq] at e1; exact (Option.some.inj e1).symm
 obtain ⟨hlim,b',mes,hb',hbm,hmr,hst,hborn⟩:=hS.ob i gm _ e2 hiH
 obtain rfl:b'=bm:=by rw [e3] at hb'; exact (Option.some.inj hb').symm
 obtain ⟨e,he1,he2,he3⟩:=hmr.get he
 have heb:e.born=st:=by
  rw [← hborn,List.getElem?_map,he1] at hp
  simpa using hp
 have hf:mes.find? (·.born == st)=some e:=by
  rw [← Array.find?_toList,← heb]
  exact find_born e mes.toList (by rw [hborn]; exact hb2) (List.mem_of_getElem? he1)
 have hr:(Instr.entry (a.eval x)).run P w=.ok (.tuple #[e.key,e.val]) w:=by
  rw [ha]
  have:(seen++[st]).toArray.back?=some st:=by simp
  simp only [Instr.entry,getObj,Sem.run_bind,Sem.run,e4,hbm,Result.andThen,this,bne_self_eq_false,Bool.false_eq_true,if_false,hf]
  rfl
 refine ⟨.tuple #[e.key,e.val],w,_,H,?_,⟨rfl,rfl⟩,Kk,G,hX,hS,hE,hdf,hn,hkp,?_⟩
 ·obtain ⟨dst,op,ty,pos,af,gd⟩:=o
  cases ho
  exact val_run hr
 ·simp only [VR,VRs]
  exact ⟨[e.key,e.val],rfl,_,_,rfl,he2.va,_,_,rfl,mval_rowV he3,rfl⟩
end
section
variable {P:Program} {kl:List Bool} {n:Nat} {B:Bs} {Q:Qt} {E:Env} {H:List Ob}
theorem Wp.endM {c:Code} (i q:Nat) {ag:Bool} {es:List (Dt × List Dt)} {bs seen:List Nat} {cl:Nat} (hi:Is (obAt H i) (.mpb ag es bs cl)) (hq:Is (obAt H q) (.it i cl seen)) (hk:kpf kl q=false)
  (hc:Wp P kl n B c Q E ((H.set i (.mp ag es)).set q .gone)):Wp P kl n B c Q E H:=by
 unfold Is at *
 intro hB a w hR
 obtain ⟨K,G,r1,hS,r3,r4,r5,r6⟩:=hR
 have hiH:=obAt_some hi (by simp)
 have hqH:=obAt_some hq (by simp)
 obtain ⟨gi,hgi,hob⟩:=hS.ghost hiH
 obtain ⟨hlim,b,mes,e1,e2,e3,e4,e5⟩:=hob
 obtain ⟨gq,hgq,hobq⟩:=hS.ghost hqH
 obtain ⟨bq,bm,gm,q1,q2⟩:=hobq
 have s1:=hS.reob hgi e1 (x:=.mp ag es) ⟨hlim,b,mes,cl,e1,e2,e3,e4⟩
 have s2:=s1.reob hgq q1 (x:=.gone) trivial
 refine hc hB a w ⟨K,G,r1,s2,r3,r4,r5,fun y hy=>?_⟩
 have hyq:y ≠ q:=fun e=>by subst e; rw [show kpf kl y=true from hy] at hk; cases hk
 obtain ⟨z,hz,hkz⟩:=r6 y hy
 by_cases e:y=i
 ·subst e
  exact ⟨_,by rw [List.getElem?_set_ne (Ne.symm hyq)]; exact List.getElem?_set_self (List.getElem?_eq_some_iff.1 hz).1,rfl⟩
 ·exact ⟨z,by rw [List.getElem?_set_ne (Ne.symm hyq),List.getElem?_set_ne (Ne.symm e)]; exact hz,hkz⟩
end
section
variable {α β S:Type}
theorem forM_next {z:β} {f:α→S→(S→Option β)→(S→Option β)→Option β} {k:S→Option β} {s':S} {bs seen:List Nat} {l:List α} {j p st:Nat} (hok:NextOk bs seen j p st) (hb:l.length=bs.length)
  (h:forM f ((left bs seen l).eraseIdx j).length ((left bs seen l).eraseIdx j) s' k=some z):(left bs (seen++[st]) l).length < (left bs seen l).length∧forM f (left bs (seen++[st]) l).length (left bs (seen++[st]) l) s' k=some z:=by
 obtain ⟨h1,h2,_⟩:=hok.er l hb
 rw [h2]
 exact ⟨by rw [List.length_eraseIdx,if_pos h1]; omega,h⟩
theorem encM_get {Kt V:Type} {kd:Kt→Dt} {e:V→List Dt} {l:List (Kt × V)} {p:Nat} {x:Kt × V} (h:l[p]?=some x):(encM kd e l)[p]?=some (kd x.1,e x.2):=by simp [encM,h]
theorem encM_bs {Kt V:Type} {kd:Kt→Dt} {e:V→List Dt} {l:List (Kt × V)} {bs:List Nat} (h:(encM kd e l).length=bs.length):l.length=bs.length:=by rw [← h,encM_len]
end
end Go.Vc
/- Two more operations as steps: whether a slice is nil (where nobody knows); a cut of a growing slice that is cleared. -/
set_option linter.unusedSectionVars false
namespace Go.Vc
variable [Tabs]
section
variable {P:Program} {kl:List Bool} {n:Nat} {B:Bs} {ops:Array Oper} {K:Env→List Ob→Prop} {E:Env} {H:List Ob}
theorem Rg.isnil {o:Oper} {l:List Oper} {t u:TypeId} {x:Operand} {rows:List (List Dt)} {e:TypeId} {esz eb:Nat} {ez:List Value} (ho:Is o.op (.binOp .eql t x (.const (.slice none 0 0)) u)) (hg:Is o.guard none) (hd:dstOk n o.dst) (hk:opOk true E x) (hx:Is (opnd E x) (.p (.l rows))) (ht:Is (kindP P t) (.slice e esz eb ez))
  (cont:∀ b:Bool,(b=true→rows=[])→RgEnd P kl n B ops K (run1 P kl n ops.toList l ⟨eput E o.dst (.p (.b b)),H,True⟩)):Rg P kl n B ops (o::l) E H K:=by
 unfold Is at *
 refine Rg.any hg hd (I:=fun v H'=>H'=H∧∃ b:Bool,(b=true→rows=[])∧v=.p (.b b)) ?_ (by rintro v H' ⟨rfl,b,h1,rfl⟩; exact cont b h1)
 intro a w hR
 obtain ⟨Kk,G,hX,hS,hE,hdf,hn,hkp⟩:=hR
 have hvx:=opnd_ok hE rfl x hk
 rw [hx] at hvx
 simp only [VR,DR] at hvx
 obtain ⟨ti,ht',hk'⟩:=kindP_some ht (by simp)
 obtain ⟨hu,_⟩:=tk_slice ht' hk'
 have key:∃ ad m cap,a.eval x=.slice ad m cap∧(ad.isNone=true→rows=[]):=by
  rcases hvx with ⟨⟨ad,h1⟩,h2⟩ | ⟨b,off,cap,cs,T,fr,sz,vs,h1,_⟩
  ·exact ⟨ad,0,0,h1,fun _=>h2⟩
  ·exact ⟨_,_,_,h1,fun h=>by simp at h⟩
 obtain ⟨ad,m,cap,hax,hnil⟩:=key
 refine ⟨.bool ad.isNone,w,_,H,?_,⟨rfl,ad.isNone,hnil,rfl⟩,Kk,G,hX,hS,hE,hdf,hn,hkp,by simp only [VR,DR]⟩
 have hr:(binOp .eql t (.slice ad m cap) (.slice none 0 0)).run P w=.ok (.bool ad.isNone) w:=Lib.run_eql_slice_nil w t e ad m cap 0 0 hu
 obtain ⟨dst,op,ty,pos,af,gd⟩:=o
 cases ho
 have hgd:=eqGuard_plain (P:=P) (w:=w) .eql t x (.const (.slice none 0 0)) (.slice ad m cap) (.slice none 0 0) (by simp) (by simp)
 have:(do eqGuard .eql t x (.const (.slice none 0 0)) (a.eval x) (a.eval (.const (.slice none 0 0))); binOp .eql t (a.eval x) (a.eval (.const (.slice none 0 0))):Sem Value).run P w=.ok (.bool ad.isNone) w:=by
  rw [hax]
  show (do eqGuard .eql t x (.const (.slice none 0 0)) (.slice ad m cap) (.slice none 0 0); binOp .eql t (.slice ad m cap) (.slice none 0 0):Sem Value).run P w=_
  simp only [Sem.run_bind,hgd,Result.andThen_ok,hr]
 exact val_run this
theorem Rg.clear {o:Oper} {l:List Oper} {c:Call} {t:TypeId} {x:Operand} {i sz a m:Nat} {T:TypeId} {rows:List (List Dt)} {e:TypeId} {eb:Nat} {ez:List Value} {z:List Dt} (ho:Is o.op (.call c)) (hc:Is c.callee (.builtin .clear)) (hca:Is c.args.toList [x]) (hct:Is c.argTypes.toList [t]) (hg:Is o.guard none) (hd:dstOk n o.dst) (hk:opOk true E x)
  (hx:Is (opnd E x) (.vw i sz a m)) (ht:Is (kindP P t) (.slice e sz eb ez)) {fx:Bool} (hi:Is (bufAt H i) (some (T,sz,rows,fx))) (hz:Is (dts (ez.map cv)) (some z)) (hzk:zerosOk ez) (hzl:ez.length=sz) (hs0:0 < sz)
  (cont:RgEnd P kl n B ops K (run1 P kl n ops.toList l ⟨eput E o.dst .top,H.set i (mkB fx T sz (rows.take a++List.replicate m z++rows.drop (a+m))),True⟩)):Rg P kl n B ops (o::l) E H K:=by
 unfold Is at *
 refine Rg.any hg hd (I:=fun v H'=>v=.top∧H'=H.set i (mkB fx T sz (rows.take a++List.replicate m z++rows.drop (a+m)))) ?_ (by rintro v H' ⟨rfl,rfl⟩; exact cont)
 intro ac w hR
 obtain ⟨Kk,G,hX,hS,hE,hdf,hn,hkp⟩:=hR
 have hvx:=opnd_ok hE rfl x hk
 rw [hx] at hvx
 simp only [VR] at hvx
 obtain ⟨g,ad,N,cap,hgi,hsv,hle,ad',cap',hax,hmc,hcc,hpos⟩:=hvx
 obtain ⟨ti,ht',hk'⟩:=kindP_some ht (by simp)
 obtain ⟨hu,⟨inf,hi1,hi2,hi3⟩,hez⟩:=tk_slice ht' hk'
 have hiH:=bufAt_some hi
 obtain ⟨hlim,xs,hxs,hh⟩:=hS.bufOb hi hgi
 have hzi:∃ zv,inf.zero=some zv∧zv.cells.toList=ez:=by
  unfold zeroP at hez
  rw [hi1] at hez
  simp at hez
  exact hez
 obtain ⟨zv,hzv,hzc⟩:=hzi
 have hrl:rows.length=N:=by
  rcases hh with ⟨⟨a0,h1⟩,rfl,_⟩ | ⟨b,cp,cur,fr,h1,_⟩
  ·rw [hsv] at h1; cases h1; rfl
  ·rw [hsv] at h1; cases h1; rfl
 have fin:∀ (w':World),(Builtin.clear_ #[t] o.type #[ac.eval x]).run P w=.ok (.tuple #[]) w'→RelV (cx P kl n B) E (H.set i (mkB fx T sz (rows.take a++List.replicate m z++rows.drop (a+m)))) (.tuple #[]) .top ac w'→∃ c' w' v H',(execOp ac.eval o).run P w=.ok (.value c') w'∧(v=.top∧H'=H.set i (mkB fx T sz (rows.take a++List.replicate m z++rows.drop (a+m))))∧RelV (cx P kl n B) E H' c' v ac w':=by
  intro w' hr hRV
  refine ⟨_,w',_,_,?_,⟨rfl,rfl⟩,hRV⟩
  obtain ⟨callee,args,argTypes⟩:=c
  obtain ⟨dst,op,ty,pos,af,gd⟩:=o
  cases ho
  simp only at hc hca hct hr
  subst hc
  have ha:args=#[x]:=by cases args; simp_all
  have hat:argTypes=#[t]:=by cases argTypes; simp_all
  subst ha; subst hat
  simp [execOp,resolve,invoke,builtin,hr]
 rcases Nat.eq_zero_or_pos m with rfl | hm
 ·have hsame:rows.take a++List.replicate 0 z++rows.drop (a+0)=rows:=by simp
  rw [hsame] at fin ⊢
  have hset:H.set i (mkB fx T sz rows)=H:=by
   apply List.ext_getElem?
   intro j
   by_cases e:j=i
   ·subst e; rw [List.getElem?_set_self (List.getElem?_eq_some_iff.1 hiH).1,hiH]
   ·rw [List.getElem?_set_ne (Ne.symm e)]
  rw [hset] at fin ⊢
  refine fin w ?_ ⟨Kk,G,hX,hS,hE,hdf,hn,hkp,by simp only [VR]⟩
  rw [hax]
  cases ad' <;> simp [Builtin.clear_,run_underlying hu]
 ·obtain ⟨b,hgb,had,had'⟩:=hpos (by omega)
  rcases hh with ⟨_,_,h0⟩ | ⟨b',cp,cur,fr,h1,h2,h3,h4,h5,h6,h7,h8⟩
  ·rw [hgb] at h0; cases h0
  obtain rfl:b'=b:=by rw [hgb] at h2; exact (Option.some.inj h2).symm
  have hzsz:zv.cells.size=sz:=by rw [← hzl,← hzc]; simp
  have hzcells:(Builtin.zeroCells zv.cells m).toList=(List.replicate m ez).flatten:=by
   show (madeCells zv.cells (m * zv.cells.size)).toList=_
   rw [hzsz,made_flat (by rw [hzc]; exact hzl) hs0,hzc]
  have hzd:DRs Kk w.heap ez z:=dts_ok (zeros_ok (G:=G) hzk) hz
  have hzl':z.length=sz:=by have:=hzd.length; omega
  have hnews:=DRss.replicate hzd m
  rw [hzl'] at hnews
  have hnl:((List.replicate m ez).flatten).length=m * sz:=by have:=hnews.length; simpa using this
  have hA:a * sz+m * sz≤rows.length * sz:=by rw [← Nat.add_mul]; exact Nat.mul_le_mul_right _ (by omega)
  have hC:rows.length * sz≤cur.size:=by rw [h7]; exact Nat.mul_le_mul_right _ h5
  have hst:=run_storeCells_free (P:=P) b' (a * sz) T fr (List.replicate m ez).flatten 0 cur w h3 h4 (by omega) hnews.ones
  simp only [Nat.add_zero] at hst
  have hxl:xs=cur.toList.take (rows.length * sz):=h8.symm
  have hcl:(setRv cur.toList (a * sz) (List.replicate m ez).flatten).length=cur.size:=by rw [setRv_length _ _ _ (by rw [hnl]; simpa using (by omega:a * sz+m * sz≤cur.size))]; simp
  have hlen':(rows.take a++List.replicate m z++rows.drop (a+m)).length=rows.length:=by simp; omega
  refine fin (w.setRow b' (setRv cur.toList (a * sz) (List.replicate m ez).flatten).toArray) ?_ ?_
  ·rw [hax,had']
   have hm0:m ≠ 0:=by omega
   have hzr:(zeroValue e).run P w=.ok zv w:=by simp [zeroValue,typeInfo,hi1,hzv]
   obtain ⟨m',rfl⟩:∃ m',m=m'+1:=⟨m - 1,by omega⟩
   simp [Builtin.clear_,run_underlying hu,hzr,hzcells,hst]
  ·have hfr2:∀ y,y ≠ b'→(w.setRow b' (setRv cur.toList (a * sz) (List.replicate m ez).flatten).toArray).heap[y]?=w.heap[y]?:=fun y hy=>setRow_other w b' y _ hy
   have hMn:Mn Kk Kk w.heap (w.setRow b' (setRv cur.toList (a * sz) (List.replicate m ez).flatten).toArray).heap:=⟨fun _ h=>h,fun y hy=>hfr2 y fun e=>(hS.gb i g b' hgi h2).2 (e ▸ hy)⟩
   refine ⟨Kk,G,hX.trans (Ext.modA _ hgi h2 rfl rfl rfl (setRow_size _ _ _) hfr2),hS.modA hgi h2 (setRow_size _ _ _) hfr2 (mkB_buf ▸ ⟨by rw [hlen']; exact hlim,xs.take (a * sz)++(List.replicate m ez).flatten++xs.drop ((a+m) * sz),?_,.inr ⟨b',cp,_,fr,by rw [hlen']; exact h1,h2,setRow_heap w b' cur _ T fr h3,?_,by rw [hlen']; exact h5,h6,?_,?_⟩⟩),fun q=>VR.grow hMn (fun _ _ h=>h) _ _ (hE q),hdf,hn,fun y hy=>?_,by simp only [VR]⟩
   ·exact DRss.mono hMn _ _ _ (((DRss.take hxs a).append hnews).append (DRss_drop hxs))
   ·simp only [List.size_toArray,hcl]; exact h4
   ·simp only [List.size_toArray,hcl]; exact h7
   ·rw [hlen',setRv_eq _ _ _ (by rw [hnl]; simpa using (by omega:a * sz+m * sz≤cur.size)),hnl,hxl]
    have e1:((cur.toList.take (a * sz)++(List.replicate m ez).flatten)).length=a * sz+m * sz:=by rw [List.length_append,hnl,List.length_take]; simp; omega
    show (cur.toList.take (a * sz)++(List.replicate m ez).flatten++cur.toList.drop (a * sz+m * sz)).take (rows.length * sz)=_
    rw [List.take_append,List.take_of_length_le (by omega),e1,List.take_take,Nat.min_eq_left (by omega),Nat.add_mul,List.drop_take]
   ·obtain ⟨q,hq,hkq⟩:=hkp y hy
    by_cases hyi:y=i
    ·subst hyi
     rw [hiH] at hq; cases hq
     exact ⟨_,List.getElem?_set_self (List.getElem?_eq_some_iff.1 hiH).1,by cases fx <;> first | rfl | exact hkq⟩
    ·exact ⟨q,by rw [List.getElem?_set_ne (Ne.symm hyi)]; exact hq,hkq⟩
end
def sortS (l:List (List UInt8)):List (List UInt8):=l.mergeSort fun x y=>decide (x≤y)
theorem sortS_length (l:List (List UInt8)):(sortS l).length=l.length:=by unfold sortS; simp
section
variable {P:Program} {kl:List Bool} {n:Nat} {B:Bs} {Q:Qt} {E:Env} {H:List Ob}
theorem Wp.toView {c:Code} (k o:Nat) {T:TypeId} {sz:Nat} {rows:List (List Dt)} (hk:Is (eget E k) (.buf o)) {fx:Bool} (ho:Is (bufAt H o) (some (T,sz,rows,fx))) (hc:Wp P kl n B c Q ((k,.vw o sz 0 rows.length)::E) H):Wp P kl n B c Q E H:=by
 unfold Is at *
 intro hB a w hR
 obtain ⟨K,G,r1,hS,r3,r4,r5,r6⟩:=hR
 refine hc hB a w ⟨K,G,r1,hS,fun m=>?_,r4,r5,r6⟩
 simp only [eget]
 split
 ·rename_i e
  subst e
  have hv:=r3 k
  rw [hk] at hv
  simp only [VR] at hv ⊢
  obtain ⟨g,hg,hcv,a0,n0,cap0,hsv⟩:=hv
  obtain ⟨hlim,xs,hxs,hh⟩:=hS.bufOb ho hg
  rw [hcv]
  rcases hh with ⟨⟨a1,h1⟩,rfl,h3⟩ | ⟨b,cap,cur,fr,h1,h2,h3,h4,h5,h6,h7,h8⟩
  ·exact ⟨g,a1,0,0,hg,h1,by simp,a1,0,h1,by simp,by simp,by simp⟩
  ·exact ⟨g,_,_,cap,hg,h1,by simp,_,cap,h1,h5,by simp,fun _=>⟨b,h2,rfl,by simp⟩⟩
 ·exact r3 m
end
section
variable {P:Program} {kl:List Bool} {n:Nat} {B:Bs} {Q:Qt} {E:Env} {H:List Ob}
theorem Wp.reob {c:Code} (o:Nat) {x:Ob} (hk:kpf kl o=false) (hx:∀ K G (w:World) g,St K G H w→G[o]?=some g→ObR K w.heap G g x) (ho:o < H.length) (hc:Wp P kl n B c Q E (H.set o x)):Wp P kl n B c Q E H:=by
 intro hB a w hR
 obtain ⟨K,G,r1,hS,r3,r4,r5,r6⟩:=hR
 have hol:o < G.length:=by rw [hS.len]; exact ho
 have hS':St K G (H.set o x) w:=by
  refine ⟨by simp [hS.len],hS.kb,hS.gb,hS.inj,fun i g y hg hy=>?_,hS.tb⟩
  by_cases e:i=o
  ·subst e
   rw [List.getElem?_set_self ho] at hy
   cases hy
   exact hx K G w g hS hg
  ·rw [List.getElem?_set_ne (Ne.symm e)] at hy
   exact hS.ob i g y hg hy
 refine hc hB a w ⟨K,G,r1,hS',r3,r4,r5,fun y hy=>?_⟩
 have hyo:y ≠ o:=fun e=>by subst e; rw [show kpf kl y=true from hy] at hk; cases hk
 obtain ⟨z,hz,hkz⟩:=r6 y hy
 exact ⟨z,by rw [List.getElem?_set_ne (Ne.symm hyo)]; exact hz,hkz⟩
theorem Wp.toFix {c:Code} (o:Nat) {T:TypeId} {sz:Nat} {rows:List (List Dt)} (ho:Is (obAt H o) (.buf T sz rows)) (hk:kpf kl o=false) (hc:Wp P kl n B c Q E (H.set o (.fx T sz rows))):Wp P kl n B c Q E H:=by
 have hoH:=obAt_some ho (by simp)
 exact Wp.reob o (x:=.fx T sz rows) hk (fun K G w g hS hg=>show ObR K w.heap G g (.buf T sz rows) from hS.ob o g _ hg hoH) (List.getElem?_eq_some_iff.1 hoH).1 hc
theorem Wp.toBuf {c:Code} (o:Nat) {T:TypeId} {sz:Nat} {rows:List (List Dt)} (ho:Is (obAt H o) (.fx T sz rows)) (hk:kpf kl o=false) (hc:Wp P kl n B c Q E (H.set o (.buf T sz rows))):Wp P kl n B c Q E H:=by
 have hoH:=obAt_some ho (by simp)
 exact Wp.reob o (x:=.buf T sz rows) hk (fun K G w g hS hg=>show ObR K w.heap G g (.fx T sz rows) from hS.ob o g _ hg hoH) (List.getElem?_eq_some_iff.1 hoH).1 hc
end
section
variable {P:Program} {kl:List Bool} {n:Nat} {B:Bs} {Q:Qt} {E:Env} {H:List Ob}
theorem Wp.regionQ {id:Nat} {l:List Oper} (h:RgEnd P kl n B l.toArray (Q .normal) (run1 P kl n l l ⟨E,H,True⟩)):Wp P kl n B (.region id l.toArray false) Q E H:=by
 intro hB a w hR
 refine wp_region_lit ?_
 have:=Rg.run (ops:=l.toArray) (l:=l) h
 exact this hB a w _ hR fun E' H' a' w' h1 h2=>⟨E',H',h1,h2⟩
theorem Wp.seqRW {id:Nat} {l:List Oper} {y:Code} (h:∀ K:Env→List Ob→Prop,(∀ E H,Wp P kl n B y Q E H→K E H)→(∀ E H E' H',Weak kl E H E' H'→K E' H'→K E H)→RgEnd P kl n B l.toArray K (run1 P kl n l l ⟨E,H,True⟩)):Wp P kl n B (.seq (.region id l.toArray false) y) Q E H :=
 Wp.seqW fun K hK hW=>Wp.regionQ (Q:=thenQ K Q) (h K hK hW)
theorem Wp.regionDQ {id:Nat} {os:List Oper} (plan:Plan) (hm:P.follows .mixedOrders=true) (hl:plan.length=os.length) (hp:planB os.toArray plan [] (Array.replicate os.length false)=true)
  (h:Dr P kl n B os.toArray plan [] E H (Q .normal)):Wp P kl n B (.region id os.toArray true) Q E H:=by
 intro hB a w hR
 refine wp_region_any hm ?_
 have hD:DC os.toArray (Array.replicate os.length false):=fun i hi=>by
  simp [Array.getD_eq_getD_getElem?,Array.getElem?_replicate] at hi
  split at hi <;> simp at hi
 have h1:=h hB (fun _ he=>by cases he) _ hD hp
 rw [hl] at h1
 rw [show os.toArray.size=os.length by simp]
 exact AnyO.sound _ h1 (hR.drew _) fun E' H' a' w' h1 h2=>⟨E',H',h1,h2⟩
theorem Wp.seqDW {id:Nat} {os:List Oper} {y:Code} (plan:Plan) (hm:P.follows .mixedOrders=true) (hl:plan.length=os.length) (hp:planB os.toArray plan [] (Array.replicate os.length false)=true)
  (h:∀ K:Env→List Ob→Prop,(∀ E H,Wp P kl n B y Q E H→K E H)→(∀ E H E' H',Weak kl E H E' H'→K E' H'→K E H)→RdEnd P kl n B os.toArray K (runD P kl n os plan ⟨[],E,H,True⟩)):Wp P kl n B (.seq (.region id os.toArray true) y) Q E H :=
 Wp.seqW fun K hK hW=>Wp.regionDQ (Q:=thenQ K Q) plan hm hl hp (Dr.run (h K hK hW))
theorem Wp.regDW {id:Nat} {os:List Oper} (plan:Plan) (hm:P.follows .mixedOrders=true) (hl:plan.length=os.length) (hp:planB os.toArray plan [] (Array.replicate os.length false)=true)
  (h:∀ K:Env→List Ob→Prop,(∀ E H,Q .normal E H→K E H)→(∀ E H E' H',Weak kl E H E' H'→K E' H'→K E H)→RdEnd P kl n B os.toArray K (runD P kl n os plan ⟨[],E,H,True⟩)):Wp P kl n B (.region id os.toArray true) Q E H:=by
 let K:Env→List Ob→Prop:=fun E H=>B.G0.length=kl.length→∀ a w,Rel (cx P kl n B) E H a w→∃ E' H',Q .normal E' H'∧Rel (cx P kl n B) E' H' a w
 have h1:=Wp.regionDQ (id:=id) (Q:=thenQ K Q) plan hm hl hp (Dr.run (h K (fun E H hq _ a w hR=>⟨E,H,hq,hR⟩) (fun E H E' H' hw hk hB a w hR=>hk hB a w (Rel.cut hB hR hw))))
 intro hB a w hR
 refine wp_mono (h1 hB a w hR) ?_
 intro e a' w' ⟨E',H',hq,hR'⟩
 cases e <;> first | exact hq hB a' w' hR' | exact ⟨E',H',hq,hR'⟩
end
section
variable {P:Program} {kl:List Bool} {n:Nat} {B:Bs} {K:Env→List Ob→Prop} {E:Env} {H:List Ob}
theorem Rg.skipG {ops:Array Oper} {o:Oper} {l:List Oper} {v:Va} {gw:Nat × Bool} (hg:Is o.guard (some gw)) (hb:Is (guardX ops.toList E o) (some false)) (hd:dstOk n o.dst)
  (cont:RgEnd P kl n B ops K (run1 P kl n ops.toList l ⟨eput E o.dst (.cnd false v),H,True⟩)):Rg P kl n B ops (o::l) E H K:=by
 unfold Is guardX at *
 obtain ⟨j,want⟩:=gw
 rw [hg] at hb
 intro hB a w Q hR hK
 have hw:=guardB_ok hR hg hb
 refine wpList_step fun K' hK'=>?_
 rw [if_neg (by rw [hw]; simp)]
 obtain ⟨Kk,G,hX,hS,hE,hdf,hn,hkp⟩:=hR
 have hRV:RelV (cx P kl n B) E H undef (.cnd false v) a w:=⟨Kk,G,hX,hS,hE,hdf,hn,hkp,by simp [VR]⟩
 exact hK' _ _ (Rg.run cont hB _ _ _ (hRV.put o.dst (dstOk_lt hd)) hK)
def reSkip (ops:List Oper) (o:Oper) (E:Env) (v:Va) (po:Option (Nat→Bool)) (_:List Ob):Prop:=agL ops o E (.cnd false v) po
theorem Dr.skipG {ops:List Oper} {l:Plan} {obs:List En} {k:Nat} {o:Oper} {v:Va} {gw:Nat × Bool} (hk:Is ops[k]? (some o)) (hg:Is o.guard (some gw)) (hb:Is (guardX ops E o) (some false)) (hd:dstOk n o.dst)
  (cont:RdEnd P kl n B ops.toArray K (runD P kl n ops l ⟨⟨k,E,.cnd false v,reSkip ops o E v⟩::obs,eput E o.dst (.cnd false v),H,True⟩)):Dr P kl n B ops.toArray (.rd k l) obs E H K:=by
 unfold Is guardX at *
 obtain ⟨j,want⟩:=gw
 rw [hg] at hb
 have h':=Dr.run cont
 simp only at h'
 rw [← dst_eq hk] at h'
 have hrd:∀ H',Rdr P kl n B ops.toArray k E (.cnd false v) H':=by
  intro H' E' hE' a w Q K' hR hKK
  rw [dst_eq hk] at hKK
  have hb':guardB ops.toArray.toList E j want=some false:=by simpa using hb
  rw [← guardB_congr (getA hk) hg hE'] at hb'
  have hw:=guardB_ok hR hg hb'
  unfold wpOp
  simp only [getA hk]
  rw [if_neg (by rw [hw]; simp)]
  obtain ⟨Kk,G,hX,hS,hE,hdf,hn,hkp⟩:=hR
  exact hKK _ _ (RelV.put (C:=cx P kl n B) (v:=.cnd false v) ⟨Kk,G,hX,hS,hE,hdf,hn,hkp,by simp [VR]⟩ o.dst (dstOk_lt hd))
 exact Dr.read (fun _=>hrd _) (fun _ po H' hre=>⟨hrd _,agL_ok hk hre⟩) h'
end
attribute [go_sem] reSkip
attribute [go_sem] sortS_length Option.getD_none Option.getD_some Nat.sub_zero Nat.zero_add List.drop_zero
end Go.Vc
/- Two objects change places: what is known is the same with their numbers changed. -/
set_option linter.unusedSectionVars false
namespace Go.Vc
variable [Tabs]
def swN (i j o:Nat):Nat:=bif o == i then j else bif o == j then i else o
mutual
def swV (i j:Nat):Va→Va
 | .p x=>.p x
 | .nils=>.nils
 | .full r=>.full r
 | .rp r=>.rp r
 | .ptr o off=>.ptr (swN i j o) off
 | .cs o off=>.cs (swN i j o) off
 | .el o sz k off=>.el (swN i j o) sz k off
 | .buf o=>.buf (swN i j o)
 | .mp o=>.mp (swN i j o)
 | .np o=>.np (swN i j o)
 | .sd o=>.sd (swN i j o)
 | .vw o sz a n=>.vw (swN i j o) sz a n
 | .bufc o cp=>.bufc (swN i j o) cp
 | .fn f vs=>.fn f (swVs i j vs)
 | .agg vs=>.agg (swVs i j vs)
 | .tup vs=>.tup (swVs i j vs)
 | .nil=>.nil
 | .cnd t v=>.cnd t (swV i j v)
 | .raw v=>.raw v
 | .er v=>.er v
 | .top=>.top
def swVs (i j:Nat):List Va→List Va
 | []=>[]
 | v::vs=>swV i j v::swVs i j vs
end
def swO (i j:Nat):Ob→Ob
 | .cells T vs=>.cells T (swVs i j vs)
 | .it o cl seen=>.it (swN i j o) cl seen
 | .buf T sz rows=>.buf T sz rows
 | .fx T sz rows=>.fx T sz rows
 | .sb T bs=>.sb T bs
 | .mp ag es=>.mp ag es
 | .mpb ag es bs cl=>.mpb ag es bs cl
 | .gone=>.gone
def swE (i j:Nat):Env→Env
 | []=>[]
 | (m,v)::E=>(m,swV i j v)::swE i j E
def swL {A:Type} (i j:Nat) (l:List A):List A:=match l[i]?,l[j]? with
 | some x,some y=>(l.set i y).set j x
 | _,_=>l
def swOs (i j:Nat):List Ob→List Ob
 | []=>[]
 | x::H=>swO i j x::swOs i j H
def swH (i j:Nat) (H:List Ob):List Ob:=((swOs i j H).set i (obAt (swOs i j H) j)).set j (obAt (swOs i j H) i)
theorem swOs_map (i j:Nat) (H:List Ob):swOs i j H=H.map (swO i j):=by induction H <;> simp_all [swOs]
theorem swN_eq (i j o:Nat):swN i j o=if o=i then j else if o=j then i else o:=by
 unfold swN
 by_cases h1:o=i
 ·subst h1; simp
 ·rw [beq_false_of_ne h1,if_neg h1,cond_false]
  by_cases h2:o=j
  ·subst h2; simp
  ·rw [beq_false_of_ne h2,if_neg h2,cond_false]
theorem swN_swN (i j o:Nat):swN i j (swN i j o)=o:=by
 simp only [swN_eq]
 repeat' split
 all_goals omega
theorem swL_get {A:Type} {i j:Nat} {l:List A} (hi:i < l.length) (hj:j < l.length) (o:Nat):(swL i j l)[o]?=l[swN i j o]?:=by
 unfold swL
 rw [List.getElem?_eq_getElem hi,List.getElem?_eq_getElem hj]
 unfold swN
 by_cases h1:o=i
 ·subst h1
  by_cases h2:j=o
  ·subst h2; simp [hi]
  ·simp only [beq_self_eq_true,cond_true]
   rw [List.getElem?_set_ne h2,List.getElem?_set_self hi,List.getElem?_eq_getElem hj]
 ·rw [beq_false_of_ne h1]
  simp only [cond_false]
  by_cases h2:o=j
  ·subst h2
   simp only [beq_self_eq_true,cond_true]
   rw [List.getElem?_set_self (by simpa using hj),List.getElem?_eq_getElem hi]
  ·rw [beq_false_of_ne h2,cond_false,List.getElem?_set_ne (Ne.symm h2),List.getElem?_set_ne (Ne.symm h1)]
theorem obAt_get {o:Nat}:∀ {H:List Ob} {x:Ob},H[o]?=some x→obAt H o=x:=by
 induction o with
 | zero=>intro H x h; cases H <;> simp_all [obAt]
 | succ o ih=>intro H x h; cases H with
  | nil=>simp at h
  | cons y H=>simpa [obAt] using ih (by simpa using h)
theorem swH_eq {i j:Nat} {H:List Ob} (hi:i < H.length) (hj:j < H.length):swH i j H=swL i j (H.map (swO i j)):=by
 have h1:(H.map (swO i j))[i]?=some (swO i j H[i]):=by simp [hi]
 have h2:(H.map (swO i j))[j]?=some (swO i j H[j]):=by simp [hj]
 rw [swH,swOs_map,swL,h1,h2,obAt_get h1,obAt_get h2]
theorem swL_length {A:Type} {i j:Nat} {l:List A}:(swL i j l).length=l.length:=by
 unfold swL
 split <;> simp
theorem swN_lt {i j o n:Nat} (hi:n≤i) (hj:n≤j) (ho:o < n):swN i j o=o:=by
 unfold swN
 rw [beq_false_of_ne (by omega:o ≠ i),beq_false_of_ne (by omega:o ≠ j)]
 rfl
section
variable {K:Nat→Prop} {h:Array Obj} {G G':List Gh} {i j:Nat}
mutual
theorem swV_ok (hG:∀ (o:Nat) (g:Gh),G[o]?=some g→G'[swN i j o]?=some g):∀ (c:Value) (v:Va),VR K h G c v→VR K h G' c (swV i j v)
 | _,.p x,H=>by simpa only [swV,VR] using H
 | _,.nils,H=>by simpa only [swV,VR] using H
 | _,.full r,H=>by simpa only [swV,VR] using H
 | _,.rp r,H=>by simpa only [swV,VR] using H
 | _,.ptr o off,H=>by simp only [swV,VR] at *; obtain ⟨g,b,h1,h2⟩:=H; exact ⟨g,b,hG o g h1,h2⟩
 | _,.cs o off,H=>by simp only [swV,VR] at *; obtain ⟨g,b,h1,h2⟩:=H; exact ⟨g,b,hG o g h1,h2⟩
 | _,.el o sz k off,H=>by simp only [swV,VR] at *; obtain ⟨g,b,n,cap,h1,h2⟩:=H; exact ⟨g,b,n,cap,hG o g h1,h2⟩
 | _,.buf o,H=>by simp only [swV,VR] at *; obtain ⟨g,h1,h2⟩:=H; exact ⟨g,hG o g h1,h2⟩
 | _,.mp o,H=>by simp only [swV,VR] at *; obtain ⟨g,b,h1,h2⟩:=H; exact ⟨g,b,hG o g h1,h2⟩
 | _,.np o,H=>by
  simp only [swV,VR] at *
  rcases H with H | ⟨g,b,h1,h2⟩
  ·exact .inl H
  ·exact .inr ⟨g,b,hG o g h1,h2⟩
 | _,.sd o,H=>by simp only [swV,VR] at *; obtain ⟨g,a,n,cap,h1,h2⟩:=H; exact ⟨g,a,n,cap,hG o g h1,h2⟩
 | _,.vw o sz a n,H=>by simp only [swV,VR] at *; obtain ⟨g,ad,N,cap,h1,h2⟩:=H; exact ⟨g,ad,N,cap,hG o g h1,h2⟩
 | _,.bufc o cp,H=>by simp only [swV,VR] at *; obtain ⟨g,a,n,cap,h1,h2⟩:=H; exact ⟨g,a,n,cap,hG o g h1,h2⟩
 | _,.fn f vs,H=>by simp only [swV,VR] at *; obtain ⟨cs,h1,h2⟩:=H; exact ⟨cs,h1,swVs_ok hG cs vs h2⟩
 | _,.agg vs,H=>by simp only [swV,VR] at *; obtain ⟨cs,h1,h2⟩:=H; exact ⟨cs,h1,swVs_ok hG cs vs h2⟩
 | _,.tup vs,H=>by simp only [swV,VR] at *; obtain ⟨cs,h1,h2⟩:=H; exact ⟨cs,h1,swVs_ok hG cs vs h2⟩
 | _,.nil,H=>by simpa only [swV,VR] using H
 | _,.cnd t v,H=>by simp only [swV,VR] at *; exact ⟨fun e=>swV_ok hG _ v (H.1 e),H.2⟩
 | _,.raw v,H=>by simpa only [swV,VR] using H
 | _,.er v,H=>by simpa only [swV,VR] using H
 | _,.top,H=>by simp only [swV,VR]
theorem swVs_ok (hG:∀ (o:Nat) (g:Gh),G[o]?=some g→G'[swN i j o]?=some g):∀ (cs:List Value) (vs:List Va),VRs K h G cs vs→VRs K h G' cs (swVs i j vs)
 | _,[],H=>by simpa only [swVs,VRs] using H
 | _,v::vs,H=>by
  simp only [swVs,VRs] at *
  obtain ⟨c,cs',h1,h2,h3⟩:=H
  exact ⟨c,cs',h1,swV_ok hG c v h2,swVs_ok hG cs' vs h3⟩
end
theorem swO_ok (hG:∀ (o:Nat) (g:Gh),G[o]?=some g→G'[swN i j o]?=some g) {g:Gh} {x:Ob} (H:ObR K h G g x):ObR K h G' g (swO i j x):=by
 cases x with
 | cells T vs=>obtain ⟨b,cs,h1,h2,h3⟩:=H; exact ⟨b,cs,h1,h2,swVs_ok hG cs vs h3⟩
 | it o cl seen=>obtain ⟨b,bm,gm,h1,h2,h3⟩:=H; exact ⟨b,bm,gm,h1,hG o gm h2,h3⟩
 | _=>exact H
theorem swE_get {E:Env}:∀ {m:Nat},eget (swE i j E) m=swV i j (eget E m):=by
 intro m
 induction E with
 | nil=>rfl
 | cons p E ih =>
  obtain ⟨k,v⟩:=p
  simp only [swE,eget]
  split
  ·rfl
  ·exact ih
end
section
variable {P:Program} {kl:List Bool} {n:Nat} {B:Bs} {Q:Qt} {E:Env} {H:List Ob} {a:Act} {w:World}
theorem Rel.swap {i j:Nat} (hB:B.G0.length=kl.length) (hi:kl.length≤i) (hj:kl.length≤j) (hil:i < H.length) (hjl:j < H.length) (h:Rel (cx P kl n B) E H a w):Rel (cx P kl n B) (swE i j E) (swH i j H) a w:=by
 obtain ⟨K,G,hX,hS,hE,hd,hn,hk⟩:=h
 have hiG:i < G.length:=by rw [hS.len]; exact hil
 have hjG:j < G.length:=by rw [hS.len]; exact hjl
 have hg:=fun o=>swL_get hiG hjG o
 have hG:∀ (o:Nat) (g:Gh),G[o]?=some g→(swL i j G)[swN i j o]?=some g:=fun o g ho=>by rw [hg,swN_swN]; exact ho
 have hH:∀ o,(swH i j H)[o]?=(H[swN i j o]?).map (swO i j):=fun o=>by rw [swH_eq hil hjl,swL_get (by simpa using hil) (by simpa using hjl),List.getElem?_map]
 have hlt:∀ o,o < kl.length→swN i j o=o:=fun o ho=>swN_lt hi hj ho
 refine ⟨K,swL i j G,?_,?_,fun m=>?_,hd,hn,fun o ho=>?_⟩
 ·exact { hX with
   glen:=by rw [swL_length]; exact hX.glen
   gold:=fun o g0 g b h0 h1 hb=>by
    rw [hg,hlt o (by rw [← hB]; exact (List.getElem?_eq_some_iff.1 h0).1)] at h1
    exact hX.gold o g0 g b h0 h1 hb
   gnew:=fun o g b ho h1 hb=>by
    rw [hg] at h1
    refine hX.gnew (swN i j o) g b (Nat.le_of_not_lt fun hlo=>?_) h1 hb
    have h2:swN i j (swN i j o)=swN i j o:=hlt _ (by rw [← hB]; exact hlo)
    rw [swN_swN] at h2
    exact absurd ho (by have:B.G0.length=kl.length:=hB; rw [h2]; exact Nat.not_le_of_lt hlo)
   gsame:=fun o g0 ho h0=>by
    rw [hg,hlt o (by rw [← hB]; exact (List.getElem?_eq_some_iff.1 h0).1)]
    exact hX.gsame o g0 ho h0 }
 ·refine ⟨by rw [swL_length,swH_eq hil hjl,swL_length,List.length_map]; exact hS.len,hS.kb,fun o g b h1 h2=>hS.gb _ g b (by rw [← hg]; exact h1) h2,fun o o' g g' b h1 h2 h3 h4=>?_,fun o g x h1 h2=>?_,hS.tb⟩
  ·rw [hg] at h1 h2
   have:=hS.inj _ _ g g' b h1 h2 h3 h4
   rw [← swN_swN i j o,this,swN_swN]
  ·rw [hg] at h1
   rw [hH] at h2
   obtain ⟨y,hy,rfl⟩:=Option.map_eq_some_iff.1 h2
   exact swO_ok hG (hS.ob _ g y h1 hy)
 ·rw [swE_get]
  exact swV_ok hG _ _ (hE m)
 ·obtain ⟨x,hx,hkx⟩:=hk o ho
  refine ⟨swO i j x,by rw [hH,hlt o (kpf_lt ho),hx]; rfl,?_⟩
  cases x <;> exact hkx
theorem Wp.swap (i j:Nat) {c:Code} (hi:kl.length≤i) (hj:kl.length≤j) (hil:i < H.length) (hjl:j < H.length) (h:Wp P kl n B c Q (swE i j E) (swH i j H)):Wp P kl n B c Q E H:=fun hB a w hR=>h hB a w (Rel.swap hB hi hj hil hjl hR)
structure Lss (kl:List Bool) (K:Env→List Ob→Prop):Prop where
 weak:∀ E H E' H',Weak kl E H E' H'→K E' H'→K E H
 swap:∀ i j E H,kl.length≤i→kl.length≤j→i < H.length→j < H.length→K (swE i j E) (swH i j H)→K E H
theorem Wp.seqDS {id:Nat} {os:List Oper} {y:Code} (plan:Plan) (hm:P.follows .mixedOrders=true) (hl:plan.length=os.length) (hp:planB os.toArray plan [] (Array.replicate os.length false)=true)
  (h:∀ K:Env→List Ob→Prop,(∀ E H,Wp P kl n B y Q E H→K E H)→Lss kl K→RdEnd P kl n B os.toArray K (runD P kl n os plan ⟨[],E,H,True⟩)):Wp P kl n B (.seq (.region id os.toArray true) y) Q E H:=by
 intro hB a w hR
 refine wp_seq (wp_mono (Wp.regionDQ (Q:=thenQ (fun E H=>Wp P kl n B y Q E H) Q) plan hm hl hp (Dr.run (h _ (fun _ _ h=>h) ⟨fun E H E' H' hw hk=>Wp.weak hw hk,fun i j E H h1 h2 h3 h4 hk=>Wp.swap i j h1 h2 h3 h4 hk⟩)) hB a w hR) ?_)
 intro e a' w' ⟨E',H',hq,hR'⟩
 cases e <;> first | exact hq hB a' w' hR' | exact ⟨E',H',hq,hR'⟩
attribute [go_sem] swE swV swVs swH swO swOs swN
end
end Go.Vc
/- In a region that draws its order: calls that are lent data and hand back a new growing slice; what stands under a guard. -/
set_option linter.unusedSectionVars false
namespace Go.Vc
variable [Tabs]

def Dt.flat:Dt→Bool
 | .l _=>false
 | .a _=>false
 | _=>true
def flatR:List Dt→Bool
 | []=>true
 | d::ds=>d.flat && flatR ds
def flatRs (rows:List (List Dt)):Prop:=∀ r ∈ rows,flatR r=true
theorem flatRs_map {α:Type} {e:α→List Dt} (h:∀ x,flatR (e x)=true) (l:List α):flatRs (List.map e l):=fun r hr=>by
 obtain ⟨x,_,rfl⟩:=List.mem_map.1 hr
 exact h x
section
variable {K K':Nat→Prop} {h h':Array Obj}
theorem DR.flat {c:Value}:∀ {d:Dt},d.flat=true→DR K h c d→DR K' h' c d
 | .b _,_,hd=>by simpa only [DR] using hd
 | .i _ _,_,hd=>by simpa only [DR] using hd
 | .s _,_,hd=>by simpa only [DR] using hd
 | .l _,hf,_=>by simp [Dt.flat] at hf
 | .a _,hf,_=>by simp [Dt.flat] at hf
theorem DRs.flat:∀ {ds:List Dt} {vs:List Value},flatR ds=true→DRs K h vs ds→DRs K' h' vs ds
 | [],_,_,hd=>by simpa only [DRs] using hd
 | d::ds,vs,hf,hd=>by
  simp only [flatR,Bool.and_eq_true] at hf
  simp only [DRs] at *
  obtain ⟨v,vs',e,h1,h2⟩:=hd
  exact ⟨v,vs',e,DR.flat hf.1 h1,DRs.flat hf.2 h2⟩
theorem DRss.flat {sz:Nat}:∀ {rows:List (List Dt)} {vs:List Value},flatRs rows→DRss K h sz vs rows→DRss K' h' sz vs rows
 | [],_,_,hd=>by simpa only [DRss] using hd
 | r::rows,vs,hf,hd=>by
  simp only [DRss] at *
  obtain ⟨a,b,e,h1,h2,h3⟩:=hd
  exact ⟨a,b,e,h1,DRs.flat (hf r (by simp)) h2,DRss.flat (fun r' h'=>hf r' (by simp [h'])) h3⟩
end
theorem ObR.flatBuf {K K':Nat→Prop} {h:Array Obj} {G G':List Gh} {g:Gh} {T:TypeId} {sz:Nat} {rows:List (List Dt)} (hf:flatRs rows) (hx:ObR K h G g (.buf T sz rows)):ObR K' h G' g (.buf T sz rows):=by
 obtain ⟨h1,xs,h2,h3⟩:=hx
 exact ⟨h1,xs,DRss.flat hf h2,h3⟩
theorem St.push1 {K:Nat→Prop} {G:List Gh} {H:List Ob} {w:World} {g:Gh} {x:Ob} (hS:St K G H w) (hx:ObR K w.heap (G++[g]) g x)
  (hb:∀ b,g.blk=some b→b < w.heap.size∧¬ K b∧∀ (o:Nat) (g':Gh),G[o]?=some g'→g'.blk ≠ some b):St K (G++[g]) (H++[x]) w:=by
 have cs:∀ {o:Nat} {g':Gh},(G++[g])[o]?=some g'→(o < G.length∧G[o]?=some g') ∨ (o=G.length∧g'=g):=by
  intro o g' h
  rcases Nat.lt_or_ge o G.length with h1 | h1
  ·rw [List.getElem?_append_left h1] at h; exact .inl ⟨h1,h⟩
  ·rw [List.getElem?_append_right h1] at h
   rcases Nat.eq_zero_or_pos (o - G.length) with h2 | h2
   ·rw [h2] at h; simp at h; exact .inr ⟨by omega,h.symm⟩
   ·rw [List.getElem?_eq_none (by simp; omega)] at h; cases h
 refine ⟨by simp [hS.len],hS.kb,fun o g' b hg hgb=>?_,fun o o' g1 g2 b h1 h2 hb1 hb2=>?_,fun o g' y hg hy=>?_,hS.tb⟩
 ·rcases cs hg with ⟨_,h⟩ | ⟨_,rfl⟩
  ·exact hS.gb o g' b h hgb
  ·exact ⟨(hb b hgb).1,(hb b hgb).2.1⟩
 ·rcases cs h1 with ⟨_,e1⟩ | ⟨e1,rfl⟩ <;> rcases cs h2 with ⟨_,e2⟩ | ⟨e2,rfl⟩
  ·exact hS.inj o o' g1 g2 b e1 e2 hb1 hb2
  ·exact absurd hb1 ((hb b hb2).2.2 o g1 e1)
  ·exact absurd hb2 ((hb b hb1).2.2 o' g2 e2)
  ·omega
 ·rcases cs hg with ⟨hl,h⟩ | ⟨rfl,rfl⟩
  ·rw [List.getElem?_append_left (by rw [← hS.len]; exact hl)] at hy
   exact ObR.keep ⟨fun _ h=>h,fun _ _=>rfl⟩ (f:=fun _=>true) (fun q g0 _ hq=>by rw [List.getElem?_append_left (List.getElem?_eq_some_iff.1 hq).1]; exact hq) (fun _ _=>rfl) (Ob.all_true _) (hS.ob o g' y h hy)
  ·rw [hS.len,List.getElem?_append_right (Nat.le_refl _)] at hy
   simp at hy
   subst hy
   exact hx
section
variable {P:Program} {kl:List Bool} {n:Nat} {B:Bs} {K:Env→List Ob→Prop} {E:Env} {H:List Ob}
theorem callLN_wp {o:Oper} {c:Call} {fop:Operand} {f:FuncId} {caps args:List Va} {T:TypeId} {sz:Nat} {rows:List (List Dt)} (hs:Does P f args [] fun r X=>r=.buf 0∧X=[.buf T sz rows]) (hfl:flatRs rows) (ho:o.op=.call c) (hc:c.callee=.value fop)
  (hok:opOk true E fop∧allOk true E c.args.toList) (hf:opnd E fop=.fn f caps) (hp:lendVs H (opnds E c.args.toList++caps)=some args) {a:Act} {w:World} {Q:Exit→Act→World→Prop} {K':Act→World→Prop} (hR:Rel (cx P kl n B) E H a w)
  (hK:∀ c' w',RelV (cx P kl n B) E (H++[.buf T sz rows]) c' (.buf H.length) a w'→K' (a.put o.dst c') w'):o.wp P a w K' Q:=by
 obtain ⟨Kk,G,hX,hS,hE,hdf,hn,hkp⟩:=hR
 have hvf:=opnd_ok hE rfl fop hok.1
 rw [hf] at hvf
 simp only [VR] at hvf
 obtain ⟨cs,hcs,hcv⟩:=hvf
 have hargs:=opnds_ok hE rfl c.args.toList hok.2
 have hall:=lendVs_ok hS hp (hargs.append hcv)
 unfold Oper.wp
 rw [enter_run ho hc hcs hs.1]
 simp only [Oper.upon]
 refine (hs.2 (withG Kk G) [] w _ (St.nil (withG_lt hS) (hS.tb.mono ⟨fun _ h=>.inl h,fun _ _=>rfl⟩)) hall).mono ?_
 rintro e w' ⟨c',r,X',K1,G1,rfl,⟨rfl,rfl⟩,hX1,hS1,hv,_⟩
 have fr:∀ b,b < w.heap.size→w'.heap[b]?=w.heap[b]?:=fun b hb=>hX1.frame b hb (fun o g0 h=>by simp at h)
 have hA:=hS.after hX1
 simp only [VR] at hv
 obtain ⟨g,hg,rfl,hgo⟩:=hv
 have hgl:G1=[g]:=by
  have hl:=hS1.len
  match G1,hl,hg with
  | [g'],_,hg=>simp at hg; rw [hg]
 subst hgl
 have hbn:∀ b,g.blk=some b→w.heap.size≤b∧b < w'.heap.size:=fun b hb=>⟨hX1.gnew 0 g b (by simp) hg hb,(hS1.gb 0 g b hg hb).1⟩
 have hx:=hS1.ob 0 g (.buf T sz rows) hg rfl
 have hS2:St Kk (G++[g]) (H++[.buf T sz rows]) w':=hA.push1 (ObR.flatBuf hfl hx) fun b hb=>⟨(hbn b hb).2,fun hk=>by have:=hS.kb b hk; have:=(hbn b hb).1; omega,fun o' g' h' e=>by have:=(hS.gb o' g' b h' e).1; have:=(hbn b hb).1; omega⟩
 have hMg:Mg (fun _=>true) G (G++[g]):=fun q g0 _ hq=>by rw [List.getElem?_append_left (List.getElem?_eq_some_iff.1 hq).1]; exact hq
 have cs:∀ {o:Nat} {g':Gh},(G++[g])[o]?=some g'→(o < G.length∧G[o]?=some g') ∨ (o=G.length∧g'=g):=by
  intro o g' h
  rcases Nat.lt_or_ge o G.length with h1 | h1
  ·rw [List.getElem?_append_left h1] at h; exact .inl ⟨h1,h⟩
  ·rw [List.getElem?_append_right h1] at h
   rcases Nat.eq_zero_or_pos (o - G.length) with h2 | h2
   ·rw [h2] at h; simp at h; exact .inr ⟨by omega,h.symm⟩
   ·rw [List.getElem?_eq_none (by simp; omega)] at h; cases h
 have hX2:Ext (kpf kl) B.K0 B.G0 B.w0 Kk (G++[g]) w':=by
  refine hX.trans ⟨hX1.os,hX1.tape,hX1.output,hX1.size,fun _ h=>h,fun _ h=>.inl h,by simp,fun o' g0 g' b h0 h1 hb=>?_,fun o' g' b ho' h1 hb=>?_,fun o' g0 _ h0=>hMg o' g0 rfl h0,fun b hb _=>fr b hb⟩
  ·rcases cs h1 with ⟨_,h⟩ | ⟨h,rfl⟩
   ·rw [h0] at h; cases h; exact .inl hb
   ·have:=(List.getElem?_eq_some_iff.1 h0).1; omega
  ·rcases cs h1 with ⟨h,_⟩ | ⟨_,rfl⟩
   ·omega
   ·exact (hbn b hb).1
 refine hK g.sv w' ⟨Kk,G++[g],hX2,hS2,fun m=>VR.keep (f:=fun _=>true) ⟨fun _ h=>h,fun b hb=>fr b (hS.kb b hb)⟩ hMg _ _ (Va.all_true _) (hE m),hdf,hn,fun y hy=>?_,?_⟩
 ·obtain ⟨z,hz,hk⟩:=hkp y hy
  exact ⟨z,by rw [List.getElem?_append_left (List.getElem?_eq_some_iff.1 hz).1]; exact hz,hk⟩
 ·simp only [VR]
  exact ⟨g,by rw [← hS.len]; simp,rfl,hgo⟩
end
section
variable {P:Program} {kl:List Bool} {n:Nat} {B:Bs} {ops:List Oper} {K:Env→List Ob→Prop} {l:Plan} {obs:List En} {E:Env} {H:List Ob}
theorem Br.callLN {k:Nat} {L:List Nat} {f:FuncId} {av args:List Va} {o:Oper} {T:TypeId} {sz:Nat} {rows:List (List Dt)} (hs:Does P f args [] fun r X=>r=.buf 0∧X=[.buf T sz rows]) (hfl:flatRs rows) (hk:Is ops[k]? (some o)) (ha:Is (callArgsX E o) (some (f,av))) (hb:Is (guardX ops E o) (some true)) (hp:Is (lendVs H av) (some args)) (hok:callOk n true E o)
  (hag:againAll L none (H++[.buf T sz rows]) obs)
  (cont:RdEnd P kl n B ops.toArray K (runD P kl n ops l ⟨obs,eput E o.dst (wrapG o.guard true (.buf H.length)),H++[.buf T sz rows],True⟩)):Br P kl n B ops.toArray k L l obs E H K:=by
 unfold Is at *
 unfold callArgsX at ha
 split at ha
 rotate_left
 ·cases ha
 rename_i c h1
 split at ha
 rotate_left
 ·cases ha
 rename_i fop h3
 split at ha
 rotate_left
 ·cases ha
 rename_i f' caps h4
 cases ha
 obtain ⟨hd,hk1,hk2⟩:=callOk_spec hok h1 h3
 have h':=Dr.run cont
 simp only at h'
 rw [← dst_eq hk] at h'
 refine Br.eff (po:=none) (fun _=>?_) hag h'
 intro E' hE' a w Q K' hR hK
 have hop:=looks_op (getA hk) hE'
 rw [h1] at hop
 have hfo:rnd E fop=rnd E' fop:=hop fop (by simp [Op.operands,Call.operands,h3])
 have hag':Agree c.args.toList E E':=fun x hx=>hop x (by simp only [Op.operands,Call.operands,Array.toList_append,List.mem_append]; exact .inr hx)
 rw [Agree.opOk hfo] at hk1
 rw [Agree.allOk hag'] at hk2
 rw [Agree.opnd hfo] at h4
 rw [Agree.opnds hag'] at hp
 rw [dst_eq hk] at hK
 unfold wpOp
 simp only [getA hk]
 unfold guardX at hb
 cases hgd:o.guard with
 | none =>
  rw [hgd] at hb hK
  rw [if_pos (by simp [Region.wanted,hgd])]
  exact .inl (callLN_wp hs hfl h1 h3 ⟨hk1,hk2⟩ h4 hp hR fun c' w' hRV=>hK _ _ (hRV.put o.dst (dstOk_lt hd)))
 | some gw =>
  obtain ⟨j,want⟩:=gw
  rw [hgd] at hb hK
  have hb':guardB ops.toArray.toList E j want=some true:=by simpa using hb
  rw [← guardB_congr (getA hk) hgd hE'] at hb'
  have hw:=guardB_ok hR hgd hb'
  rw [if_pos hw]
  exact .inl (callLN_wp hs hfl h1 h3 ⟨hk1,hk2⟩ h4 hp hR fun c' w' hRV=>hK _ _ (RelV.put (v:=.cnd true _) (by
   obtain ⟨Kk,G,q1,q2,q3,q4,q5,q6,q7⟩:=hRV
   exact ⟨Kk,G,q1,q2,q3,q4,q5,q6,by simp only [VR]; exact ⟨fun _=>q7,fun e=>Bool.noConfusion e⟩⟩) o.dst (dstOk_lt hd)))
theorem Br.skipG {k:Nat} {L:List Nat} {o:Oper} {v:Va} {gw:Nat × Bool} (hk:Is ops[k]? (some o)) (hg:Is o.guard (some gw)) (hb:Is (guardX ops E o) (some false)) (hd:dstOk n o.dst)
  (cont:RdEnd P kl n B ops.toArray K (runD P kl n ops l ⟨obs,eput E o.dst (.cnd false v),H,True⟩)):Br P kl n B ops.toArray k L l obs E H K:=by
 unfold Is guardX at *
 obtain ⟨j,want⟩:=gw
 rw [hg] at hb
 have h':=Dr.run cont
 simp only at h'
 rw [← dst_eq hk] at h'
 exact Br.skip (fun _=>rdr_skip hk hg hb hd) h'
theorem Br.runT {k:Nat} {L:List Nat} {o:Oper} {gw:Nat × Bool} (hk:Is ops[k]? (some o)) (hg:Is o.guard (some gw)) (hb:Is (guardX ops E o) (some true)) (h:RdEnd P kl n B ops.toArray K (runD P kl n ops l (dEffG n o L (effP E o.op) ⟨obs,E,H,True⟩ (effV P (kpf kl) E H o.op)))):Br P kl n B ops.toArray k L l obs E H K:=by
 unfold Is guardX at *
 obtain ⟨j,want⟩:=gw
 rw [hg] at hb
 have hok:=(runD_prev h).2
 have h':=Dr.run h
 simp only [dEffG] at h'
 rw [← dst_eq hk] at h'
 exact Br.eff (fun _=>efr_okG (getA hk) hg (by simpa using hb) hok.1 hok.2.1) hok.2.2 h'
theorem Br.callEG {k:Nat} {L:List Nat} {f:FuncId} {av args:List Va} {X Y:List Ob} {o:Oper} {v:Va} (ids:List Nat) (hs:Does P f args X fun r X'=>r=v∧X'=Y) (hk:Is ops[k]? (some o)) (ha:Is (callArgsX E o) (some (f,av))) (hb:Is (guardX ops E o) (some true)) (hp:Is (rnAs ids av) (some args)) (hXs:Is (subH ids H ids) (some X)) (hids:idsOk H.length ids=true) (hok:callOk n true E o)
  (hag:againAll L (some (keepF ids H)) (setL (pruneH (keepF ids H) H) ids (bkOs ids H.length Y)) obs)
  (cont:RdEnd P kl n B ops.toArray K (runD P kl n ops l ⟨obs,eput (pruneE (keepF ids H) E) o.dst (wrapG o.guard true (bkV ids H.length v)),setL (pruneH (keepF ids H) H) ids (bkOs ids H.length Y),True⟩)):Br P kl n B ops.toArray k L l obs E H K:=by
 unfold Is at *
 unfold callArgsX at ha
 split at ha
 rotate_left
 ·cases ha
 rename_i c h1
 split at ha
 rotate_left
 ·cases ha
 rename_i fop h3
 split at ha
 rotate_left
 ·cases ha
 rename_i f' caps h4
 cases ha
 obtain ⟨hd,hk1,hk2⟩:=callOk_spec hok h1 h3
 have h':=Dr.run cont
 simp only at h'
 rw [← dst_eq hk] at h'
 refine Br.eff (po:=some (keepF ids H)) (fun _=>?_) hag h'
 intro E' hE' a w Q K' hR hK
 have hop:=looks_op (getA hk) hE'
 rw [h1] at hop
 have hfo:rnd E fop=rnd E' fop:=hop fop (by simp [Op.operands,Call.operands,h3])
 have hag':Agree c.args.toList E E':=fun x hx=>hop x (by simp only [Op.operands,Call.operands,Array.toList_append,List.mem_append]; exact .inr hx)
 rw [Agree.opOk hfo] at hk1
 rw [Agree.allOk hag'] at hk2
 rw [Agree.opnd hfo] at h4
 rw [Agree.opnds hag'] at hp
 rw [dst_eq hk] at hK
 unfold wpOp
 simp only [getA hk]
 unfold guardX at hb
 cases hgd:o.guard with
 | none =>
  rw [hgd] at hb hK
  rw [if_pos (by simp [Region.wanted,hgd])]
  refine .inl (callO_wp ids hs h1 h3 ⟨hk1,hk2⟩ h4 hp hXs hids hR fun c' r X' w' ⟨hr,hX⟩ _ hRV=>?_)
  subst hr; subst hX
  exact hK _ _ (hRV.put o.dst (dstOk_lt hd))
 | some gw =>
  obtain ⟨j,want⟩:=gw
  rw [hgd] at hb hK
  have hb':guardB ops.toArray.toList E j want=some true:=by simpa using hb
  rw [← guardB_congr (getA hk) hgd hE'] at hb'
  have hw:=guardB_ok hR hgd hb'
  rw [if_pos hw]
  refine .inl (callO_wp ids hs h1 h3 ⟨hk1,hk2⟩ h4 hp hXs hids hR fun c' r X' w' ⟨hr,hX⟩ _ hRV=>?_)
  subst hr; subst hX
  exact hK _ _ (RelV.put (v:=.cnd true _) (by
   obtain ⟨Kk,G,q1,q2,q3,q4,q5,q6,q7⟩:=hRV
   exact ⟨Kk,G,q1,q2,q3,q4,q5,q6,by simp only [VR]; exact ⟨fun _=>q7,fun e=>Bool.noConfusion e⟩⟩) o.dst (dstOk_lt hd))
end
attribute [go_sem] Option.toArray Array.toList_append
end Go.Vc
/- Sorts,out of the library's proved contracts: a growing slice of strings sorted in place; the keys of a map,sorted. -/
set_option linter.unusedSectionVars false
set_option linter.unusedVariables false
namespace Go.Vc
open Go.Proofs Go.Shelf
variable [Tabs]

section
variable {P:Program} {ρ:Ren}
theorem strs_row {K:Nat→Prop} {h:Array Obj}:∀ {l:List (List UInt8)} {xs:List Value},DRss K h 1 xs (l.map fun x=>[Dt.s x])→xs=l.map encStr∧∀ x ∈ l,x.length≤Lim
 | [],xs,H=>by simp only [List.map_nil,DRss] at H; subst H; exact ⟨rfl,by simp⟩
 | x::l,xs,H=>by
  simp only [List.map_cons,DRss] at H
  obtain ⟨a,b,rfl,_,h1,h2⟩:=H
  simp only [DRs,DR] at h1
  obtain ⟨v,vs',rfl,⟨rfl,h3⟩,rfl⟩:=h1
  obtain ⟨rfl,h4⟩:=strs_row h2
  refine ⟨rfl,fun y hy=>?_⟩
  rcases List.mem_cons.1 hy with rfl | hy
  ·exact h3
  ·exact h4 y hy
theorem strs_of {K:Nat→Prop} {h:Array Obj}:∀ {l:List (List UInt8)},(∀ x ∈ l,x.length≤Lim)→DRss K h 1 (l.map encStr) (l.map fun x=>[Dt.s x])
 | [],_=>by simp only [List.map_nil,DRss]
 | x::l,hl=>by
  simp only [List.map_cons,DRss,DRs,DR]
  exact ⟨[encStr x],l.map encStr,rfl,rfl,⟨_,[],rfl,⟨rfl,hl x (by simp)⟩,rfl⟩,strs_of fun y hy=>hl y (by simp [hy])⟩
theorem Does.sortS (L:SlLaysM.n6 P ρ) (hc:callable P (ρ.f 6)) (T:TypeId) (l:List (List UInt8)) :
  Does P (ρ.f 6) [.buf 0] [.fx T 1 (l.map fun x=>[.s x])] (fun r Y=>r=.tup []∧Y=[.fx T 1 ((Vc.sortS l).map fun x=>[.s x])]):=by
 refine ⟨hc,fun K G w vals hS hV=>?_⟩
 simp only [VRs,VR] at hV
 obtain ⟨c0,r0,rfl,⟨g,hg,rfl,a0,n0,cap0,hsv0⟩,rfl⟩:=hV
 obtain ⟨hlim,xs,hxs,hh⟩:=hS.ob 0 g _ hg rfl
 obtain ⟨rfl,hle⟩:=strs_row hxs
 simp only [List.length_map] at hlim hh
 have hg0:G.set 0 g=G:=by
  apply List.ext_getElem?
  intro i
  by_cases e:i=0
  ·subst e; rw [List.getElem?_set_self (List.getElem?_eq_some_iff.1 hg).1,hg]
  ·rw [List.getElem?_set_ne (Ne.symm e)]
 rcases hh with ⟨⟨a,h1⟩,h2,h3⟩ | ⟨b,cap,cur,fr,h1,h2,h3,h4,h5,h6,h7,h8⟩
 ·have hl0:l=[]:=by simpa using h2
  subst hl0
  rw [h1]
  refine (AnyM.slices_Sort_string_none L a 0 w).mono ?_
  rintro e w' ⟨rfl,rfl⟩
  refine ⟨.tuple #[],.tup [],_,K,G,rfl,⟨rfl,rfl⟩,Ext.refl _ _ _ _,by simpa [Vc.sortS] using hS,?_,by simpa [Vc.sortS] using kinds_ok [.fx T 1 (([]:List (List UInt8)).map fun x=>[Dt.s x])]⟩
  simp only [VR,VRs]; exact ⟨[],rfl,rfl⟩
 ·have hb:b < w.heap.size:=(Array.getElem?_eq_some_iff.1 h3).1
  have hcs:cur.size=cap:=by simpa using h7
  have hcell:∀ j,j < l.length→cur[j]?=some (encStr l[j]!):=by
   intro j hj
   have:(cur.toList.take (l.length * 1))[j]?=(l.map encStr)[j]?:=by rw [h8]
   rw [List.getElem?_take,if_pos (by omega),Array.getElem?_toList,List.getElem?_map,List.getElem?_eq_getElem hj] at this
   rw [this]
   simp [hj]
  have hH:Sort.Holds encStr w b 0 l.toArray:=by
   intro j hj
   have hj':j < l.length:=by simpa using hj
   refine ⟨?_,?_⟩
   ·rw [Nat.zero_add,cell_of_row w b j cur T fr h3,hcell j hj']
    simp
   ·have:=h4.out j (by omega)
    obtain ⟨f1,f2⟩:=fr
    simp only [World.frozen?,h3,Nat.zero_add] at this ⊢
    simpa using this
  rw [h1]
  refine (AnyM.slices_Sort_string L b 0 cap l w hH hb (by simp only [Lim] at hlim; omega)).mono ?_
  rintro e w' ⟨rfl,nn,os,rfl⟩
  have hsl:=sortS_length l
  have hget:∀ i,i < w.heap.size→(Sort.grow (Sort.putRow encStr (Sort.ahead w nn) b 0 (Vc.sortS l).toArray) os).heap[i]?=if b=i then (w.heap[i]?).map (Sort.onCells (Sort.putCells encStr 0 (Vc.sortS l).toArray)) else w.heap[i]?:=by
   intro i hi
   show (((w.heap.modify b (Sort.onCells (Sort.putCells encStr 0 (Vc.sortS l).toArray)))++os):Array Obj)[i]?=_
   rw [Array.getElem?_append_left (by simpa using hi),Array.getElem?_modify]
  have hput:(Sort.grow (Sort.putRow encStr (Sort.ahead w nn) b 0 (Vc.sortS l).toArray) os).heap[b]?=some (.cells (Sort.putCells encStr 0 (Vc.sortS l).toArray cur) T fr):=by
   rw [hget b hb,if_pos rfl,h3]; rfl
  have hfr:∀ i,i < w.heap.size→g.blk ≠ some i→(Sort.grow (Sort.putRow encStr (Sort.ahead w nn) b 0 (Vc.sortS l).toArray) os).heap[i]?=w.heap[i]?:=by
   intro i hi hib
   rw [hget i hi,if_neg (fun e=>hib (by rw [h2,e]))]
  have hsz:w.heap.size≤(Sort.grow (Sort.putRow encStr (Sort.ahead w nn) b 0 (Vc.sortS l).toArray) os).heap.size:=by
   show w.heap.size≤((w.heap.modify b _)++os:Array Obj).size
   simp
  have hpc:(Sort.putCells encStr 0 (Vc.sortS l).toArray cur).size=cur.size:=by simp [Sort.putCells]
  have htake:(Sort.putCells encStr 0 (Vc.sortS l).toArray cur).toList.take ((Vc.sortS l).length * 1)=(Vc.sortS l).map encStr:=by
   apply List.ext_getElem?
   intro i
   rw [List.getElem?_take,List.getElem?_map]
   by_cases hi:i < (Vc.sortS l).length
   ·rw [if_pos (by omega),Array.getElem?_toList]
    have:i < cur.size:=by omega
    simp [Sort.putCells,this,hi]
   ·rw [if_neg (by omega),List.getElem?_eq_none (by omega)]
    rfl
  have hx:ObR K (Sort.grow (Sort.putRow encStr (Sort.ahead w nn) b 0 (Vc.sortS l).toArray) os).heap (G.set 0 g) g (.fx T 1 ((Vc.sortS l).map fun x=>[.s x])):=by
   refine ⟨by simpa [hsl] using hlim,_,strs_of (fun x hx=>hle x (by simpa [Vc.sortS] using hx)),.inr ⟨b,cap,_,fr,by rw [h1]; simp [hsl],h2,hput,by rw [hpc]; exact h4,by simpa [hsl] using h5,h6,by rw [hpc]; exact h7,by simpa using htake⟩⟩
  have s1:=hS.modB hg (g1:=g) hsz hfr (fun i hi=>⟨by have:=(hS.gb 0 g i hg hi).1; omega,.inl hi⟩) hx
  rw [hg0] at s1
  refine ⟨.tuple #[],.tup [],_,K,G,rfl,⟨rfl,rfl⟩,?_,s1,?_,fun o ho=>?_⟩
  ·have e1:=Ext.modB (K:=K) (w:=w) (kp:=fun _=>false) (w':=Sort.grow (Sort.putRow encStr (Sort.ahead w nn) b 0 (Vc.sortS l).toArray) os) hg rfl rfl rfl rfl hsz hfr (g1:=g) (fun i hi=>.inl hi)
   rw [hg0] at e1
   exact { e1 with gsame:=fun _ _ _ h0=>h0 }
  ·simp only [VR,VRs]; exact ⟨[],rfl,rfl⟩
  ·cases o with
   | zero=>exact ⟨_,rfl,rfl⟩
   | succ o=>simp [kinds,kpf] at ho

theorem Does.sortedKeys {ρ':Ren} (L:SlLaysZ.n6 P ρ) (L10:SlLaysZ.n10 P ρ') (hc:callable P (ρ.f 6)) (hsorts:∀ m,AnyZ.SortsIn P ρ Fence.wide m) (e9:∀ args w,(callFunc (ρ.f 9) args).run P w=.ok (.enter (ρ.f 9) args) w) (eg:∀ args w,(callFunc (ρ'.f 10) args).run P w=.ok (.enter (ρ'.f 10) args) w)
  (ht:ρ'.t 26=ρ.t 26) {V:Type} (M:TypeId) (ag:Bool) (e:V→List Dt) (l:List (List UInt8 × V)) :
  Does P (ρ.f 6) [.fn (ρ'.f 10) [.ptr 0 0]] [.cells M [.mp 1],.mp ag (encM Dt.s e l)] (fun r Y=>r=.p (.l ((Vc.sortS (l.map (·.1))).map fun x=>[.s x]))∧Y=[.cells M [.mp 1],.mp ag (encM Dt.s e l)]):=by
 refine ⟨hc,fun K G w vals hS hV=>?_⟩
 simp only [VRs,VR] at hV
 obtain ⟨c0,r0,rfl,⟨cs,rfl,c1,r1,rfl,⟨g0,b0,hg0,hb0,rfl⟩,rfl⟩,rfl⟩:=hV
 obtain ⟨b0',cc,q1,q2,q3⟩:=hS.ob 0 g0 _ hg0 rfl
 obtain rfl:b0=b0':=Option.some.inj (hb0.symm.trans q1)
 simp only [VRs,VR] at q3
 obtain ⟨c2,r2,rfl,⟨g1,b1,hg1,hb1,rfl⟩,rfl⟩:=q3
 obtain ⟨hlim,b1',mes,clock,p1,p2,p3,p4⟩:=hS.ob 1 g1 _ hg1 rfl
 obtain rfl:b1=b1':=Option.some.inj (hb1.symm.trans p1)
 have hst:=P.underlying (ρ'.t 26)
 have hk:P.underlying (ρ'.t 26)=some .string:=L10.t26
 -- how the entries read
 let R:Value→Option (DataW Unit × List MemPlace):=fun _=>some (.lit (.bool true),[])
 have hent:∀ (ms:List MapEntry) (ll:List (List UInt8 × V)),MRs K w.heap ag ms (encM Dt.s e ll)→(∀ x ∈ ms,∃ y,WideElems.rd P (ρ'.t 26) R x=some y)∧(ms.map (WideElems.rg P (ρ'.t 26) R)).map (fun p=>Go.strOf p.1)=ll.map (·.1)∧(∀ y ∈ ll,y.1.length≤Lim):=by
  intro ms
  induction ms with
  | nil=>intro ll h; cases ll with
   | nil=>simp
   | cons y ll=>simp [encM,MRs] at h
  | cons x ms ih=>intro ll h; cases ll with
   | nil=>simp [encM,MRs] at h
   | cons y ll =>
    simp only [encM,List.map_cons,MRs] at h
    obtain ⟨h1,h2,h3⟩:=h
    obtain ⟨i1,i2,i3⟩:=ih ll h3
    simp only [KR,DR] at h1
    have hrd:WideElems.rd P (ρ'.t 26) R x=some (.string y.1,.lit (.bool true)):=by
     have hl:y.1.length≤maxLen:=by have:=h1.2; simp only [Lim,maxLen] at *; omega
     unfold WideElems.rd
     rw [h1.1,WideMaps.keyOf_string_mk hk (by simpa [ByteArray.size] using hl)]
     simp [R]
    refine ⟨fun z hz=>?_,?_,fun z hz=>?_⟩
    ·rcases List.mem_cons.1 hz with rfl | hz
     ·exact ⟨_,hrd⟩
     ·exact i1 z hz
    ·simp only [List.map_cons,i2,WideElems.rg_of hrd]
     rfl
    ·rcases List.mem_cons.1 hz with rfl | hz
     ·exact h1.2
     ·exact i3 z hz
 obtain ⟨hrd,hkeys,hkl⟩:=hent mes.toList l p3
 have hlen:mes.size=l.length:=by have:=p3.length; simpa [encM] using this
 have hlim':mes.size≤Lim:=by rw [hlen]; simpa [encM] using hlim
 let D0:DataW Unit:=.map ((mes.toList.map (WideElems.rg P (ρ'.t 26) R)).foldr DataW.insert [])
 have hown:w.ownsMap P (ρ'.t 26) R b1 mes.size D0:=⟨mes,clock,p2,⟨by simp only [Lim,maxLen] at *; omega,p4,hrd⟩,Nat.le_refl _,rfl⟩
 have hperm:(strKeys D0).Perm (l.map (·.1)):=by
  show (((mes.toList.map (WideElems.rg P (ρ'.t 26) R)).foldr DataW.insert []).map fun p=>Go.strOf p.1).Perm _
  rw [← hkeys]
  exact (WideShapes.sorted_perm _).map _
 have hsz0:Maps.size D0=mes.size:=by
  show ((mes.toList.map (WideElems.rg P (ρ'.t 26) R)).foldr DataW.insert []).length=_
  rw [(WideShapes.sorted_perm _).length_eq]
  simp
 have hb0lt:b0 < w.heap.size:=(Array.getElem?_eq_some_iff.1 q2).1
 have hseq:SeqGives Fence.wide 2 P (ρ'.f 10) #[.pointer (some ⟨b0,0,none⟩)] encStr (fun ss=>ss.Perm (strKeys D0)) (Maps.size D0) w :=
  AnyZ.keys_gives (ρ:=ρ') L10 Fence.wide _ trivial rfl (by omega) b0 b1 mes.size D0 w hb0lt (by rw [cell_of_row w b0 0 _ M (0,0) q2]; rfl) hown
 have hmain:=AnyZ.sorted_in L Fence.wide 5 trivial trivial trivial trivial rfl (by omega) (hsorts _) e9 (ρ'.f 10) #[.pointer (some ⟨b0,0,none⟩)] trivial eg _ (Maps.size D0) (by rw [hsz0]; simp only [Lim,maxLen] at *; omega) (by rw [hsz0]; simp only [Lim] at *; omega) w hseq
 refine ((callsIn_wide (n:=5)).1 hmain).mono ?_
 rintro ee w' ⟨v,ss,rfl,hss,hrow,hnil,hB⟩
 have hsort:ss.mergeSort (fun x y=>decide (x≤y))=Vc.sortS (l.map (·.1)):=mergeSort_of_perm (hss.trans hperm)
 have hsl:ss.length=(Vc.sortS (l.map (·.1))).length:=by rw [← hsort]; simp
 rw [hsort] at hrow
 have hstr:∀ x ∈ Vc.sortS (l.map (·.1)),x.length≤Lim:=fun x hx=>by
  have:x ∈ l.map (·.1):=by simpa [Vc.sortS] using hx
  obtain ⟨y,hy,rfl⟩:=List.mem_map.1 this
  exact hkl y hy
 have hfr:∀ k,k < w.heap.size→w'.heap[k]?=w.heap[k]?:=hB.block
 obtain ⟨hrl,hrow⟩:=hrow
 -- the result's block is new
 let K':Nat→Prop:=fun b=>K b ∨ ∃ a n c,v=.slice (some a) n c∧a.block=b
 have hnew:∀ b,K' b→K b ∨ (w.heap.size≤b∧b < w'.heap.size):=by
  intro b hb
  rcases hb with hb | ⟨a,nn,c,hv,rfl⟩
  ·exact .inl hb
  ·rcases hrow with ⟨hv',_⟩ | ⟨g,cap,cur,hv',h1,h2,_⟩
   ·rw [hv] at hv'; cases hv'
   ·rw [hv] at hv'; cases hv'
    exact .inr ⟨h1,(Array.getElem?_eq_some_iff.1 h2).1⟩
 have hMn:Mn K K' w.heap w'.heap:=⟨fun _ h=>.inl h,fun b hb=>hfr b (hS.kb b hb)⟩
 refine ⟨v,_,_,K',G,rfl,⟨rfl,rfl⟩,{ Ext.refl (kpf (kinds [.cells M [.mp 1],.mp ag (encM Dt.s e l)])) K G w with os:=hB.os,tape:=hB.tape,output:=hB.output,size:=hB.size,k:=fun _ h=>.inl h,knew:=fun b hb=>(hnew b hb).imp id (·.1),frame:=fun b hb _=>hfr b hb },⟨hS.len,fun b hb=>?_,fun i g b hg hb=>?_,hS.inj,fun i g y hg hy=>?_,hS.tb.mono hMn⟩,?_,kinds_ok _⟩
 ·rcases hnew b hb with h | h
  ·exact Nat.lt_of_lt_of_le (hS.kb b h) hB.size
  ·exact h.2
 ·have h1:=hS.gb i g b hg hb
  refine ⟨Nat.lt_of_lt_of_le h1.1 hB.size,fun hk=>?_⟩
  rcases hnew b hk with h | h
  ·exact h1.2 h
  ·omega
 ·exact ObR.keep hMn (Mg.refl (fun _=>true) G) (fun b hb=>hfr b (hS.gb i g b hg hb).1) (Ob.all_true _) (hS.ob i g y hg hy)
 ·simp only [VR,DR]
  rcases hrow with ⟨hv,h0⟩ | ⟨g,cap,cur,hv,h1,h2,h3,h4,h5,h6⟩
  ·refine .inl ⟨⟨none,hv⟩,?_⟩
   have:(Vc.sortS (l.map (·.1)))=[]:=List.length_eq_zero_iff.1 (by omega)
   rw [this]; rfl
  ·refine .inr ⟨g,0,cap,cur,_,(0,0),1,(Vc.sortS (l.map (·.1))).map encStr,by rw [hv,List.length_map,hsl],.inr ⟨_,_,_,hv,rfl⟩,h2,by rw [List.length_map,← hsl]; exact h3,?_,fun j x hj=>?_,strs_of hstr⟩
   ·rw [List.length_map,sortS_length,List.length_map]; omega
   ·rw [← h6,List.getElem?_take] at hj
    split at hj
    ·rw [Nat.zero_add,← Array.getElem?_toList]; exact hj
    ·cases hj
end
end Go.Vc
/- Functions that put another object in the place of one of the caller's: what they do,how their walk shows it,how a call uses it. -/
set_option linter.unusedSectionVars false
namespace Go.Vc
variable [Tabs]
def hasN:List Nat→Nat→Bool
 | [],_=>false
 | x::l,i=>bif i == x then true else hasN l i
def maskK (ch:List Nat):Nat→List Bool→List Bool
 | _,[]=>[]
 | i,b::l=>(b && !hasN ch i)::maskK ch (i+1) l
theorem maskK_length (ch:List Nat):∀ (i:Nat) (l:List Bool),(maskK ch i l).length=l.length
 | _,[]=>rfl
 | i,b::l=>by simp [maskK,maskK_length ch (i+1) l]
theorem maskK_get (ch:List Nat):∀ (i:Nat) (l:List Bool) (o:Nat),kpf (maskK ch i l) o=(kpf l o && !hasN ch (i+o))
 | _,[],o=>by simp [maskK,kpf]
 | i,b::l,0=>by simp [maskK,kpf]
 | i,b::l,o+1=>by simp only [maskK,kpf]; rw [maskK_get ch (i+1) l o,show i+1+o=i+(o+1) by omega]
theorem maskK_kp {ch:List Nat} {X:List Ob}:kpOk (kpf (maskK ch 0 (kinds X))) X:=fun o h=>by
 rw [maskK_get,Bool.and_eq_true] at h
 exact kinds_ok X o h.1
def DoesC (P:Program) (f:FuncId) (args:List Va) (X:List Ob) (ch:List Nat) (Post:Va→List Ob→Prop):Prop :=
 callable P f∧∀ K G w vals,St K G X w→VRs K w.heap G vals args →
  Calls P f vals.toArray w fun e w'=>∃ c r X' K' G',e=.returned c∧Post r X'∧Ext (kpf (maskK ch 0 (kinds X))) K G w K' G' w'∧St K' G' X' w'∧VR K' w'.heap G' c r∧kpOk (kpf (maskK ch 0 (kinds X))) X'
theorem DoesC.of_wp {P:Program} {f:FuncId} {fn:Func} {code:Code} {args:List Va} {X:List Ob} {Post:Va→List Ob→Prop} (ch:List Nat) (m n:Nat) (rs:List ResultVar) (hf:P.funcs[f]?=some fn) (hb:fn.body=some code) (hnm:(fn.name == "runtime.NumGoroutine")=false) (hn:fn.ntmps=n) (hrs:fn.results.toList=rs) (hl:args.length≤n)
  (h:∀ B,Wp P (maskK ch 0 (kinds X)) n B code (retQ P rs m (maskK ch 0 (kinds X)) Post) (envOf 0 args) X):DoesC P f args X ch Post:=by
 subst hn
 subst hrs
 refine ⟨⟨fn,hf,hnm,by rw [hb]; rfl⟩,fun K G w vals hS hV=>?_⟩
 have hvl:=hV.length
 refine calls_of_wp hf hb ?_
 have hB:G.length=(maskK ch 0 (kinds X)).length:=by rw [maskK_length,kinds_length,hS.len]
 have hR:Rel (cx P (maskK ch 0 (kinds X)) fn.ntmps ⟨K,G,w⟩) (envOf 0 args) X { tmps:=vals.toArray++Array.replicate (fn.ntmps - vals.toArray.size) undef,defers:=[] } w:=by
  refine ⟨K,G,Ext.refl _ _ _ _,hS,fun j=>?_,rfl,by simp; omega,maskK_kp⟩
  have:=get_envOf (K:=K) (h:=w.heap) (G:=G) 0 j hV
  simp only [Nat.zero_le,if_true,Nat.sub_zero] at this
  have e:(vals.toArray++Array.replicate (fn.ntmps - vals.toArray.size) undef).getD j undef=vals.getD j undef:=by
   rw [Array.getD_eq_getD_getElem?,List.getD_eq_getElem?_getD,Array.getElem?_append]
   split
   ·simp
   ·rename_i hj
    rw [List.getElem?_eq_none (by simpa using hj),Array.getElem?_replicate]
    split <;> rfl
  rw [e]; exact this
 refine wp_mono (h ⟨K,G,w⟩ hB _ _ hR) ?_
 intro e a w' ⟨E,H,hq,hR'⟩
 have fin:RetOk P fn.results.toList m (maskK ch 0 (kinds X)) Post E H→a.defers=[]∧∃ v,(results fn a.tmps).run P w'=.ok v w'∧∃ c r X' K' G',Ending.returned v=.returned c∧Post r X'∧Ext (kpf (maskK ch 0 (kinds X))) K G w K' G' w'∧St K' G' X' w'∧VR K' w'.heap G' c r∧kpOk (kpf (maskK ch 0 (kinds X))) X':=by
  intro hq
  obtain ⟨h1,h2,h3,h4,h5,r,X',h6,h7,h8,h9,h10,h11⟩:=hq
  obtain ⟨K1,G1,hX,hS1,hE,hd,_,hk⟩:=hR'
  obtain ⟨c,hc,hv⟩:=resV_ok (P:=P) hS1 hE h1
  have hmk:G.length≤m:=by rw [hB]; exact h2
  have hMg:Mg (fun o=>decide (o < m)) G1 (G1.take m):=fun o g ho hg=>by rw [List.getElem?_take,if_pos (by simpa using ho)]; exact hg
  have hv2:VR (frozenB K1 G1 H m) w'.heap (G1.take m) c (outV m H (resV P E H fn.results.toList).v):=VR.keep ⟨fun _ h=>h,fun _ _=>rfl⟩ hMg _ _ h4 (outV_ok hS1 m hv)
  have hS2:=hS1.out h5
  have hS3:=hS2.cut h7 (by rw [h8]; exact h10)
  rw [h8,List.take_take,Nat.min_self] at hS3
  refine ⟨hd,c,hc,c,r,X',frozenB K1 G1 H m,G1.take m,rfl,h11,hX.out hmk,hS3,leV_ok h6 hv2,fun o ho=>?_⟩
  obtain ⟨vs,hvs,hkt⟩:=hk o ho
  have hom:o < m:=Nat.lt_of_lt_of_le (kpf_lt ho) h2
  obtain ⟨x,hx,hle⟩:=leH_get h7 o _ (List.getElem?_eq_getElem (by rw [h8]; exact hom))
  obtain ⟨x0,hx0,rfl⟩:=outH_get m H hx
  rw [List.getElem?_take,if_pos hom,hvs] at hx0
  cases hx0
  exact ⟨_,List.getElem?_eq_getElem (by rw [h8]; exact hom),leO_kept hle (by cases vs <;> first | rfl | cases hkt)⟩
 cases e with
 | normal=>exact fin hq
 | ret=>exact fin hq
 | exit id=>exact hq.elim
 | goto l=>exact hq.elim
 | panic ch=>exact hq.elim
 | outgrown=>exact hq.elim

section
variable {P:Program} {kl:List Bool} {n:Nat} {B:Bs} {K:Env→List Ob→Prop} {E:Env} {H:List Ob} {ops:Array Oper}
theorem callC_wp {o:Oper} {c:Call} {fop:Operand} {f:FuncId} {caps args:List Va} {X:List Ob} {Post:Va→List Ob→Prop} (ids ch:List Nat) (fK:Nat→Bool) (hs:DoesC P f args X ch Post) (hf1:∀ j i:Nat,ids[j]?=some i→fK i=true→kpf (maskK ch 0 (kinds X)) j=true) (hf2:∀ o,kpf kl o=true→fK o=true) (e1:o.op=.call c) (e3:c.callee=.value fop) (hk:opOk true E fop∧allOk true E c.args.toList) (e4:opnd E fop=.fn f caps)
  (hp:rnAs ids (opnds E c.args.toList++caps)=some args) (hXs:subH ids H ids=some X) (hids:idsOk H.length ids=true) {a:Act} {w:World} {Q:Exit→Act→World→Prop} {K':Act→World→Prop} (hR:Rel (cx P kl n B) E H a w)
  (hK':∀ c' r X' w',Post r X'→r.ok→RelV (cx P kl n B) (pruneE fK E) (setL (pruneH fK H) ids (bkOs ids H.length X')) c' (bkV ids H.length r) a w'→K' (a.put o.dst c') w'):o.wp P a w K' Q:=by
 obtain ⟨Kk,G,hX,hS,hE,hdf,hn,hkp⟩:=hR
 have hvf:=opnd_ok hE rfl fop hk.1
 rw [e4] at hvf
 simp only [VR] at hvf
 obtain ⟨cs,hcs,hcv⟩:=hvf
 have hargs:=opnds_ok hE rfl c.args.toList hk.2
 obtain ⟨hnd,hlt⟩:=idsOk_spec hids
 obtain ⟨hXl,hXg⟩:=subH_get hXs
 -- the ghosts that are handed over
 have hGl:∀ i ∈ ids,i < G.length:=fun i hi=>by rw [hS.len]; exact hlt i hi
 obtain ⟨Gs,hGsl,hGs⟩:∃ Gs:List Gh,Gs.length=ids.length∧∀ (j i:Nat),ids[j]?=some i→Gs[j]?=G[i]?:=by
  refine ⟨ids.map fun i=>G.getD i ⟨none,undef⟩,by simp,fun j i hj=>?_⟩
  have:=hGl i (List.mem_of_getElem? hj)
  simp [hj,List.getElem?_eq_getElem this]
 have inv:∀ {j:Nat} {g:Gh},Gs[j]?=some g→∃ i,ids[j]?=some i∧G[i]?=some g:=by
  intro j g hg
  have hj:=(List.getElem?_eq_some_iff.1 hg).1
  rw [hGsl] at hj
  exact ⟨ids[j],List.getElem?_eq_getElem hj,by rw [← hGs j _ (List.getElem?_eq_getElem hj)]; exact hg⟩
 have hSs:St Kk Gs X w:=by
  refine ⟨by rw [hGsl,hXl],hS.kb,fun j g b hg hb=>?_,fun j j' g g' b hg hg' hb hb'=>?_,fun j g x hg hx=>?_,hS.tb⟩
  ·obtain ⟨i,_,hi⟩:=inv hg
   exact hS.gb i g b hi hb
  ·obtain ⟨i,hij,hi⟩:=inv hg
   obtain ⟨i',hij',hi'⟩:=inv hg'
   obtain rfl:=hS.inj i i' g g' b hi hi' hb hb'
   exact (List.getElem?_inj (List.getElem?_eq_some_iff.1 hij).1 hnd).1 (hij.trans hij'.symm)
  ·obtain ⟨i,hij,hi⟩:=inv hg
   obtain ⟨x',hx',hrn⟩:=hXg j i hij
   rw [hx] at hx'; cases hx'
   have hil:=hlt i (List.mem_of_getElem? hij)
   have hoi:H[i]?=some (obAt H i) ∨ obAt H i=.gone:=by
    rcases Classical.em (obAt H i=.gone) with e | e
    ·exact .inr e
    ·exact .inl (obAt_some rfl e)
   rcases hoi with hoi | hoi
   ·exact rnO_ok (fun j o h=>hGs j o h) hrn (hS.ob i g _ hi hoi)
   ·rw [hoi] at hrn; simp only [rnO] at hrn; cases hrn; trivial
 have hall:=rnAs_ok (fun j o h=>hGs j o h) hp (hargs.append hcv)
 unfold Oper.wp
 rw [enter_run e1 e3 hcs hs.1]
 simp only [Oper.upon]
 refine (hs.2 Kk Gs w _ hSs hall).mono ?_
 rintro e w' ⟨c',r,X',K1,G1,rfl,hpost,hX1,hS1,hv,hkp1⟩
 have hGl1:ids.length≤G1.length:=by rw [← hGsl]; exact hX1.glen
 have hXl1:ids.length≤X'.length:=by rw [← hS1.len]; exact hGl1
 let G2:=setL G ids G1
 -- how the ghosts lie in the new list
 have g2new:∀ (j:Nat) (g:Gh),G1[j]?=some g→G2[bkI ids H.length j]?=some g:=by
  intro j g hg
  rcases Nat.lt_or_ge j ids.length with h | h
  ·rw [bkI_lt (List.getElem?_eq_getElem h)]
   show (setL G ids G1)[_]?=_
   rw [setL_hit hnd hGl hGl1 (List.getElem?_eq_getElem h)]
   exact hg
  ·rw [bkI_ge h,← hS.len]
   show (setL G ids G1)[_]?=_
   rw [setL_new h]
   exact hg
 have g2cases:∀ {o:Nat} {g:Gh},G2[o]?=some g→(∃ j:Nat,ids[j]?=some o∧G1[j]?=some g) ∨ (o ∉ ids∧o < G.length∧G[o]?=some g) ∨ (∃ j:Nat,ids.length≤j∧o=G.length+(j - ids.length)∧G1[j]?=some g):=fun h=>setL_cases hnd hGl hGl1 h
 have old:∀ {j i:Nat} {g:Gh} {b:Nat},ids[j]?=some i→G1[j]?=some g→g.blk=some b→(∃ g0,G[i]?=some g0∧g0.blk=some b) ∨ w.heap.size≤b:=by
  intro j i g b hj hg hb
  have hjl:=(List.getElem?_eq_some_iff.1 hj).1
  have hgs:Gs[j]?=some Gs[j]:=List.getElem?_eq_getElem (by rw [hGsl]; exact hjl)
  rcases hX1.gold j _ g b hgs hg hb with h | h
  ·exact .inl ⟨_,by rw [← hGs j i hj]; exact hgs,h⟩
  ·exact .inr h
 have fr:∀ b,b < w.heap.size→(∀ (o:Nat) (g:Gh),o ∈ ids→G[o]?=some g→g.blk ≠ some b)→w'.heap[b]?=w.heap[b]?:=fun b hb hn=>hX1.frame b hb fun j g hg=>by
  obtain ⟨i,hij,hi⟩:=inv hg
  exact hn i g (List.mem_of_getElem? hij) hi
 have hMk:Mn Kk K1 w.heap w'.heap:=⟨hX1.k,fun b hb=>fr b (hS.kb b hb) fun o g _ hg e=>(hS.gb o g b hg e).2 hb⟩
 have same:∀ {j i:Nat},ids[j]?=some i→fK i=true→G1[j]?=G[i]?:=by
  intro j i hj hkt
  have hk:kpf (maskK ch 0 (kinds X)) j=true:=hf1 j i hj hkt
  have hjl:=(List.getElem?_eq_some_iff.1 hj).1
  have hgs:Gs[j]?=some Gs[j]:=List.getElem?_eq_getElem (by rw [hGsl]; exact hjl)
  rw [hX1.gsame j _ hk hgs,← hGs j i hj,hgs]
 have hMg:Mg fK G G2:=by
  intro o g ho hg
  have hol:=(List.getElem?_eq_some_iff.1 hg).1
  by_cases hin:o ∈ ids
  ·obtain ⟨j,hj⟩:=List.getElem?_of_mem hin
   show (setL G ids G1)[o]?=_
   rw [setL_hit hnd hGl hGl1 hj,same hj ?_]
   ·exact hg
   ·simpa [keepF,hin] using ho
  ·show (setL G ids G1)[o]?=_
   rw [setL_old hin hol]
   exact hg
 let H2:=setL (pruneH fK H) ids (bkOs ids H.length X')
 have hHl:∀ i ∈ ids,i < (pruneH fK H).length:=fun i hi=>by rw [pruneH_map,List.length_map]; exact hlt i hi
 have hS2:St K1 G2 H2 w':=by
  refine ⟨?_,hS1.kb,fun o g b hg hb=>?_,fun o o' g g' b hg hg' hb hb'=>?_,fun o g x hg hx=>?_,hS1.tb⟩
  ·show (setL G ids G1).length=(setL (pruneH fK H) ids (bkOs ids H.length X')).length
   rw [setL_length hGl1,setL_length (by rw [bkOs_length]; exact hXl1),pruneH_map,List.length_map,bkOs_length,hS.len,hS1.len]
  ·rcases g2cases hg with ⟨j,_,h⟩ | ⟨ho,hol,h⟩ | ⟨j,_,_,h⟩
   ·exact hS1.gb j g b h hb
   ·have:=hS.gb o g b h hb
    refine ⟨Nat.lt_of_lt_of_le this.1 hX1.size,fun hk=>?_⟩
    rcases hX1.knew b hk with h' | h'
    ·exact this.2 h'
    ·omega
   ·exact hS1.gb j g b h hb
  ·have sep:∀ {o o':Nat} {g g':Gh} {b j:Nat},o ∉ ids→G[o]?=some g→g.blk=some b→G1[j]?=some g'→g'.blk=some b→((∃ i,ids[j]?=some i) ∨ ids.length≤j)→False:=by
    intro o o' g g' b j ho h hb h' hb' hj
    have hbs:=(hS.gb o g b h hb).1
    rcases hj with ⟨i,hj⟩ | hj
    ·rcases old hj h' hb' with ⟨g0,h0,hb0⟩ | h0
     ·have:=hS.inj o i g g0 b h h0 hb hb0
      subst this
      exact ho (List.mem_of_getElem? hj)
     ·omega
    ·have:=hX1.gnew j g' b (by rw [hGsl]; exact hj) h' hb'
     omega
   rcases g2cases hg with ⟨j,hj,h⟩ | ⟨ho,hol,h⟩ | ⟨j,hj,ho,h⟩ <;> rcases g2cases hg' with ⟨j',hj',h'⟩ | ⟨ho',hol',h'⟩ | ⟨j',hj',ho',h'⟩
   ·obtain rfl:=hS1.inj j j' g g' b h h' hb hb'
    rw [hj] at hj'; cases hj'; rfl
   ·exact (sep (o':=0) ho' h' hb' h hb (.inl ⟨_,hj⟩)).elim
   ·obtain rfl:=hS1.inj j j' g g' b h h' hb hb'
    have:=(List.getElem?_eq_some_iff.1 hj).1
    omega
   ·exact (sep (o':=0) ho h hb h' hb' (.inl ⟨_,hj'⟩)).elim
   ·exact hS.inj o o' g g' b h h' hb hb'
   ·exact (sep (o':=0) ho h hb h' hb' (.inr hj')).elim
   ·obtain rfl:=hS1.inj j j' g g' b h h' hb hb'
    have:=(List.getElem?_eq_some_iff.1 hj').1
    omega
   ·exact (sep (o':=0) ho' h' hb' h hb (.inr hj)).elim
   ·obtain rfl:=hS1.inj j j' g g' b h h' hb hb'
    omega
  ·have hcx:=setL_cases hnd hHl (by rw [bkOs_length]; exact hXl1) hx
   have hlenE:(pruneH fK H).length=G.length:=by rw [pruneH_map,List.length_map,hS.len]
   have new:∀ {j:Nat},G1[j]?=some g→(bkOs ids H.length X')[j]?=some x→ObR K1 w'.heap G2 g x:=by
    intro j h1 h2
    rw [bkOs_get] at h2
    cases hy:X'[j]? with
    | none=>rw [hy] at h2; cases h2
    | some y =>
     rw [hy] at h2
     simp at h2
     subst h2
     exact bkO_ok g2new (hS1.ob j g y h1 hy)
   rcases g2cases hg with ⟨j,hj,h⟩ | ⟨ho,hol,h⟩ | ⟨j,hj,ho,h⟩
   ·rcases hcx with ⟨j',hj',h'⟩ | ⟨ho',_,_⟩ | ⟨j',hj',ho',h'⟩
    ·have:=(List.getElem?_inj (List.getElem?_eq_some_iff.1 hj).1 hnd).1 (hj.trans hj'.symm)
     subst this
     exact new h h'
    ·exact absurd (List.mem_of_getElem? hj) ho'
    ·have:=hGl o (List.mem_of_getElem? hj)
     omega
   ·rcases hcx with ⟨j',hj',h'⟩ | ⟨ho',_,h'⟩ | ⟨j',hj',ho',h'⟩
    ·exact absurd (List.mem_of_getElem? hj') ho
    ·rw [pruneH_map,List.getElem?_map] at h'
     cases hy:H[o]? with
     | none=>rw [hy] at h'; cases h'
     | some y =>
      rw [hy] at h'
      simp at h'
      subst h'
      refine ObR.prune hMk hMg (fun b hb=>fr b (hS.gb o g b h hb).1 fun i g' hi hg' e=>?_) (hS.ob o g y h hy)
      have:=hS.inj o i g g' b h hg' hb e
      subst this
      exact ho hi
    ·omega
   ·rcases hcx with ⟨j',hj',h'⟩ | ⟨ho',hol',_⟩ | ⟨j',hj',ho',h'⟩
    ·have:=hlt o (List.mem_of_getElem? hj')
     rw [← hS.len] at this
     omega
    ·omega
    ·have:j=j':=by omega
     subst this
     exact new h h'
 have hX2:Ext (kpf kl) B.K0 B.G0 B.w0 K1 G2 w':=by
  refine hX.trans ⟨hX1.os,hX1.tape,hX1.output,hX1.size,hX1.k,hX1.knew,?_,fun o g0 g b h0 hg hb=>?_,fun o g b ho hg hb=>?_,fun o g0 ho h0=>?_,fun b hb hn=>fr b hb fun o g _ hg=>hn o g hg⟩
  ·show G.length≤(setL G ids G1).length
   rw [setL_length hGl1]; omega
  ·rcases g2cases hg with ⟨j,hj,h⟩ | ⟨_,_,h⟩ | ⟨j,hj,ho,h⟩
   ·rcases old hj h hb with ⟨g0',h0',hb0⟩ | h'
    ·rw [h0] at h0'; cases h0'; exact .inl hb0
    ·exact .inr h'
   ·rw [h0] at h; cases h; exact .inl hb
   ·have:=(List.getElem?_eq_some_iff.1 h0).1
    omega
  ·rcases g2cases hg with ⟨j,hj,h⟩ | ⟨_,hol,h⟩ | ⟨j,hj,_,h⟩
   ·have:=hGl o (List.mem_of_getElem? hj)
    omega
   ·omega
   ·exact hX1.gnew j g b (by rw [hGsl]; exact hj) h hb
  ·exact hMg o g0 (hf2 o ho) h0
 have hRV:RelV (cx P kl n B) (pruneE fK E) H2 c' (bkV ids H.length r) a w':=by
  refine ⟨K1,G2,hX2,hS2,fun m=>by rw [get_pruneE]; exact VR.prune hMk hMg _ _ (hE m),hdf,hn,fun o ho=>?_,bkV_ok g2new hv⟩
  obtain ⟨x,hx,hkt⟩:=hkp o ho
  have hol:=(List.getElem?_eq_some_iff.1 hx).1
  by_cases hin:o ∈ ids
  ·obtain ⟨j,hj⟩:=List.getElem?_of_mem hin
   have hk:kpf (maskK ch 0 (kinds X)) j=true:=hf1 j o hj (hf2 o ho)
   obtain ⟨y',hy',hkt'⟩:=hkp1 j hk
   refine ⟨bkO ids H.length y',?_,by rw [bkO_kept]; exact hkt'⟩
   show (setL _ ids _)[o]?=_
   rw [setL_hit hnd hHl (by rw [bkOs_length]; exact hXl1) hj,bkOs_get,hy']
   rfl
  ·refine ⟨x.prune fK,?_,by cases x <;> first | rfl | cases hkt⟩
   show (setL _ ids _)[o]?=_
   rw [setL_old hin (by rw [pruneH_map,List.length_map]; exact hol),pruneH_map,List.getElem?_map,hx]
   rfl
 exact hK' c' r X' w' hpost hv.ok hRV

def keepC (ids cho:List Nat) (H:List Ob) (o:Nat):Bool:=keepF ids H o && !hasN cho o
def chOk (ch cho:List Nat):Nat→List Nat→Bool
 | _,[]=>true
 | j,i::ids=>(bif hasN ch j then hasN cho i else true) && chOk ch cho (j+1) ids
def freeK (kl:List Bool):List Nat→Bool
 | []=>true
 | i::l=>!kpf kl i && freeK kl l
theorem chOk_get {ch cho:List Nat}:∀ {ids:List Nat} {k j i:Nat},chOk ch cho k ids=true→ids[j]?=some i→hasN cho i=false→hasN ch (k+j)=false
 | [],_,_,_,_,h,_=>by simp at h
 | x::ids,k,0,i,h,hj,hi=>by
  simp only [chOk,Bool.and_eq_true] at h
  simp at hj
  subst hj
  have:=h.1
  cases hc:hasN ch k with
  | false=>simp
  | true=>rw [hc,cond_true,hi] at this; cases this
 | x::ids,k,j+1,i,h,hj,hi=>by
  simp only [chOk,Bool.and_eq_true] at h
  rw [show k+(j+1)=k+1+j by omega]
  exact chOk_get h.2 (by simpa using hj) hi
theorem freeK_get {kl:List Bool} {o:Nat}:∀ {l:List Nat},freeK kl l=true→kpf kl o=true→hasN l o=false
 | [],_,_=>rfl
 | x::l,h,ho=>by
  simp only [freeK,Bool.and_eq_true] at h
  simp only [hasN]
  by_cases e:o=x
  ·subst e; simp [ho] at h
  ·rw [beq_false_of_ne e,cond_false]
   exact freeK_get h.2 ho
theorem keepC_1 {ids ch cho:List Nat} {H X:List Ob} (hX:subH ids H ids=some X) (hc:chOk ch cho 0 ids=true):∀ j i:Nat,ids[j]?=some i→keepC ids cho H i=true→kpf (maskK ch 0 (kinds X)) j=true:=by
 intro j i hj h
 simp only [keepC,Bool.and_eq_true,Bool.not_eq_true'] at h
 obtain ⟨hl,hg⟩:=subH_get hX
 obtain ⟨x,hx,hr⟩:=hg j i hj
 have hk:(obAt H i).kept=true:=by
  have h1:=h.1
  have hm:i ∈ ids:=List.mem_of_getElem? hj
  simpa [keepF,hm] using h1
 rw [maskK_get,kinds_at hx (by rw [rnO_kept hr]; exact hk),chOk_get hc hj h.2]
 rfl
theorem keepC_2 {ids cho:List Nat} {H:List Ob} {kl:List Bool} (hk:kpOk (kpf kl) H) (hf:freeK kl cho=true):∀ o,kpf kl o=true→keepC ids cho H o=true:=by
 intro o ho
 obtain ⟨x,hx,hkx⟩:=hk o ho
 have:(obAt H o).kept=true:=by rw [obAt_eq hx]; exact hkx
 simp [keepC,keepF,this,freeK_get hf ho]
theorem Rg.callC {o:Oper} {l:List Oper} {f:FuncId} {av args:List Va} {X:List Ob} {ch:List Nat} {Post:Va→List Ob→Prop} (ids cho:List Nat) (hs:DoesC P f args X ch Post) (ha:Is (callArgs E o) (some (f,av))) (hp:Is (rnAs ids av) (some args)) (hXs:Is (subH ids H ids) (some X)) (hids:idsOk H.length ids=true) (hch:chOk ch cho 0 ids=true) (hfr:freeK kl cho=true) (hok:callOk n true E o)
  (cont:∀ r X',Post r X'→r.ok→RgEnd P kl n B ops K (run1 P kl n ops.toList l ⟨eput (pruneE (keepC ids cho H) E) o.dst (bkV ids H.length r),setL (pruneH (keepC ids cho H) H) ids (bkOs ids H.length X'),True⟩)):Rg P kl n B ops (o::l) E H K:=by
 obtain ⟨c,fop,caps,e1,e2,e3,e4,rfl⟩:=callArgs_spec ha
 obtain ⟨hd,hk⟩:=callOk_spec hok e1 e3
 intro hB a w Q hR hKK
 refine wpList_plain e2 fun K' hK'=>?_
 have hkp:kpOk (kpf kl) H:=by obtain ⟨_,_,_,_,_,_,_,h⟩:=hR; exact h
 exact callC_wp ids ch (keepC ids cho H) hs (keepC_1 hXs hch) (keepC_2 hkp hfr) e1 e3 hk e4 hp hXs hids hR fun c' r X' w' h1 h2 h3=>hK' _ _ (Rg.run (cont r X' h1 h2) hB _ _ _ (h3.put o.dst (dstOk_lt hd)) hKK)
end

theorem Rel.forgetC {C:Cx} {E:Env} {H:List Ob} {a:Act} {w:World} {ids:List Nat} {X:List Ob} (fK:Nat→Bool) (hX:subH ids H ids=some X) (hids:idsOk H.length ids=true) (hR:Rel C E H a w) :
  Rel C (pruneE fK E) (setL (pruneH fK H) ids (bkOs ids H.length X)) a w:=by
 obtain ⟨Kk,G,h1,h2,h3,h4,h5,h6⟩:=hR
 obtain ⟨hnd,hlt⟩:=idsOk_spec hids
 obtain ⟨hl,hg⟩:=subH_get hX
 have hpl:(pruneH fK H).length=H.length:=by rw [pruneH_map,List.length_map]
 have hM:Mn Kk Kk w.heap w.heap:=⟨fun _ h=>h,fun _ _=>rfl⟩
 have hMg:Mg fK G G:=fun _ _ _ h=>h
 have hxl:ids.length≤(bkOs ids H.length X).length:=by rw [bkOs_length]; omega
 have hlen:(setL (pruneH fK H) ids (bkOs ids H.length X)).length=H.length:=by rw [setL_length hxl,bkOs_length,hpl]; omega
 have key:∀ (o:Nat) (y:Ob),(setL (pruneH fK H) ids (bkOs ids H.length X))[o]?=some y→∃ x,H[o]?=some x∧(y=x ∨ y=x.prune fK):=by
  intro o y hy
  rcases setL_cases hnd (fun i hi=>by rw [hpl]; exact hlt i hi) hxl hy with ⟨j,hj,h⟩ | ⟨_,_,h⟩ | ⟨j,hj,_,h⟩
  ·rw [bkOs_get] at h
   obtain ⟨x,hx,hr⟩:=hg j o hj
   rw [hx] at h
   simp only [Option.map_some,bk_rnO hr,Option.some.injEq] at h
   have hol:=hlt o (List.mem_of_getElem? hj)
   rw [obAt_eq (List.getElem?_eq_getElem hol)] at h
   exact ⟨_,List.getElem?_eq_getElem hol,.inl h.symm⟩
  ·rw [pruneH_map,List.getElem?_map] at h
   cases hx:H[o]? with
   | none=>rw [hx] at h; cases h
   | some x=>rw [hx] at h; exact ⟨x,rfl,.inr (Option.some.inj h).symm⟩
  ·have:=(List.getElem?_eq_some_iff.1 h).1
   rw [bkOs_length] at this
   omega
 refine ⟨Kk,G,h1,⟨by rw [hlen]; exact h2.len,h2.kb,h2.gb,h2.inj,fun o g y hgo hy=>?_,h2.tb⟩,fun m=>by rw [get_pruneE]; exact VR.prune hM hMg _ _ (h3 m),h4,h5,fun o ho=>?_⟩
 ·obtain ⟨x,hx,rfl | rfl⟩:=key o y hy
  ·exact h2.ob o g _ hgo hx
  ·exact ObR.prune hM hMg (fun _ _=>rfl) (h2.ob o g _ hgo hx)
 ·obtain ⟨x,hx,hk⟩:=h6 o ho
  have hol:=(List.getElem?_eq_some_iff.1 hx).1
  obtain ⟨x',hx',h⟩:=key o _ (List.getElem?_eq_getElem (by rw [hlen]; exact hol))
  rw [hx] at hx'; cases hx'
  refine ⟨_,List.getElem?_eq_getElem (by rw [hlen]; exact hol),?_⟩
  rcases h with h | h
  ·rw [h]; exact hk
  ·rw [h]; cases x <;> first | rfl | cases hk
section
variable {P:Program} {kl:List Bool} {n:Nat} {B:Bs} {K:Env→List Ob→Prop} {E:Env} {H:List Ob} {ops:Array Oper}
theorem Rg.callGC {o:Oper} {l:List Oper} {f:FuncId} {av args:List Va} {X Y:List Ob} {g:Bool} {v:Va} {ch:List Nat} (ids cho:List Nat) (hs:g=true→DoesC P f args X ch fun r X'=>r=v∧X'=Y) (hY:g=false→Y=X) (ha:Is (callArgsX E o) (some (f,av))) (hb:Is (guardX ops.toList E o) (some g)) (hp:Is (rnAs ids av) (some args)) (hXs:Is (subH ids H ids) (some X)) (hids:idsOk H.length ids=true) (hch:chOk ch cho 0 ids=true) (hfr:freeK kl cho=true) (hok:callOk n g E o)
  (cont:RgEnd P kl n B ops K (run1 P kl n ops.toList l ⟨eput (pruneE (keepC ids cho H) E) o.dst (wrapG o.guard g (bkV ids H.length v)),setL (pruneH (keepC ids cho H) H) ids (bkOs ids H.length Y),True⟩)):Rg P kl n B ops (o::l) E H K:=by
 unfold Is callArgsX at ha
 unfold Is guardX at hb
 split at ha
 rotate_left
 ·cases ha
 rename_i c h1
 split at ha
 rotate_left
 ·cases ha
 rename_i fop h3
 split at ha
 rotate_left
 ·cases ha
 rename_i f' caps h4
 cases ha
 obtain ⟨hd,hk⟩:=callOk_spec hok h1 h3
 have hrun:=Rg.run cont
 intro hB a w Q hR hKK
 have hkp:kpOk (kpf kl) H:=by obtain ⟨_,_,_,_,_,_,_,h⟩:=hR; exact h
 cases hg:o.guard with
 | none =>
  rw [hg] at hb
  obtain rfl:true=g:=Option.some.inj hb
  refine wpList_plain hg fun K' hK'=>?_
  rw [wrapG_none hg] at hrun
  refine callC_wp ids ch (keepC ids cho H) (hs rfl) (keepC_1 hXs hch) (keepC_2 hkp hfr) h1 h3 hk h4 hp hXs hids hR fun c' r X' w' ⟨h5,h6⟩ _ hRV=>?_
  subst h5; subst h6
  exact hK' _ _ (hrun hB _ _ _ (hRV.put o.dst (dstOk_lt hd)) hKK)
 | some gw =>
  obtain ⟨j,want⟩:=gw
  rw [hg] at hb
  have hw:=guardB_ok hR hg hb
  rw [wrapG_some hg] at hrun
  refine wpList_step fun K' hK'=>?_
  cases g with
  | true =>
   rw [if_pos hw]
   refine callC_wp ids ch (keepC ids cho H) (hs rfl) (keepC_1 hXs hch) (keepC_2 hkp hfr) h1 h3 hk h4 hp hXs hids hR fun c' r X' w' ⟨h5,h6⟩ _ hRV=>?_
   subst h5; subst h6
   exact hK' _ _ (hrun hB _ _ _ (RelV.put (v:=.cnd true _) (by
    obtain ⟨Kk,G,q1,q2,q3,q4,q5,q6,q7⟩:=hRV
    exact ⟨Kk,G,q1,q2,q3,q4,q5,q6,by simp only [VR]; exact ⟨fun _=>q7,fun e=>Bool.noConfusion e⟩⟩) o.dst (dstOk_lt hd)) hKK)
  | false =>
   rw [if_neg (by rw [hw]; simp)]
   rw [hY rfl] at hrun
   obtain ⟨Kk,G,hX,hS,hE,hdf,hn,hkp'⟩:=hR.forgetC (keepC ids cho H) hXs hids
   exact hK' _ _ (hrun hB _ _ _ (RelV.put (C:=cx P kl n B) (v:=.cnd false _) ⟨Kk,G,hX,hS,hE,hdf,hn,hkp',by simp [VR]⟩ o.dst (dstOk_lt hd)) hKK)
end
section
variable {P:Program} {kl:List Bool} {n:Nat} {B:Bs} {K:Env→List Ob→Prop} {E:Env} {H:List Ob} {ops:List Oper} {obs:List En} {l:Plan}
theorem Br.callCG {k:Nat} {L:List Nat} {f:FuncId} {av args:List Va} {X Y:List Ob} {o:Oper} {v:Va} {ch:List Nat} (ids cho:List Nat) (hs:DoesC P f args X ch fun r X'=>r=v∧X'=Y) (hk:Is ops[k]? (some o)) (ha:Is (callArgsX E o) (some (f,av))) (hb:Is (guardX ops E o) (some true)) (hp:Is (rnAs ids av) (some args)) (hXs:Is (subH ids H ids) (some X)) (hids:idsOk H.length ids=true) (hch:chOk ch cho 0 ids=true) (hfr:freeK kl cho=true) (hok:callOk n true E o)
  (hag:againAll L (some (keepC ids cho H)) (setL (pruneH (keepC ids cho H) H) ids (bkOs ids H.length Y)) obs)
  (cont:RdEnd P kl n B ops.toArray K (runD P kl n ops l ⟨obs,eput (pruneE (keepC ids cho H) E) o.dst (wrapG o.guard true (bkV ids H.length v)),setL (pruneH (keepC ids cho H) H) ids (bkOs ids H.length Y),True⟩)):Br P kl n B ops.toArray k L l obs E H K:=by
 unfold Is at *
 unfold callArgsX at ha
 split at ha
 rotate_left
 ·cases ha
 rename_i c h1
 split at ha
 rotate_left
 ·cases ha
 rename_i fop h3
 split at ha
 rotate_left
 ·cases ha
 rename_i f' caps h4
 cases ha
 obtain ⟨hd,hk1,hk2⟩:=callOk_spec hok h1 h3
 have h':=Dr.run cont
 simp only at h'
 rw [← dst_eq hk] at h'
 refine Br.eff (po:=some (keepC ids cho H)) (fun _=>?_) hag h'
 intro E' hE' a w Q K' hR hK
 have hop:=looks_op (getA hk) hE'
 rw [h1] at hop
 have hfo:rnd E fop=rnd E' fop:=hop fop (by simp [Op.operands,Call.operands,h3])
 have hag':Agree c.args.toList E E':=fun x hx=>hop x (by simp only [Op.operands,Call.operands,Array.toList_append,List.mem_append]; exact .inr hx)
 rw [Agree.opOk hfo] at hk1
 rw [Agree.allOk hag'] at hk2
 rw [Agree.opnd hfo] at h4
 rw [Agree.opnds hag'] at hp
 rw [dst_eq hk] at hK
 unfold wpOp
 simp only [getA hk]
 unfold guardX at hb
 cases hgd:o.guard with
 | none =>
  rw [hgd] at hb hK
  rw [if_pos (by simp [Region.wanted,hgd])]
  have hkp:kpOk (kpf kl) H:=by obtain ⟨_,_,_,_,_,_,_,h⟩:=hR; exact h
  refine .inl (callC_wp ids ch (keepC ids cho H) hs (keepC_1 hXs hch) (keepC_2 hkp hfr) h1 h3 ⟨hk1,hk2⟩ h4 hp hXs hids hR fun c' r X' w' ⟨hr,hX⟩ _ hRV=>?_)
  subst hr; subst hX
  exact hK _ _ (hRV.put o.dst (dstOk_lt hd))
 | some gw =>
  obtain ⟨j,want⟩:=gw
  rw [hgd] at hb hK
  have hb':guardB ops.toArray.toList E j want=some true:=by simpa using hb
  rw [← guardB_congr (getA hk) hgd hE'] at hb'
  have hw:=guardB_ok hR hgd hb'
  rw [if_pos hw]
  have hkp:kpOk (kpf kl) H:=by obtain ⟨_,_,_,_,_,_,_,h⟩:=hR; exact h
  refine .inl (callC_wp ids ch (keepC ids cho H) hs (keepC_1 hXs hch) (keepC_2 hkp hfr) h1 h3 ⟨hk1,hk2⟩ h4 hp hXs hids hR fun c' r X' w' ⟨hr,hX⟩ _ hRV=>?_)
  subst hr; subst hX
  exact hK _ _ (RelV.put (v:=.cnd true _) (by
   obtain ⟨Kk,G,q1,q2,q3,q4,q5,q6,q7⟩:=hRV
   exact ⟨Kk,G,q1,q2,q3,q4,q5,q6,by simp only [VR]; exact ⟨fun _=>q7,fun e=>Bool.noConfusion e⟩⟩) o.dst (dstOk_lt hd))
end
section
variable {P:Program} {kl:List Bool} {n:Nat} {B:Bs} {Q:Qt} {E:Env} {H:List Ob} {a:Act} {w:World}
theorem Rel.repl {i j:Nat} (hB:B.G0.length=kl.length) (hi:kpf kl i=false) (hj:kl.length≤j) (hne:i ≠ j) (hil:i < H.length) (hjl:j < H.length) (h:Rel (cx P kl n B) E H a w) :
  Rel (cx P kl n B) (pruneE (fun o=>!(o == j)) (swE i j E)) ((pruneH (fun o=>!(o == j)) (swH i j H)).set j .gone) a w:=by
 obtain ⟨K,G,hX,hS,hE,hd,hn,hk⟩:=h
 have hiG:i < G.length:=by rw [hS.len]; exact hil
 have hjG:j < G.length:=by rw [hS.len]; exact hjl
 have hjG0:B.G0.length≤j:=by rw [hB]; exact hj
 have hg:=fun o=>swL_get hiG hjG o
 have hG:∀ (o:Nat) (g:Gh),G[o]?=some g→(swL i j G)[swN i j o]?=some g:=fun o g ho=>by rw [hg,swN_swN]; exact ho
 have hH:∀ o,(swH i j H)[o]?=(H[swN i j o]?).map (swO i j):=fun o=>by rw [swH_eq hil hjl,swL_get (by simpa using hil) (by simpa using hjl),List.getElem?_map]
 have hsn:∀ o,o ≠ j→swN i j o=if o=i then j else o:=fun o ho=>by rw [swN_eq]; split <;> simp_all
 have hMg:Mg (fun o=>!(o == j)) (swL i j G) ((swL i j G).set j ⟨none,undef⟩):=fun o g ho h=>by
  have:o ≠ j:=by simpa using ho
  rw [List.getElem?_set_ne (Ne.symm this)]; exact h
 have hM:Mn K K w.heap w.heap:=⟨fun _ h=>h,fun _ _=>rfl⟩
 have g2:∀ {o:Nat} {g:Gh} {b:Nat},((swL i j G).set j ⟨none,undef⟩)[o]?=some g→g.blk=some b→o ≠ j∧G[swN i j o]?=some g:=by
  intro o g b h hb
  by_cases e:o=j
  ·subst e
   rw [List.getElem?_set_self (by rw [swL_length]; exact hjG)] at h
   cases h; cases hb
  ·rw [List.getElem?_set_ne (Ne.symm e),hg] at h
   exact ⟨e,h⟩
 refine ⟨K,(swL i j G).set j ⟨none,undef⟩,?_,?_,fun m=>?_,hd,hn,fun o ho=>?_⟩
 ·exact { hX with
   glen:=by rw [List.length_set,swL_length]; exact hX.glen
   gold:=fun o g0 g b h0 h1 hb=>by
    obtain ⟨hoj,h2⟩:=g2 h1 hb
    rw [hsn o hoj] at h2
    split at h2
    ·exact .inr (hX.gnew j g b hjG0 h2 hb)
    ·exact hX.gold o g0 g b h0 h2 hb
   gnew:=fun o g b ho h1 hb=>by
    obtain ⟨hoj,h2⟩:=g2 h1 hb
    rw [hsn o hoj] at h2
    split at h2
    ·exact hX.gnew j g b hjG0 h2 hb
    ·exact hX.gnew o g b ho h2 hb
   gsame:=fun o g0 ho h0=>by
    have hol:=(List.getElem?_eq_some_iff.1 h0).1
    have h1:o ≠ j:=Nat.ne_of_lt (Nat.lt_of_lt_of_le hol hjG0)
    have h2:o ≠ i:=fun e=>by subst e; exact absurd (hi.symm.trans ho) (by simp)
    rw [List.getElem?_set_ne (Ne.symm h1),hg,hsn o h1,if_neg h2]
    exact hX.gsame o g0 ho h0 }
 ·refine ⟨by rw [List.length_set,List.length_set,swL_length,pruneH_map,List.length_map,swH_eq hil hjl,swL_length,List.length_map]; exact hS.len,hS.kb,fun o g b h1 h2=>hS.gb _ g b (g2 h1 h2).2 h2,fun o o' g g' b h1 h2 h3 h4=>?_,fun o g x h1 h2=>?_,hS.tb⟩
  ·have:=hS.inj _ _ g g' b (g2 h1 h3).2 (g2 h2 h4).2 h3 h4
   rw [← swN_swN i j o,this,swN_swN]
  ·by_cases e:o=j
   ·subst e
    rw [List.getElem?_set_self (by rw [pruneH_map,List.length_map,swH_eq hil hjl,swL_length,List.length_map]; exact hjl)] at h2
    cases h2; trivial
   ·rw [List.getElem?_set_ne (Ne.symm e),hg] at h1
    rw [List.getElem?_set_ne (Ne.symm e),pruneH_map,List.getElem?_map,hH] at h2
    cases hy:H[swN i j o]? with
    | none=>rw [hy] at h2; cases h2
    | some y =>
     rw [hy] at h2
     simp only [Option.map_some,Option.some.injEq] at h2
     subst h2
     exact ObR.prune hM hMg (fun _ _=>rfl) (swO_ok hG (hS.ob _ g y h1 hy))
 ·rw [get_pruneE,swE_get]
  exact VR.prune hM hMg _ _ (swV_ok hG _ _ (hE m))
 ·obtain ⟨x,hx,hkx⟩:=hk o ho
  have hol:=kpf_lt ho
  have h1:o ≠ j:=by omega
  have h2:o ≠ i:=fun e=>by subst e; exact absurd (hi.symm.trans ho) (by simp)
  refine ⟨(swO i j x).prune (fun o=>!(o == j)),by rw [List.getElem?_set_ne (Ne.symm h1),pruneH_map,List.getElem?_map,hH,hsn o h1,if_neg h2,hx]; rfl,?_⟩
  cases x <;> first | rfl | cases hkx
theorem Wp.repl (i j:Nat) {c:Code} (hi:kpf kl i=false) (hj:Nat.ble kl.length j=true) (hne:i ≠ j) (hil:i < H.length) (hjl:j < H.length)
  (h:Wp P kl n B c Q (pruneE (fun o=>!(o == j)) (swE i j E)) ((pruneH (fun o=>!(o == j)) (swH i j H)).set j .gone)):Wp P kl n B c Q E H:=fun hB a w hR=>h hB a w (Rel.repl hB hi (Nat.le_of_ble_eq_true hj) hne hil hjl hR)
attribute [go_sem] maskK hasN keepC chOk freeK
end
end Go.Vc
